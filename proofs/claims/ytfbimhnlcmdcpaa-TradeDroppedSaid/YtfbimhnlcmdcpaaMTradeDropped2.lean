/- A part of the proof: After Drop the trades are valid and the heading is not there, each other trade remains, no reference is lost whose two headings remain, and a heading to which none refers goes alone: for all lists of numbers. Without conditions of its own. -/
import Derived.Test.YtfbimhnlcmdcpaaProg
import Derived.Below
import Derived.Deep.Draws
import Derived.Deep.AppendLies
import Derived.Maps.AppendAt
import Derived.OwnWalk
import Derived.Laws.BytesArg
import Derived.Laws.MakeOwn
import Derived.Laws.OwnMore
import Derived.Deep.OwnRows
import Derived.Tactics
import Derived.Lib.ConvBytes
import Derived.Laws.Slices
import Derived.WalkKit
import Derived.KernelRfl
import Derived.RowKit3
import Derived.Deep.LoopGhost
import Derived.Deep.QuietTactic
import Derived.BigQuiet
import Derived.WideLaws
import Derived.Deep.DeepCutAuto
import Derived.Deep.CutBlock
import Derived.Deep.RegionHeld3
import Derived.Laws.Rows
import Derived.Lib.AppendStr
import Derived.ArgAppend
import Derived.Laws.IdiomCopy
import Derived.OrdersHeld
import Derived.Laws.BitsLemmas
import Derived.RowKit
import Derived.Test.YtfbimhnlcmdcpaaMTradeDropped1
import Derived.Lib.OthersKept
import Derived.WalkSmall
import Derived.Lib.Hide
import Derived.Lib.Strings
import Derived.RegionTactic
import Derived.BigRegion
import Derived.IntWalk
import Derived.Deep.RegionLaw
namespace Go.Proofs.Ytfbimhnlcmdcpaa.Pa
open Go.RowKit Go.Proofs.YtfbimhnlcmdcpaaW.PrintWords Go.Proofs.YtfbimhnlcmdcpaaW.PrintLast Go.Proofs.YtfbimhnlcmdcpaaW.PrintMore
attribute [local go_sem] max2_int min2_int max_two min_two max_three min_three max_four min_four   -- for this text's walks alone
set_option linter.unusedVariables false
set_option linter.unusedSimpArgs false




def errW : Option Int → Value
  | none => .nilIface
  | some c => .iface 0 (.int .i64 c)
theorem errW_none : errW none = .nilIface := rfl
theorem errW_some (c : Int) : errW (some c) = .iface 0 (.int .i64 c) := rfl

theorem info3 : (Try.prog.info? 3).map (fun i => (i.zero, i.size, i.bytes)) = some (some (.int .i64 0), 1, 8) := by kernel_rfl
theorem info39 : (Try.prog.info? 39).map (fun i => (i.zero, i.size, i.bytes)) = some (some (.agg #[(.string ⟨#[]⟩), (.int .i64 0), (.int .i64 0), (.slice none 0 0)]), 4, 56) := by kernel_rfl
theorem info51 : (Try.prog.info? 51).map (fun i => (i.zero, i.size, i.bytes)) = some (some (.agg #[(.string ⟨#[]⟩), (.int .i64 0)]), 2, 24) := by kernel_rfl
-- the values' own types
/-! #### struct type 51 -/
structure S51 where
  f0 : ByteArray
  f1 : Int
def z51 : S51 := ⟨(⟨#[]⟩ : ByteArray), (0 : Int)⟩
def k51 : Kd S51 := Kd.iso (Kd.pair Kd.string (Kd.int .i64)) (fun x : S51 => (x.f0, x.f1))
theorem k51_open {w : World} {x : S51} {cs : List Value} (h : k51.K w x cs) : cs = [.string x.f0, .int .i64 x.f1] := by
  obtain ⟨_, _, rfl, rfl, rfl⟩ := h
  exact rfl
theorem k51_mkM (w : World) (base : Nat) (ok : Nat → Prop) (x : S51)  : k51.M w base ok x [.string x.f0, .int .i64 x.f1] := ⟨[.string x.f0], [.int .i64 x.f1], rfl, rfl, rfl⟩
def rd_T51 (xs : List S51) (i : Int) : S51 := xs.getD i.toNat z51
theorem at_T51 {w : World} {A : Option Addr} {n : Nat} {xs : List S51} (h : Kd.C k51 w A n xs) (i : Int) (h0 : 0 ≤ i) (h1 : i < n) : ∃ ad , A = some ad ∧ w.cell? (ad.add (i.toNat * 2)) = some (.string (rd_T51 xs i).f0) ∧ w.cell? ⟨(ad.add (i.toNat * 2)).block, (ad.add (i.toNat * 2)).off + 1, none⟩ = some (.int .i64 (rd_T51 xs i).f1) := by
  obtain ⟨ad, c, e, _, hK, hc0⟩ := Kd.C_get h z51 i h0 h1
  have hc : ∀ j u, c[j]? = some u → w.cell? (ad.add (i.toNat * 2 + j)) = some u := hc0
  obtain rfl := k51_open hK
  exact ⟨ad, e, hc 0 _ rfl, by rw [← add_field _ _ 1 (by omega)]; exact hc 1 _ rfl⟩

def rd_L3 (xs : List (List Int)) (i : Int) : (List Int) := xs.getD i.toNat ([] : List Int)
theorem at_L3 {w : World} {A : Option Addr} {n : Nat} {xs : List (List Int)} (h : Kd.C (Kd.slice 3 (Kd.int .i64)) w A n xs) (i : Int) (h0 : 0 ≤ i) (h1 : i < n) : ∃ ad A0 c0, A = some ad ∧ w.cell? (ad.add i.toNat) = some (.slice A0 (rd_L3 xs i).length c0) ∧ (rd_L3 xs i).length ≤ c0 ∧ (Kd.int .i64).C w A0 (rd_L3 xs i).length (rd_L3 xs i) := by
  obtain ⟨ad, c, e, _, hK, hc0⟩ := Kd.C_get h ([] : List Int) i h0 h1
  have hc : ∀ j u, c[j]? = some u → w.cell? (ad.add (i.toNat * 1 + j)) = some u := hc0
  obtain ⟨A0, c0, rfl, l0, g0⟩ := hK
  exact ⟨ad, A0, c0, e, by have hq := hc 0 _ rfl; rwa [Nat.mul_one, Nat.add_zero] at hq, l0, g0⟩

/-! #### struct type 39 -/
structure S39 where
  f0 : ByteArray
  f1 : Int
  f2 : Int
  f3 : (List Int)
def z39 : S39 := ⟨(⟨#[]⟩ : ByteArray), (0 : Int), (0 : Int), ([] : List Int)⟩
def k39 : Kd S39 := Kd.iso (Kd.pair Kd.string (Kd.pair (Kd.int .i64) (Kd.pair (Kd.int .i64) (Kd.slice 3 (Kd.int .i64))))) (fun x : S39 => (x.f0, x.f1, x.f2, x.f3))
theorem k39_open {w : World} {x : S39} {cs : List Value} (h : k39.K w x cs) : ∃ A3 c3, cs = [.string x.f0, .int .i64 x.f1, .int .i64 x.f2, .slice A3 x.f3.length c3] ∧ x.f3.length ≤ c3 ∧ (Kd.int .i64).C w A3 x.f3.length x.f3 := by
  obtain ⟨_, _, rfl, rfl, ⟨_, _, rfl, rfl, ⟨_, _, rfl, rfl, ⟨A3, c3, rfl, l3, g3⟩⟩⟩⟩ := h
  exact ⟨A3, c3, rfl, l3, g3⟩
theorem k39_openM {w : World} {base : Nat} {ok : Nat → Prop} {x : S39} {cs : List Value} (h : k39.M w base ok x cs) : ∃ v3, cs = [.string x.f0, .int .i64 x.f1, .int .i64 x.f2, v3] ∧ (Kd.int .i64).R 3 w base ok v3 x.f3 := by
  obtain ⟨_, _, rfl, rfl, ⟨_, _, rfl, rfl, ⟨_, _, rfl, rfl, ⟨v3, rfl, g3⟩⟩⟩⟩ := h
  exact ⟨v3, rfl, g3⟩
theorem k39_mkM (w : World) (base : Nat) (ok : Nat → Prop) (x : S39) {v3 : Value} (g3 : (Kd.int .i64).R 3 w base ok v3 x.f3) : k39.M w base ok x [.string x.f0, .int .i64 x.f1, .int .i64 x.f2, v3] := ⟨[.string x.f0], [.int .i64 x.f1, .int .i64 x.f2, v3], rfl, rfl, ⟨[.int .i64 x.f1], [.int .i64 x.f2, v3], rfl, rfl, ⟨[.int .i64 x.f2], [v3], rfl, rfl, ⟨v3, rfl, g3⟩⟩⟩⟩
def rd_T39 (xs : List S39) (i : Int) : S39 := xs.getD i.toNat z39
theorem at_T39 {w : World} {A : Option Addr} {n : Nat} {xs : List S39} (h : Kd.C k39 w A n xs) (i : Int) (h0 : 0 ≤ i) (h1 : i < n) : ∃ ad A3 c3, A = some ad ∧ w.cell? (ad.add (i.toNat * 4)) = some (.string (rd_T39 xs i).f0) ∧ w.cell? ⟨(ad.add (i.toNat * 4)).block, (ad.add (i.toNat * 4)).off + 1, none⟩ = some (.int .i64 (rd_T39 xs i).f1) ∧ w.cell? ⟨(ad.add (i.toNat * 4)).block, (ad.add (i.toNat * 4)).off + 2, none⟩ = some (.int .i64 (rd_T39 xs i).f2) ∧ w.cell? ⟨(ad.add (i.toNat * 4)).block, (ad.add (i.toNat * 4)).off + 3, none⟩ = some (.slice A3 (rd_T39 xs i).f3.length c3) ∧ (rd_T39 xs i).f3.length ≤ c3 ∧ (Kd.int .i64).C w A3 (rd_T39 xs i).f3.length (rd_T39 xs i).f3 := by
  obtain ⟨ad, c, e, _, hK, hc0⟩ := Kd.C_get h z39 i h0 h1
  have hc : ∀ j u, c[j]? = some u → w.cell? (ad.add (i.toNat * 4 + j)) = some u := hc0
  obtain ⟨A3, c3, rfl, l3, g3⟩ := k39_open hK
  exact ⟨ad, A3, c3, e, hc 0 _ rfl, by rw [← add_field _ _ 1 (by omega)]; exact hc 1 _ rfl, by rw [← add_field _ _ 2 (by omega)]; exact hc 2 _ rfl, by rw [← add_field _ _ 3 (by omega)]; exact hc 3 _ rfl, l3, g3⟩

/-! #### struct type 47 -/
structure S47 where
  f0 : ByteArray
  f1 : Int
def z47 : S47 := ⟨(⟨#[]⟩ : ByteArray), (0 : Int)⟩
def k47 : Kd S47 := Kd.iso (Kd.pair Kd.string (Kd.int .i64)) (fun x : S47 => (x.f0, x.f1))
theorem k47_open {w : World} {x : S47} {cs : List Value} (h : k47.K w x cs) : cs = [.string x.f0, .int .i64 x.f1] := by
  obtain ⟨_, _, rfl, rfl, rfl⟩ := h
  exact rfl
theorem k47_mkM (w : World) (base : Nat) (ok : Nat → Prop) (x : S47)  : k47.M w base ok x [.string x.f0, .int .i64 x.f1] := ⟨[.string x.f0], [.int .i64 x.f1], rfl, rfl, rfl⟩
def rd_T47 (xs : List S47) (i : Int) : S47 := xs.getD i.toNat z47
theorem at_T47 {w : World} {A : Option Addr} {n : Nat} {xs : List S47} (h : Kd.C k47 w A n xs) (i : Int) (h0 : 0 ≤ i) (h1 : i < n) : ∃ ad , A = some ad ∧ w.cell? (ad.add (i.toNat * 2)) = some (.string (rd_T47 xs i).f0) ∧ w.cell? ⟨(ad.add (i.toNat * 2)).block, (ad.add (i.toNat * 2)).off + 1, none⟩ = some (.int .i64 (rd_T47 xs i).f1) := by
  obtain ⟨ad, c, e, _, hK, hc0⟩ := Kd.C_get h z47 i h0 h1
  have hc : ∀ j u, c[j]? = some u → w.cell? (ad.add (i.toNat * 2 + j)) = some u := hc0
  obtain rfl := k47_open hK
  exact ⟨ad, e, hc 0 _ rfl, by rw [← add_field _ _ 1 (by omega)]; exact hc 1 _ rfl⟩

end Go.Proofs.Ytfbimhnlcmdcpaa.Pa
/- What package trade computes, as plain Lean functions over lists; no program in sight. -/
namespace Go.Proofs.Ytfbimhnlcmdcpaa.Pa
open Go.RowKit
set_option linter.unusedVariables false

abbrev Cl := S51
abbrev Hd := S39
abbrev zCl : Cl := z51
abbrev zHd : Hd := z39

/-- two strings are one -/
def sEq (a b : ByteArray) : Bool := a.data.toList == b.data.toList
/-- a string comes before another one -/
def sLt (a b : ByteArray) : Bool := Op.bytesLess a.data.toList b.data.toList
def lowB (c : UInt8) : Bool := decide (97 ≤ c.toNat) && decide (c.toNat ≤ 122)
def wordOk (s : ByteArray) : Bool :=
  decide (1 ≤ s.size) && decide (s.size ≤ 12) && !(s.data.toList == [99, 108, 97, 115, 115]) && !(s.data.toList == [102, 105, 110, 105, 115]) && s.data.toList.all lowB

def classErr (cs : List Cl) (i : Nat) : Int :=
  if wordOk (cs.getD i zCl).f0 = false then 2
  else if (cs.take i).any (fun y => sEq y.f0 (cs.getD i zCl).f0) = true then 4
  else if ¬ (-1 ≤ (cs.getD i zCl).f1 ∧ (cs.getD i zCl).f1 ≤ (cs.length : Int) - 1) then 3
  else if (i : Int) ≤ (cs.getD i zCl).f1 then 5 else 0

/-- the error of the numbers of Also from index k on -/
def alsoErr (n : Nat) (i : Nat) (l : List Int) : Nat → Nat → Int
  | 0, _ => 0
  | m + 1, k =>
    if ¬ (0 ≤ l.getD k 0 ∧ l.getD k 0 ≤ (n : Int) - 1) then 3
    else if l.getD k 0 = (i : Int) then 9
    else if 0 < k ∧ l.getD k 0 ≤ l.getD (k - 1) 0 then 5
    else alsoErr n i l m (k + 1)

def kindErr (h : Hd) : Int :=
  if (h.f2 ≠ -1 ∧ (h.f1 ≠ -1 ∨ 0 < h.f3.length)) ∨ (h.f2 = -1 ∧ h.f1 = -1 ∧ h.f3.length = 0) then 8 else 0

def headErr (cs : List Cl) (hs : List Hd) (i : Nat) : Int :=
  if wordOk (hs.getD i zHd).f0 = false then 2
  else if (hs.take i).any (fun y => sEq y.f0 (hs.getD i zHd).f0) = true then 4
  else if 0 < i ∧ sLt (hs.getD i zHd).f0 (hs.getD (i - 1) zHd).f0 = true then 5
  else if ¬ (-1 ≤ (hs.getD i zHd).f1 ∧ (hs.getD i zHd).f1 ≤ (cs.length : Int) - 1) then 3
  else if ¬ (-1 ≤ (hs.getD i zHd).f2 ∧ (hs.getD i zHd).f2 ≤ (hs.length : Int) - 1) then 3
  else if (hs.getD i zHd).f2 = (i : Int) then 9
  else if alsoErr hs.length i (hs.getD i zHd).f3 (hs.getD i zHd).f3.length 0 ≠ 0 then alsoErr hs.length i (hs.getD i zHd).f3 (hs.getD i zHd).f3.length 0
  else kindErr (hs.getD i zHd)

/-- the first error that is not 0, of i, i + 1, .. (m of them) -/
def firstErr (g : Nat → Int) : Nat → Nat → Int
  | 0, _ => 0
  | m + 1, i => if g i ≠ 0 then g i else firstErr g m (i + 1)

def checkT (cs : List Cl) (hs : List Hd) : Int :=
  if 6 < cs.length ∨ 6 < hs.length then 6
  else if firstErr (classErr cs) cs.length 0 ≠ 0 then firstErr (classErr cs) cs.length 0
  else firstErr (headErr cs hs) hs.length 0

/-- class a is under class b (k: a bound on the classes on the way) -/
def upT (cs : List Cl) : Nat → Int → Int → Bool
  | 0, _, _ => false
  | k + 1, a, b => if a < 0 then false else if a = b then true else upT cs k (cs.getD a.toNat zCl).f1 b
def isUp (cs : List Cl) (a b : Int) : Bool := upT cs cs.length a b

def nats (n : Nat) : List Int := (List.range n).map Int.ofNat
def inN (c : Int) (n : Nat) : Bool := decide (0 ≤ c) && decide (c < (n : Int))

def pathT (cs : List Cl) (c : Int) : List Int := (nats cs.length).filter (fun o => isUp cs c o)
def leastT (cs : List Cl) (a b : Int) : Int := (((nats cs.length).reverse).find? (fun c => isUp cs a c && isUp cs b c)).getD (-1)
def trade_Check.f (cs : List Cl) (hs : List Hd) : Option Int := some (checkT cs hs)
def trade_Least.f (cs : List Cl) (hs : List Hd) (a b : Int) : Option (Int × Int) :=
  some (if checkT cs hs ≠ 0 then (0, checkT cs hs) else if (inN a cs.length && inN b cs.length) = false then (0, 3) else (leastT cs a b, 0))
/-- where one comes to an end, and how many pointers were left -/
def followGo (hs : List Hd) : Nat → Int → Int → Option (Int × Int)
  | 0, _, _ => none
  | k + 1, h, s => if (hs.getD h.toNat zHd).f2 ≠ -1 then followGo hs k (hs.getD h.toNat zHd).f2 (s + 1) else some (h, s)
def followT (hs : List Hd) (h : Int) : Option (Int × Int) := followGo hs (hs.length + 1) h 0
def trade_Follow.f (cs : List Cl) (hs : List Hd) (h : Int) : Option (Int × Int × Int) :=
  some (if checkT cs hs ≠ 0 then (0, 0, checkT cs hs) else if inN h hs.length = false then (0, 0, 3)
    else match followT hs h with | none => (0, 0, 9) | some (e, s) => (e, s, 0))

def isTradeT (hs : List Hd) (h : Int) : Bool := decide ((hs.getD h.toNat zHd).f2 = -1) && decide ((hs.getD h.toNat zHd).f1 ≠ -1)
def begins (s b : ByteArray) : Bool := b.data.toList.isPrefixOf s.data.toList
/-- heading h, whose word begins so, leads to trade e -/
def leadsTo (hs : List Hd) (b : ByteArray) (h e : Int) : Bool :=
  begins (hs.getD h.toNat zHd).f0 b && (match followT hs h with | none => false | some (x, _) => decide (x = e)) && isTradeT hs e
def mayT (hs : List Hd) (b : ByteArray) : List Int :=
  (nats hs.length).filter (fun e => (nats hs.length).any (fun h => leadsTo hs b h e))
def trade_May.f (cs : List Cl) (hs : List Hd) (b : ByteArray) : Option (List Int × Int) :=
  some (if checkT cs hs ≠ 0 then ([], checkT cs hs) else (mayT hs b, 0))
end Go.Proofs.Ytfbimhnlcmdcpaa.Pa
/- The contract of trade.word: a string is a word just if wordOk says so. -/
namespace Go.Proofs.Ytfbimhnlcmdcpaa.Pa
open Go.RowKit Go.Proofs.YtfbimhnlcmdcpaaW.PrintWords Go.Proofs.YtfbimhnlcmdcpaaW.PrintLast Go.Proofs.YtfbimhnlcmdcpaaW.PrintMore
set_option linter.unusedVariables false
set_option linter.unusedSimpArgs false

theorem width_pos (s : ByteArray) (pos : Nat) (h : pos < s.size) : 1 ≤ (Utf8.decode s pos).2 := by
  by_cases ha : (s[pos]'h).toNat < 128
  · rw [decode_ascii s pos h ha]
    exact Nat.le_refl _
  · exact (decode_high s pos h (by omega)).2

/-- the bytes from a place on are all letters -/
def lowFrom (s : ByteArray) (pos : Nat) : Bool := (s.data.toList.drop pos).all lowB
theorem lowFrom_end (s : ByteArray) (pos : Nat) (h : ¬ pos < s.size) : lowFrom s pos = true := by
  unfold lowFrom
  have hl : s.data.toList.length = s.size := data_length s
  rw [List.drop_eq_nil_of_le (by omega)]
  rfl
theorem drop_data (s : ByteArray) (pos : Nat) (h : pos < s.size) : s.data.toList.drop pos = (s[pos]'h) :: s.data.toList.drop (pos + 1) := by
  have hl : s.data.toList.length = s.size := data_length s
  rw [List.drop_eq_getElem_cons (by omega)]
  simp only [Array.getElem_toList]
  rfl
/-- a rune that is no letter: some byte from here on is none -/
theorem lowFrom_no (s : ByteArray) (pos : Nat) (h : pos < s.size) (hr : (Utf8.decode s pos).1 < 97 ∨ 122 < (Utf8.decode s pos).1) : lowFrom s pos = false := by
  have hb : lowB (s[pos]'h) = false := by
    unfold lowB
    by_cases ha : (s[pos]'h).toNat < 128
    · rw [decode_ascii s pos h ha] at hr
      simp only [Bool.and_eq_false_iff, decide_eq_false_iff_not]
      simp only at hr
      omega
    · simp only [Bool.and_eq_false_iff, decide_eq_false_iff_not]
      omega
  unfold lowFrom
  rw [drop_data s pos h, List.all_cons, hb]
  rfl
/-- a rune that is a letter is one byte -/
theorem lowFrom_yes (s : ByteArray) (pos : Nat) (h : pos < s.size) (hr : ¬ ((Utf8.decode s pos).1 < 97 ∨ 122 < (Utf8.decode s pos).1)) : (Utf8.decode s pos).2 = 1 ∧ lowFrom s pos = lowFrom s (pos + 1) := by
  have ha : (s[pos]'h).toNat < 128 := by
    by_cases ha : (s[pos]'h).toNat < 128
    · exact ha
    · have := (decode_high s pos h (by omega)).1
      omega
  rw [decode_ascii s pos h ha] at hr
  have hb : lowB (s[pos]'h) = true := by
    unfold lowB
    simp only [Bool.and_eq_true, decide_eq_true_eq]
    simp only at hr
    omega
  refine ⟨by rw [decode_ascii s pos h ha], ?_⟩
  unfold lowFrom
  rw [drop_data s pos h, List.all_cons, hb]
  rfl

theorem word_long (s : ByteArray) (w : World) (h : s.size = 0 ∨ 12 < s.size) :
    Calls Try.prog 105 #[.string s] w fun e w' => e = .returned (.bool false) ∧ w = w' := by
  rcases h with h | h
  · have h1 : ((s.size : Int) == 0) = true := by simp [h]
    go_enter Try.func105, Try.ntmps105
    go_wp2
    go_ret
    exact ⟨rfl, rfl⟩
  · have h1 : ((s.size : Int) == 0) = false := beq_eq_false_iff_ne.2 (by omega)
    have h2 : (12 : Int) < s.size := by omega
    go_enter Try.func105, Try.ntmps105
    go_wp2
    go_ret
    exact ⟨rfl, rfl⟩

theorem word_const (s : ByteArray) (w : World) (h0 : 1 ≤ s.size) (h1 : s.size ≤ 12) (h : (s.toList == [99, 108, 97, 115, 115]) = true ∨ (s.toList == [102, 105, 110, 105, 115]) = true) :
    Calls Try.prog 105 #[.string s] w fun e w' => e = .returned (.bool false) ∧ w = w' := by
  have h1 : ((s.size : Int) == 0) = false := beq_eq_false_iff_ne.2 (by omega)
  have h2 : (s.size : Int) ≤ 12 := by omega
  by_cases h3 : (s.toList == [99, 108, 97, 115, 115]) = true
  · clear h
    go_enter Try.func105, Try.ntmps105
    go_wp2
    go_ret
    exact ⟨rfl, rfl⟩
  · have h4 : (s.toList == [99, 108, 97, 115, 115]) = false := by simpa using h3
    have h5 : (s.toList == [102, 105, 110, 105, 115]) = true := by rcases h with h | h; exact absurd h h3; exact h
    clear h h3
    go_enter Try.func105, Try.ntmps105
    go_wp2
    go_ret
    exact ⟨rfl, rfl⟩

set_option maxRecDepth 100000 in
theorem word_loop (s : ByteArray) (w : World) (hs : s.size ≤ 12) (h0 : 1 ≤ s.size) (h4 : (s.toList == [99, 108, 97, 115, 115]) = false) (h5 : (s.toList == [102, 105, 110, 105, 115]) = false) :
    Calls Try.prog 105 #[.string s] w fun e w' => e = .returned (.bool (lowFrom s 0)) ∧ Below w.heap.size w w' := by
  have h1 : ((s.size : Int) == 0) = false := beq_eq_false_iff_ne.2 (by omega)
  have h2 : decide ((12 : Int) < s.size) = false := decide_eq_false (by omega)
  go_enter Try.func105, Try.ntmps105
  go_wp2
  go_loopw [2] (fun v wr => v = .bool false ∧ ∃ pos : Nat, wr.heap[w.heap.size]? = some (.stringIter s pos) ∧ Below w.heap.size w wr ∧ Hid (lowFrom s pos = lowFrom s 0)) (fun _ wr => s.size - wr.iterPos w.heap.size)
  case atStart => exact ⟨rfl, 0, World.iter_heap w s 0, (Below.refl _ _).alloc (Nat.le_refl _) _, rfl⟩
  case round =>
    obtain ⟨rfl, pos, hit, hbw, HS⟩ := hrel
    have hpos0 := iterPos_of hit
    by_cases hp : pos < s.size
    · have hnx : ∀ ty, (Instr.next (.pointer (some ⟨w.heap.size, 0, none⟩)) true ty).run Try.prog wr = _ := fun ty => Lib.run_next_any_at wr w.heap.size s pos ty hit hp
      have hwd := width_pos s pos hp
      have hle := decode_le s pos
      have hit2 := Lib.iterAt_heap wr w.heap.size s pos (pos + (Utf8.decode s pos).2) hit
      have hbw2 := Lib.below_iterAt hbw (k := w.heap.size) (Nat.le_refl _) s (pos + (Utf8.decode s pos).2)
      obtain ⟨W1, hW1⟩ : ∃ W1, W1 = wr.iterAt w.heap.size s (pos + (Utf8.decode s pos).2) := ⟨_, rfl⟩
      rw [← hW1] at hnx hit2 hbw2
      clear hW1 hit hbw
      by_cases hr : (Utf8.decode s pos).1 < 97 ∨ 122 < (Utf8.decode s pos).1
      · have HN := Lib.hid (lowFrom_no s pos hp hr)
        rcases hr with hr | hr
        · have hr1 : decide (((Utf8.decode s pos).1 : Int) < 97) = true := decide_eq_true (by omega)
          clear hr
          go_wp2
          go_ret
          exact ⟨by rw [← HS.out, HN.out]; rfl, hbw2⟩
        · have hr1 : decide (((Utf8.decode s pos).1 : Int) < 97) = false := decide_eq_false (by omega)
          have hr2 : decide ((122 : Int) < ((Utf8.decode s pos).1 : Int)) = true := decide_eq_true (by omega)
          clear hr
          go_wp2
          go_ret
          exact ⟨by rw [← HS.out, HN.out]; rfl, hbw2⟩
      · have HY := Lib.hid (lowFrom_yes s pos hp hr)
        have hr1 : decide (((Utf8.decode s pos).1 : Int) < 97) = false := decide_eq_false (by omega)
        have hr2 : decide ((122 : Int) < ((Utf8.decode s pos).1 : Int)) = false := decide_eq_false (by omega)
        clear hr
        go_wp2
        go_roundw
        case rel => exact ⟨rfl, pos + (Utf8.decode s pos).2, hit2, hbw2, by show _ = _; rw [HY.out.1, ← HY.out.2]; exact HS.out⟩
        case measure =>
          rw [iterPos_of hit2, hpos0]
          omega
    · have hnx : ∀ ty, (Instr.next (.pointer (some ⟨w.heap.size, 0, none⟩)) true ty).run Try.prog wr = _ := fun ty => Lib.run_next_end_at wr w.heap.size s pos ty hit hp
      have HE := Lib.hid (lowFrom_end s pos hp)
      go_wp2
      go_ret
      exact ⟨by rw [← HS.out, HE.out]; rfl, hbw⟩

theorem toList_data (s : ByteArray) : s.toList = s.data.toList := ByteArray.toList_eq s

theorem trade_word.calls (s : ByteArray) (w : World) :
    Calls Try.prog 105 #[.string s] w fun e w' => e = .returned (.bool (wordOk s)) ∧ Below w.heap.size w w' := by
  by_cases h : s.size = 0 ∨ 12 < s.size
  · refine (word_long s w h).mono ?_
    rintro e w' ⟨rfl, rfl⟩
    refine ⟨?_, Below.refl _ _⟩
    have : wordOk s = false := by
      unfold wordOk
      rcases h with h | h
      · simp [h]
      · have : ¬ s.size ≤ 12 := by omega
        simp [this]
    rw [this]
  · by_cases h3 : (s.toList == [99, 108, 97, 115, 115]) = true ∨ (s.toList == [102, 105, 110, 105, 115]) = true
    · refine (word_const s w (by omega) (by omega) h3).mono ?_
      rintro e w' ⟨rfl, rfl⟩
      refine ⟨?_, Below.refl _ _⟩
      have : wordOk s = false := by
        unfold wordOk
        rw [toList_data] at h3
        rcases h3 with h3 | h3 <;> simp only [h3, Bool.not_true, Bool.and_false, Bool.false_and]
      rw [this]
    · have h4 : (s.toList == [99, 108, 97, 115, 115]) = false := by
        cases hq : (s.toList == [99, 108, 97, 115, 115])
        · rfl
        · exact absurd (.inl hq) h3
      have h5 : (s.toList == [102, 105, 110, 105, 115]) = false := by
        cases hq : (s.toList == [102, 105, 110, 105, 115])
        · rfl
        · exact absurd (.inr hq) h3
      refine (word_loop s w (by omega) (by omega) h4 h5).mono ?_
      rintro e w' ⟨rfl, hb⟩
      refine ⟨?_, hb⟩
      have : wordOk s = lowFrom s 0 := by
        unfold wordOk lowFrom
        rw [toList_data] at h4 h5
        have a1 : 1 ≤ s.size := by omega
        have a2 : s.size ≤ 12 := by omega
        simp [h4, h5, a1, a2]
      rw [this]
end Go.Proofs.Ytfbimhnlcmdcpaa.Pa
/- The contract of trade.checkClass: it returns classErr, whatever the classes. -/
namespace Go.Proofs.Ytfbimhnlcmdcpaa.Pa
open Go.RowKit Go.Proofs.YtfbimhnlcmdcpaaW.PrintWords Go.Proofs.YtfbimhnlcmdcpaaW.PrintLast Go.Proofs.YtfbimhnlcmdcpaaW.PrintMore
set_option linter.unusedVariables false
set_option linter.unusedSimpArgs false

/-- the first index from i on at which p holds, -1 if there is none -/
def idxFrom {α : Type} (p : α → Bool) : List α → Nat → Int
  | [], _ => -1
  | x :: xs, i => if p x = true then (i : Int) else idxFrom p xs (i + 1)
theorem idxFrom_any {α : Type} (p : α → Bool) : ∀ (xs : List α) (i : Nat), (decide (0 ≤ idxFrom p xs i)) = xs.any p
  | [], i => by simp [idxFrom]
  | x :: xs, i => by
    unfold idxFrom
    by_cases h : p x = true
    · simp [h]
    · have h' : p x = false := by simpa using h
      rw [if_neg h, List.any_cons, h', Bool.false_or]
      exact idxFrom_any p xs (i + 1)
theorem drop_getD {α : Type} (d : α) (xs : List α) (k : Nat) (h : k < xs.length) : xs.drop k = xs.getD k d :: xs.drop (k + 1) := by
  rw [List.drop_eq_getElem_cons h, List.getD_eq_getElem?_getD, List.getElem?_eq_getElem h]
  rfl

/-- the cells of class k, of heading k, of number k -/
theorem clAt {w : World} {A : Option Addr} {n : Nat} {xs : List Cl} (h : Kd.C k51 w A n xs) (k : Nat) (hk : k < n) :
    ∃ ad, A = some ad ∧ w.cell? (ad.add (k * 2)) = some (.string (xs.getD k zCl).f0) ∧ w.cell? ⟨(ad.add (k * 2)).block, (ad.add (k * 2)).off + 1, none⟩ = some (.int .i64 (xs.getD k zCl).f1) := by
  have := at_T51 h (k : Int) (by omega) (by omega)
  simpa only [Int.toNat_natCast, rd_T51] using this
theorem hdAt {w : World} {A : Option Addr} {n : Nat} {xs : List Hd} (h : Kd.C k39 w A n xs) (k : Nat) (hk : k < n) :
    ∃ ad A3 c3, A = some ad ∧ w.cell? (ad.add (k * 4)) = some (.string (xs.getD k zHd).f0) ∧ w.cell? ⟨(ad.add (k * 4)).block, (ad.add (k * 4)).off + 1, none⟩ = some (.int .i64 (xs.getD k zHd).f1) ∧ w.cell? ⟨(ad.add (k * 4)).block, (ad.add (k * 4)).off + 2, none⟩ = some (.int .i64 (xs.getD k zHd).f2) ∧ w.cell? ⟨(ad.add (k * 4)).block, (ad.add (k * 4)).off + 3, none⟩ = some (.slice A3 (xs.getD k zHd).f3.length c3) ∧ (xs.getD k zHd).f3.length ≤ c3 ∧ (Kd.int .i64).C w A3 (xs.getD k zHd).f3.length (xs.getD k zHd).f3 := by
  have := at_T39 h (k : Int) (by omega) (by omega)
  simpa only [Int.toNat_natCast, rd_T39] using this
theorem intAt {w : World} {q : IntKind} {A : Option Addr} {n : Nat} {xs : List Int} (h : (Kd.int q).C w A n xs) (k : Nat) (hk : k < n) :
    ∃ ad, A = some ad ∧ w.cell? (ad.add k) = some (.int q (xs.getD k 0)) := by
  have := Kd.at_int h (k : Int) (by omega) (by omega)
  simpa only [Int.toNat_natCast, rd] using this

/-- 'func(y api.Class) bool { return y.Name == x.Name }' -/
theorem class_same (g : Nat) (a b : ByteArray) (u : Int) (w : World) (hx : w.cell? ⟨g, 0, none⟩ = some (.string b)) :
    Calls Try.prog 107 #[.agg #[.string a, .int .i64 u], .pointer (some ⟨g, 0, none⟩)] w fun e w' => e = .returned (.bool (sEq a b)) ∧ Below w.heap.size w w' := by
  have hu := Try.underlying51
  have hlt := World.block_lt_of_cell? _ _ hx
  have hB := (Below.refl w.heap.size w).alloc (Nat.le_refl _) (.cells #[.string a, .int .i64 u] 51)
  have hx2 := pw_cell_below hB hx
  go_enter Try.func107, Try.ntmps107
  go_wp2
  go_ret
  exact ⟨by rw [toList_data, toList_data]; rfl, hB⟩

def clName (n : ByteArray) : Cl → Bool := fun y => sEq y.f0 n

set_option maxRecDepth 100000 in
theorem indexFunc_class (g : Nat) (A : Option Addr) (c : Nat) (xs : List Cl) (b : ByteArray) (w : World) (hr : Kd.C k51 w A xs.length xs) (hm : xs.length ≤ maxLen) (hx : w.cell? ⟨g, 0, none⟩ = some (.string b)) :
    Calls Try.prog 118 #[.slice A xs.length c, .func (.func 107) #[] #[.pointer (some ⟨g, 0, none⟩)]] w
      fun e w' => e = .returned (.int .i64 (idxFrom (clName b) xs 0)) ∧ Below w.heap.size w w' := by
  unfold maxLen at hm
  have hu := Try.underlying51
  go_enter Try.func118, Try.ntmps118
  go_wp2
  go_loopw [8] (fun v wr => ∃ k : Nat, k ≤ xs.length ∧ v = .int .i64 k ∧ Below w.heap.size w wr ∧ Hid (idxFrom (clName b) (xs.drop k) k = idxFrom (clName b) xs 0)) (fun v _ => xs.length - (intOf v).toNat)
  case atStart => exact ⟨0, Nat.zero_le _, rfl, Below.refl _ _, rfl⟩
  case round =>
    obtain ⟨k, hk, rfl, hb, HS⟩ := hrel
    by_cases hlt : k < xs.length
    · obtain ⟨ad, e, h0, h1⟩ := clAt (Kd.C_below hr hb) k hlt
      cases e
      have hx2 := pw_cell_below hb hx
      have HY := Lib.hid (drop_getD zCl xs k hlt)
      obtain ⟨y, hy⟩ : ∃ y, xs.getD k zCl = y := ⟨_, rfl⟩
      rw [hy] at h0 h1 HY
      clear hy
      have CL := fun W => class_same g y.f0 b y.f1 W
      by_cases hp : sEq y.f0 b = true
      · have HP := Lib.hid hp
        rw [hp] at CL
        clear hp
        go_wp2_with (go_at_call 107; (with_reducible refine (CL wr hx2).mono ?_); rintro e w' ⟨rfl, hb2⟩; have HB := below_then hb hb.size hb2; clear hb2 hb)
        go_ret
        exact ⟨by rw [← HS.out, HY.out, idxFrom, if_pos (show clName b y = true from HP.out)]; rfl, HB⟩
      · have hp' : sEq y.f0 b = false := by simpa using hp
        have HP := Lib.hid hp'
        rw [hp'] at CL
        clear hp hp'
        go_wp2_with (go_at_call 107; (with_reducible refine (CL wr hx2).mono ?_); rintro e w' ⟨rfl, hb2⟩; have HB := below_then hb hb.size hb2; clear hb2 hb)
        go_roundw
        case rel => exact ⟨k + 1, by omega, by go_num, HB, by show _ = _; rw [← HS.out, HY.out, idxFrom, if_neg (show ¬ clName b y = true by show ¬ sEq y.f0 b = true; rw [HP.out]; simp)]⟩
        case measure => simp [intOf]; omega
    · have HE : Hid (xs.drop k = []) := by show _ = _; exact List.drop_eq_nil_of_le (by omega)
      go_wp2
      go_ret
      exact ⟨by rw [← HS.out, HE.out]; rfl, hb⟩

theorem containsFunc_class (g : Nat) (A : Option Addr) (c : Nat) (xs : List Cl) (b : ByteArray) (w : World) (hr : Kd.C k51 w A xs.length xs) (hm : xs.length ≤ maxLen) (hx : w.cell? ⟨g, 0, none⟩ = some (.string b)) :
    Calls Try.prog 106 #[.slice A xs.length c, .func (.func 107) #[] #[.pointer (some ⟨g, 0, none⟩)]] w
      fun e w' => e = .returned (.bool (xs.any (clName b))) ∧ Below w.heap.size w w' := by
  obtain ⟨i, hi⟩ : ∃ i, idxFrom (clName b) xs 0 = i := ⟨_, rfl⟩
  have HC := indexFunc_class g A c xs b w hr hm hx
  have HA := Lib.hid (idxFrom_any (clName b) xs 0)
  rw [hi] at HC HA
  clear hi
  go_enter Try.func106, Try.ntmps106
  go_wp2_with (go_at_call 118; (with_reducible refine HC.mono ?_); rintro e w' ⟨rfl, hb2⟩)
  go_ret
  exact ⟨by rw [← HA.out]; rfl, hb2⟩

def betw (n lo hi : Int) : Bool := decide (lo ≤ n) && decide (n ≤ hi)
theorem between_any (n lo hi : Int) (w : World) : Calls Try.prog 43 #[.int .i64 n, .int .i64 lo, .int .i64 hi] w fun e w' => e = .returned (.bool (betw n lo hi)) ∧ w = w' := by
  by_cases h : lo ≤ n
  · have h1 : decide (lo ≤ n) = true := decide_eq_true h
    clear h
    go_enter Try.func43, Try.ntmps43
    go_wp2
    go_ret
    exact ⟨by unfold betw; rw [h1]; rfl, rfl⟩
  · have h1 : decide (lo ≤ n) = false := decide_eq_false h
    clear h
    go_enter Try.func43, Try.ntmps43
    go_wp2
    go_ret
    exact ⟨by unfold betw; rw [h1]; rfl, rfl⟩
theorem betw_yes {n lo hi : Int} (h : lo ≤ n ∧ n ≤ hi) : betw n lo hi = true := by unfold betw; simp [h.1, h.2]
theorem betw_no {n lo hi : Int} (h : ¬ (lo ≤ n ∧ n ≤ hi)) : betw n lo hi = false := by
  unfold betw
  by_cases h1 : lo ≤ n
  · have : ¬ n ≤ hi := fun h2 => h ⟨h1, h2⟩
    simp [this]
  · simp [h1]

set_option maxRecDepth 100000 in
theorem checkClass_any (A : Option Addr) (c : Nat) (cs : List Cl) (i : Nat) (w : World) (hr : Kd.C k51 w A cs.length cs) (hc : cs.length ≤ c) (h6 : cs.length ≤ 6) (hi : i < cs.length) :
    Calls Try.prog 83 #[.slice A cs.length c, .int .i64 i] w fun e w' => e = .returned (.int .i64 (classErr cs i)) ∧ Below w.heap.size w w' := by
  have hu := Try.underlying51
  obtain ⟨ad, e, h0, h1⟩ := clAt hr i hi
  cases e
  have HT : Hid (Kd.C k51 w (some ad) (cs.take i).length (cs.take i)) := Kd.C_take hr (by omega)
  have HL : Hid ((cs.take i).length = i) := by show _ = _; rw [List.length_take]; omega
  obtain ⟨x, hx⟩ : ∃ x, cs.getD i zCl = x := ⟨_, rfl⟩
  have HE : Hid (classErr cs i = if wordOk x.f0 = false then 2
    else if (cs.take i).any (clName x.f0) = true then 4
    else if ¬ (-1 ≤ x.f1 ∧ x.f1 ≤ (cs.length : Int) - 1) then 3
    else if (i : Int) ≤ x.f1 then 5 else 0) := by show _ = _; rw [← hx]; rfl
  rw [hx] at h0 h1
  clear hx
  have HW := fun W => trade_word.calls x.f0 W
  have hB0 := (Below.refl w.heap.size w).alloc (Nat.le_refl _) (.cells #[.string x.f0, .int .i64 x.f1] 51)
  have hq0 : (w.alloc (.cells #[.string x.f0, .int .i64 x.f1] 51)).cell? ⟨w.heap.size, 0, none⟩ = some (.string x.f0) := by simp
  have hq1 : (w.alloc (.cells #[.string x.f0, .int .i64 x.f1] 51)).cell? ⟨w.heap.size, 1, none⟩ = some (.int .i64 x.f1) := by simp
  by_cases c1 : wordOk x.f0 = false
  · have HR : Hid (classErr cs i = 2) := by show _ = _; rw [HE.out, if_pos c1]
    rw [c1] at HW
    clear HE c1
    go_enter Try.func83, Try.ntmps83
    go_wp2_with (go_at_call 105; (with_reducible refine (HW _).mono ?_); rintro e w1 ⟨rfl, hb1⟩)
    go_ret
    exact ⟨by rw [HR.out]; rfl, below_then hB0 hB0.size hb1⟩
  · have c1' : wordOk x.f0 = true := by simpa using c1
    rw [c1'] at HW
    have hK := fun W => containsFunc_class w.heap.size (some ad) c (cs.take i) x.f0 W
    rw [HL.out] at hK
    obtain ⟨ba, hba⟩ : ∃ ba, (cs.take i).any (clName x.f0) = ba := ⟨_, rfl⟩
    rw [hba] at HE
    simp only [hba] at hK
    have HE' : Hid (classErr cs i = if ba = true then 4 else if ¬ (-1 ≤ x.f1 ∧ x.f1 ≤ (cs.length : Int) - 1) then 3 else if (i : Int) ≤ x.f1 then 5 else 0) := by show _ = _; rw [HE.out, if_neg c1]
    have HT2 : ∀ W, Below w.heap.size w W → Kd.C k51 W (some ad) i (cs.take i) := fun W hW => by
      have := Kd.C_below HT.out hW
      rwa [HL.out] at this
    clear HE c1 c1' hba HT
    cases ba with
    | true =>
      go_enter Try.func83, Try.ntmps83
      go_wp2_with (first
        | (go_at_call 105; (with_reducible refine (HW _).mono ?_); rintro e w1 ⟨rfl, hb1⟩; have HB1 := below_then hB0 hB0.size hb1; have hx0 := pw_cell_below hb1 hq0; have hx1 := pw_cell_below hb1 hq1; clear hb1)
        | (go_at_call 106; (with_reducible refine (hK _ (HT2 _ HB1) (by simp only [maxLen]; omega) hx0).mono ?_); rintro e w2 ⟨rfl, hb2⟩; have HB2 := below_then HB1 HB1.size hb2; clear hb2))
      go_ret
      exact ⟨by rw [HE'.out]; rfl, HB2⟩
    | false =>
      have hBt := fun W => between_any x.f1 (-1) ((cs.length : Int) - 1) W
      by_cases c3 : -1 ≤ x.f1 ∧ x.f1 ≤ (cs.length : Int) - 1
      · rw [betw_yes c3] at hBt
        by_cases c4 : (i : Int) ≤ x.f1
        · have HV : Hid (classErr cs i = 5) := by show _ = _; rw [HE'.out, if_neg (by simp), if_neg (by simpa using c3), if_pos c4]
          have c4b : decide ((i : Int) ≤ x.f1) = true := decide_eq_true c4
          clear HE' c3 c4
          go_enter Try.func83, Try.ntmps83
          go_wp2_with (first
            | (go_at_call 105; (with_reducible refine (HW _).mono ?_); rintro e w1 ⟨rfl, hb1⟩; have HB1 := below_then hB0 hB0.size hb1; have hx0 := pw_cell_below hb1 hq0; have hx1 := pw_cell_below hb1 hq1; clear hb1)
            | (go_at_call 106; (with_reducible refine (hK _ (HT2 _ HB1) (by simp only [maxLen]; omega) hx0).mono ?_); rintro e w2 ⟨rfl, hb2⟩; have HB2 := below_then HB1 HB1.size hb2; have hy1 := pw_cell_below hb2 hx1; clear hb2)
            | (go_at_call 43; (with_reducible refine (hBt _).mono ?_); rintro e w3 ⟨rfl, rfl⟩))
          go_ret
          exact ⟨by rw [HV.out]; rfl, HB2⟩
        · have HV : Hid (classErr cs i = 0) := by show _ = _; rw [HE'.out, if_neg (by simp), if_neg (by simpa using c3), if_neg c4]
          have c4b : decide ((i : Int) ≤ x.f1) = false := decide_eq_false c4
          clear HE' c3 c4
          go_enter Try.func83, Try.ntmps83
          go_wp2_with (first
            | (go_at_call 105; (with_reducible refine (HW _).mono ?_); rintro e w1 ⟨rfl, hb1⟩; have HB1 := below_then hB0 hB0.size hb1; have hx0 := pw_cell_below hb1 hq0; have hx1 := pw_cell_below hb1 hq1; clear hb1)
            | (go_at_call 106; (with_reducible refine (hK _ (HT2 _ HB1) (by simp only [maxLen]; omega) hx0).mono ?_); rintro e w2 ⟨rfl, hb2⟩; have HB2 := below_then HB1 HB1.size hb2; have hy1 := pw_cell_below hb2 hx1; clear hb2)
            | (go_at_call 43; (with_reducible refine (hBt _).mono ?_); rintro e w3 ⟨rfl, rfl⟩))
          go_ret
          exact ⟨by rw [HV.out]; rfl, HB2⟩
      · have HV : Hid (classErr cs i = 3) := by show _ = _; rw [HE'.out, if_neg (by simp), if_pos (by simpa using c3)]
        rw [betw_no c3] at hBt
        clear HE' c3
        go_enter Try.func83, Try.ntmps83
        go_wp2_with (first
          | (go_at_call 105; (with_reducible refine (HW _).mono ?_); rintro e w1 ⟨rfl, hb1⟩; have HB1 := below_then hB0 hB0.size hb1; have hx0 := pw_cell_below hb1 hq0; have hx1 := pw_cell_below hb1 hq1; clear hb1)
          | (go_at_call 106; (with_reducible refine (hK _ (HT2 _ HB1) (by simp only [maxLen]; omega) hx0).mono ?_); rintro e w2 ⟨rfl, hb2⟩; have HB2 := below_then HB1 HB1.size hb2; have hy1 := pw_cell_below hb2 hx1; clear hb2)
          | (go_at_call 43; (with_reducible refine (hBt _).mono ?_); rintro e w3 ⟨rfl, rfl⟩))
        go_ret
        exact ⟨by rw [HV.out]; rfl, HB2⟩
end Go.Proofs.Ytfbimhnlcmdcpaa.Pa
/- The contract of trade.checkHead: it returns headErr, whatever the headings. -/
namespace Go.Proofs.Ytfbimhnlcmdcpaa.Pa
open Go.RowKit Go.Proofs.YtfbimhnlcmdcpaaW.PrintWords Go.Proofs.YtfbimhnlcmdcpaaW.PrintLast Go.Proofs.YtfbimhnlcmdcpaaW.PrintMore
set_option linter.unusedVariables false
set_option linter.unusedSimpArgs false

/-- 'func(y api.Head) bool { return y.Word == x.Word }' -/
theorem head_same (g : Nat) (a b : ByteArray) (u v : Int) (l : Value) (w : World) (hx : w.cell? ⟨g, 0, none⟩ = some (.string b)) (hl : l.oneCell' = true) :
    Calls Try.prog 109 #[.agg #[.string a, .int .i64 u, .int .i64 v, l], .pointer (some ⟨g, 0, none⟩)] w fun e w' => e = .returned (.bool (sEq a b)) ∧ Below w.heap.size w w' := by
  have hu := Try.underlying39
  have hB := (Below.refl w.heap.size w).alloc (Nat.le_refl _) (.cells #[.string a, .int .i64 u, .int .i64 v, l] 39)
  have hx2 := pw_cell_below hB hx
  go_enter Try.func109, Try.ntmps109
  go_wp2
  go_ret
  exact ⟨by rw [toList_data, toList_data]; rfl, hB⟩

def hdName (n : ByteArray) : Hd → Bool := fun y => sEq y.f0 n

set_option maxRecDepth 100000 in
theorem indexFunc_head (g : Nat) (A : Option Addr) (c : Nat) (xs : List Hd) (b : ByteArray) (w : World) (hr : Kd.C k39 w A xs.length xs) (hm : xs.length ≤ maxLen) (hx : w.cell? ⟨g, 0, none⟩ = some (.string b)) :
    Calls Try.prog 119 #[.slice A xs.length c, .func (.func 109) #[] #[.pointer (some ⟨g, 0, none⟩)]] w
      fun e w' => e = .returned (.int .i64 (idxFrom (hdName b) xs 0)) ∧ Below w.heap.size w w' := by
  unfold maxLen at hm
  have hu := Try.underlying39
  go_enter Try.func119, Try.ntmps119
  go_wp2
  go_loopw [8] (fun v wr => ∃ k : Nat, k ≤ xs.length ∧ v = .int .i64 k ∧ Below w.heap.size w wr ∧ Hid (idxFrom (hdName b) (xs.drop k) k = idxFrom (hdName b) xs 0)) (fun v _ => xs.length - (intOf v).toNat)
  case atStart => exact ⟨0, Nat.zero_le _, rfl, Below.refl _ _, rfl⟩
  case round =>
    obtain ⟨k, hk, rfl, hb, HS⟩ := hrel
    by_cases hlt : k < xs.length
    · obtain ⟨ad, A3, c3, e, h0, h1, h2, h3, h4, h5⟩ := hdAt (Kd.C_below hr hb) k hlt
      cases e
      clear h4 h5
      have hx2 := pw_cell_below hb hx
      have HY := Lib.hid (drop_getD zHd xs k hlt)
      obtain ⟨y, hy⟩ : ∃ y, xs.getD k zHd = y := ⟨_, rfl⟩
      rw [hy] at h0 h1 h2 h3 HY
      clear hy
      have CL := fun W => head_same g y.f0 b y.f1 y.f2 (.slice A3 y.f3.length c3) W
      by_cases hp : sEq y.f0 b = true
      · have HP := Lib.hid hp
        rw [hp] at CL
        clear hp
        go_wp2_with (go_at_call 109; (with_reducible refine (CL wr hx2 rfl).mono ?_); rintro e w' ⟨rfl, hb2⟩; have HB := below_then hb hb.size hb2; clear hb2 hb)
        go_ret
        exact ⟨by rw [← HS.out, HY.out, idxFrom, if_pos (show hdName b y = true from HP.out)]; rfl, HB⟩
      · have hp' : sEq y.f0 b = false := by simpa using hp
        have HP := Lib.hid hp'
        rw [hp'] at CL
        clear hp hp'
        go_wp2_with (go_at_call 109; (with_reducible refine (CL wr hx2 rfl).mono ?_); rintro e w' ⟨rfl, hb2⟩; have HB := below_then hb hb.size hb2; clear hb2 hb)
        go_roundw
        case rel => exact ⟨k + 1, by omega, by go_num, HB, by show _ = _; rw [← HS.out, HY.out, idxFrom, if_neg (show ¬ hdName b y = true by show ¬ sEq y.f0 b = true; rw [HP.out]; simp)]⟩
        case measure => simp [intOf]; omega
    · have HE : Hid (xs.drop k = []) := by show _ = _; exact List.drop_eq_nil_of_le (by omega)
      go_wp2
      go_ret
      exact ⟨by rw [← HS.out, HE.out]; rfl, hb⟩

theorem containsFunc_head (g : Nat) (A : Option Addr) (c : Nat) (xs : List Hd) (b : ByteArray) (w : World) (hr : Kd.C k39 w A xs.length xs) (hm : xs.length ≤ maxLen) (hx : w.cell? ⟨g, 0, none⟩ = some (.string b)) :
    Calls Try.prog 108 #[.slice A xs.length c, .func (.func 109) #[] #[.pointer (some ⟨g, 0, none⟩)]] w
      fun e w' => e = .returned (.bool (xs.any (hdName b))) ∧ Below w.heap.size w w' := by
  obtain ⟨i, hi⟩ : ∃ i, idxFrom (hdName b) xs 0 = i := ⟨_, rfl⟩
  have HC := indexFunc_head g A c xs b w hr hm hx
  have HA := Lib.hid (idxFrom_any (hdName b) xs 0)
  rw [hi] at HC HA
  clear hi
  go_enter Try.func108, Try.ntmps108
  go_wp2_with (go_at_call 119; (with_reducible refine HC.mono ?_); rintro e w' ⟨rfl, hb2⟩)
  go_ret
  exact ⟨by rw [← HA.out]; rfl, hb2⟩

/-- two boxes that were laid, in whatever world came of them -/
theorem two_boxes {w w1 : World} {a b : Array Value} {ta tb : Nat} (h : Below ((w.alloc (.cells a ta)).alloc (.cells b tb)).drew.heap.size ((w.alloc (.cells a ta)).alloc (.cells b tb)).drew w1) :
    Below w.heap.size w w1 ∧ w1.heap[w.heap.size]? = some (.cells a ta (0, 0)) ∧ w1.heap[w.heap.size + 1]? = some (.cells b tb (0, 0)) := by
  have hA := (Below.refl w.heap.size w).alloc (Nat.le_refl _) (.cells a ta)
  have hA2 := below_then hA hA.size ((Below.refl _ _).alloc (Nat.le_refl _) (.cells b tb))
  refine ⟨below_then (below_drew hA2) hA2.size h, ?_, ?_⟩
  · rw [h.block w.heap.size (by show _ < ((w.heap.push _).push _).size; simp; omega)]
    show ((w.heap.push _).push _)[w.heap.size]? = _
    simp [Array.getElem?_push]
  · rw [h.block (w.heap.size + 1) (by show _ < ((w.heap.push _).push _).size; simp)]
    show ((w.heap.push (Obj.cells a ta)).push _)[w.heap.size + 1]? = _
    rw [show w.heap.size + 1 = (w.heap.push (Obj.cells a ta)).size by simp]
    exact Array.getElem?_push_size
theorem cells2 {W : World} {g : Nat} {a b : Value} {t : Nat} (h : W.heap[g]? = some (.cells #[a, b] t (0, 0))) : W.cell? ⟨g, 0, none⟩ = some a ∧ W.cell? ⟨g, 1, none⟩ = some b :=
  ⟨(blk_cell h 0).trans rfl, (blk_cell h 1).trans rfl⟩
theorem cells4 {W : World} {g : Nat} {a b c d : Value} {t : Nat} (h : W.heap[g]? = some (.cells #[a, b, c, d] t (0, 0))) : W.cell? ⟨g, 0, none⟩ = some a ∧ W.cell? ⟨g, 1, none⟩ = some b ∧ W.cell? ⟨g, 2, none⟩ = some c ∧ W.cell? ⟨g, 3, none⟩ = some d :=
  ⟨(blk_cell h 0).trans rfl, (blk_cell h 1).trans rfl, (blk_cell h 2).trans rfl, (blk_cell h 3).trans rfl⟩
theorem blk_below {w w1 : World} {g : Nat} {o : Obj} (h : w.heap[g]? = some o) (hb : Below w.heap.size w w1) : w1.heap[g]? = some o := by
  rw [hb.block g (Array.getElem?_eq_some_iff.1 h).1]; exact h

def hErr (bw ba bl bc bs be : Bool) (rest : Int) : Int := if bw = false then 2 else if ba = true then 4 else if bl = true then 5 else if bc = false then 3 else if bs = false then 3 else if be = true then 9 else rest
theorem headErr_eq (cs : List Cl) (hs : List Hd) (i : Nat) (x : Hd) (hx : hs.getD i zHd = x) :
    headErr cs hs i = hErr (wordOk x.f0) ((hs.take i).any (hdName x.f0)) (decide (0 < i) && sLt x.f0 (hs.getD (i - 1) zHd).f0) (betw x.f1 (-1) ((cs.length : Int) - 1)) (betw x.f2 (-1) ((hs.length : Int) - 1)) (x.f2 == (i : Int)) (if alsoErr hs.length i x.f3 x.f3.length 0 ≠ 0 then alsoErr hs.length i x.f3 x.f3.length 0 else kindErr x) := by
  unfold headErr hErr
  rw [hx]
  simp only [betw, Bool.and_eq_true, Bool.and_eq_false_iff, decide_eq_true_eq, decide_eq_false_iff_not, beq_iff_eq, Decidable.not_and_iff_not_or_not]
  rfl

set_option maxHeartbeats 4000000 in
set_option maxRecDepth 100000 in
theorem checkHead_any (A0 A1 : Option Addr) (c0 c1 : Nat) (cs : List Cl) (hs : List Hd) (i : Nat) (w : World) (hr0 : Kd.C k51 w A0 cs.length cs) (hr1 : Kd.C k39 w A1 hs.length hs) (hc0 : cs.length ≤ c0) (hc1 : hs.length ≤ c1) (h6 : cs.length ≤ 6) (h7 : hs.length ≤ 6) (hi : i < hs.length) :
    Calls Try.prog 84 #[.agg #[.slice A0 cs.length c0, .slice A1 hs.length c1], .int .i64 i] w fun e w' => e = .returned (.int .i64 (headErr cs hs i)) ∧ Below w.heap.size w w' := by
  have hu := Try.underlying39
  have hu2 := Try.underlying26
  obtain ⟨ad, A3, c3, e, h0, h1, h2, h3, h4, h5⟩ := hdAt hr1 i hi
  cases e
  obtain ⟨x, hx⟩ : ∃ x, hs.getD i zHd = x := ⟨_, rfl⟩
  have HE := Lib.hid (headErr_eq cs hs i x hx)
  rw [hx] at h0 h1 h2 h3 h4 h5
  have HT : Hid (Kd.C k39 w (some ad) (hs.take i).length (hs.take i)) := Kd.C_take hr1 (by omega)
  have HL : Hid ((hs.take i).length = i) := by show _ = _; rw [List.length_take]; omega
  have HT2 : ∀ W, Below w.heap.size w W → Kd.C k39 W (some ad) i (hs.take i) := fun W hW => by
    have := Kd.C_below HT.out hW
    rwa [HL.out] at this
  have hA := fun o => (Below.refl w.heap.size w).alloc (Nat.le_refl _) o
  have hA2 := fun o o2 => below_then (hA o) (hA o).size ((Below.refl _ _).alloc (Nat.le_refl _) o2)
  have hq0 := fun o => pw_cell_below (hA o) h0
  have hq1 := fun o => pw_cell_below (hA o) h1
  have hq2 := fun o => pw_cell_below (hA o) h2
  have hq3 := fun o => pw_cell_below (hA o) h3
  have hp0 := fun o o2 => pw_cell_below (hA2 o o2) h0
  have hp1 := fun o o2 => pw_cell_below (hA2 o o2) h1
  have hp2 := fun o o2 => pw_cell_below (hA2 o o2) h2
  have hp3 := fun o o2 => pw_cell_below (hA2 o o2) h3
  obtain ⟨bw, hbw⟩ : ∃ b, wordOk x.f0 = b := ⟨_, rfl⟩
  obtain ⟨ba, hba⟩ : ∃ b, (hs.take i).any (hdName x.f0) = b := ⟨_, rfl⟩
  obtain ⟨bc, hbc⟩ : ∃ b, betw x.f1 (-1) ((cs.length : Int) - 1) = b := ⟨_, rfl⟩
  obtain ⟨bs, hbs⟩ : ∃ b, betw x.f2 (-1) ((hs.length : Int) - 1) = b := ⟨_, rfl⟩
  have HW := fun W => trade_word.calls x.f0 W
  have HK := fun W => containsFunc_head (w.heap.size + 1) (some ad) c1 (hs.take i) x.f0 W
  have HC := fun W => between_any x.f1 (-1) ((cs.length : Int) - 1) W
  have HS := fun W => between_any x.f2 (-1) ((hs.length : Int) - 1) W
  rw [HL.out] at HK
  simp only [hbw] at HW
  simp only [hba] at HK
  simp only [hbc] at HC
  simp only [hbs] at HS
  rw [hbw, hba, hbc, hbs] at HE
  clear hx hbw hba hbc hbs HT HL h0 h1 h2 h3
  cases bw with
  | false =>
    go_enter Try.func84, Try.ntmps84
    go_wp2
    go_region
    go_wp2_with (go_at_call 105; (with_reducible refine (HW _).mono ?_); rintro e w1 ⟨rfl, hb1⟩; obtain ⟨HB1, hT1, hX1⟩ := two_boxes hb1; clear hb1)
    go_ret
    exact ⟨by rw [HE.out]; rfl, HB1⟩
  | true =>
    cases ba with
    | true =>
      go_enter Try.func84, Try.ntmps84
      go_wp2
      go_region
      go_wp2_with (first
        | (go_at_call 105; (with_reducible refine (HW _).mono ?_); rintro e w1 ⟨rfl, hb1⟩; obtain ⟨HB1, hT1, hX1⟩ := two_boxes hb1; clear hb1)
        | (go_at_call 108; (with_reducible refine (HK _ (HT2 _ HB1) (by simp only [maxLen]; omega) (cells4 hX1).1).mono ?_); rintro e w2 ⟨rfl, hb2⟩; have HB2 := below_then HB1 HB1.size hb2; clear hb2))
      go_ret
      exact ⟨by rw [HE.out]; rfl, HB2⟩
    | false =>
      obtain ⟨bl, hbl⟩ : ∃ b, (decide (0 < i) && sLt x.f0 (hs.getD (i - 1) zHd).f0) = b := ⟨_, rfl⟩
      rw [hbl] at HE
      have HBL := Lib.hid hbl
      clear hbl
      go_enter Try.func84, Try.ntmps84
      go_wp2
      go_region
      go_upto_region 6 with (first
        | (go_at_call 105; (with_reducible refine (HW _).mono ?_); rintro e w1 ⟨rfl, hb1⟩; obtain ⟨HB1, hT1, hX1⟩ := two_boxes hb1; clear hb1)
        | (go_at_call 108; (with_reducible refine (HK _ (HT2 _ HB1) (by simp only [maxLen]; omega) (cells4 hX1).1).mono ?_); rintro e w2 ⟨rfl, hb2⟩; have HB2 := below_then HB1 HB1.size hb2; have hT2 := blk_below hT1 hb2; have hX2 := blk_below hX1 hb2; clear hb2 HB1 hT1 hX1))
      clear HW HK hq0 hq1 hq2 hq3 hp0 hp1 hp2 hp3
      go_cut [27] (fun s27 wx => s27 = .bool bl ∧ Below w.heap.size w wx ∧ wx.heap[w.heap.size]? = some (.cells #[.slice A0 cs.length c0, .slice (some ad) hs.length c1] 26 (0, 0)) ∧ wx.heap[w.heap.size + 1]? = some (.cells #[.string x.f0, .int .i64 x.f1, .int .i64 x.f2, .slice A3 x.f3.length c3] 39 (0, 0)))
      case first =>
        obtain ⟨x0, x1, x2, x3⟩ := cells4 hX2
        by_cases hi0 : 0 < i
        · have hg : decide ((0 : Int) < (i : Int)) = true := decide_eq_true (by omega)
          obtain ⟨ad', A3', c3', e, y0, -, -, -, -, -⟩ := hdAt (Kd.C_below hr1 HB2) (i - 1) (by omega)
          cases e
          have hn : ((i : Int) - 1).toNat = i - 1 := by omega
          have hn1 : 0 ≤ (i : Int) - 1 := by omega
          have hn2 : (i : Int) - 1 < hs.length := by omega
          have hw64 : IntKind.i64.wrap ((i : Int) - 1) = (i : Int) - 1 := IntWalk.i64_in _ (by omega)
          have hbl : Op.bytesLess x.f0.toList (hs.getD (i - 1) zHd).f0.toList = bl := by
            rw [toList_data, toList_data, ← HBL.out, decide_eq_true hi0]; rfl
          obtain ⟨y, hy⟩ : ∃ y, hs.getD (i - 1) zHd = y := ⟨_, rfl⟩
          rw [hy] at y0 hbl
          clear hy
          go_quiet (fail)
          go_wp2
          go_meet
          case rel => exact ⟨rfl, pw_below_drewN HB2 _, hT2, hX2⟩
        · have hg : decide ((0 : Int) < (i : Int)) = false := decide_eq_false (by omega)
          have hg2 : decide (0 < i) = false := decide_eq_false hi0
          have hbl : bl = false := by rw [← HBL.out, decide_eq_false hi0]; rfl
          subst hbl
          clear hi0
          go_quiet (fail)
          go_wp2
          go_meet
          case rel => exact ⟨rfl, pw_below_drewN HB2 _, hT2, hX2⟩
      case rest =>
        obtain ⟨rfl, HBc, hTc, hXc⟩ := hcut
        obtain ⟨t0, t1⟩ := cells2 hTc
        obtain ⟨x0, x1, x2, x3⟩ := cells4 hXc
        cases bl with
        | true =>
          go_wp2
          go_ret
          exact ⟨by rw [HE.out]; rfl, HBc⟩
        | false =>
          cases bc with
          | false =>
            go_wp2_with (go_at_call 43; (with_reducible refine (HC _).mono ?_); rintro e w3 ⟨rfl, rfl⟩)
            go_ret
            exact ⟨by rw [HE.out]; rfl, HBc⟩
          | true =>
            cases bs with
            | false =>
              go_wp2_with (first
                | (go_at_call 43; (with_reducible refine (HC _).mono ?_); rintro e w3 ⟨rfl, rfl⟩)
                | (go_at_call 43; (with_reducible refine (HS _).mono ?_); rintro e w3 ⟨rfl, rfl⟩))
              go_ret
              exact ⟨by rw [HE.out]; rfl, HBc⟩
            | true =>
              by_cases he : x.f2 = (i : Int)
              · have he1 : (x.f2 == (i : Int)) = true := beq_iff_eq.mpr he
                rw [he1] at HE
                clear he
                go_wp2_with (first
                  | (go_at_call 43; (with_reducible refine (HC _).mono ?_); rintro e w3 ⟨rfl, rfl⟩)
                  | (go_at_call 43; (with_reducible refine (HS _).mono ?_); rintro e w3 ⟨rfl, rfl⟩))
                go_ret
                exact ⟨by rw [HE.out]; rfl, HBc⟩
              · have he1 : (x.f2 == (i : Int)) = false := beq_eq_false_iff_ne.mpr he
                rw [he1] at HE
                have HE2 : Hid (headErr cs hs i = if alsoErr hs.length i x.f3 x.f3.length 0 ≠ 0 then alsoErr hs.length i x.f3 x.f3.length 0 else kindErr x) := HE.out
                clear he HE HBL
                go_wp2_with (first
                  | (go_at_call 43; (with_reducible refine (HC _).mono ?_); rintro e w3 ⟨rfl, rfl⟩)
                  | (go_at_call 43; (with_reducible refine (HS _).mono ?_); rintro e w3 ⟨rfl, rfl⟩))
                have hml : x.f3.length ≤ 9223372036854775807 := h5.2.1
                go_loop [65] (fun v => ∃ k : Nat, k ≤ x.f3.length ∧ v = .int .i64 k ∧ Hid (alsoErr hs.length i x.f3 (x.f3.length - k) k = alsoErr hs.length i x.f3 x.f3.length 0)) (fun v => x.f3.length - (intOf v).toNat)
                case atStart => exact ⟨0, Nat.zero_le _, rfl, rfl⟩
                case round =>
                  obtain ⟨k, hk, rfl, HK⟩ := hrel
                  by_cases hlt : k < x.f3.length
                  · obtain ⟨a3, e, z0⟩ := intAt (Kd.C_below h5 HBc) k hlt
                    cases e
                    obtain ⟨n, hn⟩ : ∃ n, x.f3.getD k 0 = n := ⟨_, rfl⟩
                    have HU : Hid (alsoErr hs.length i x.f3 (x.f3.length - k) k = if ¬ (0 ≤ n ∧ n ≤ (hs.length : Int) - 1) then 3 else if n = (i : Int) then 9 else if 0 < k ∧ n ≤ x.f3.getD (k - 1) 0 then 5 else alsoErr hs.length i x.f3 (x.f3.length - (k + 1)) (k + 1)) := by
                      show _ = _
                      rw [show x.f3.length - k = (x.f3.length - (k + 1)) + 1 by omega, alsoErr, hn]
                    rw [hn] at z0
                    clear hn
                    have HN := fun W => between_any n 0 ((hs.length : Int) - 1) W
                    by_cases c1 : 0 ≤ n ∧ n ≤ (hs.length : Int) - 1
                    · rw [betw_yes c1] at HN
                      rw [if_neg (by simpa using c1)] at HU
                      clear c1
                      by_cases c2 : n = (i : Int)
                      · rw [if_pos c2] at HU
                        have c2b : (n == (i : Int)) = true := beq_iff_eq.mpr c2
                        clear c2
                        go_wp2_with (go_at_call 43; (with_reducible refine (HN _).mono ?_); rintro e w3 ⟨rfl, rfl⟩)
                        go_ret
                        exact ⟨by rw [HE2.out, ← HK.out, HU.out]; rfl, HBc⟩
                      · rw [if_neg c2] at HU
                        have c2b : (n == (i : Int)) = false := beq_eq_false_iff_ne.mpr c2
                        clear c2
                        by_cases c3 : 0 < k
                        · have c3b : decide ((0 : Int) < (k : Int)) = true := decide_eq_true (by omega)
                          obtain ⟨a4, e, z1⟩ := intAt (Kd.C_below h5 HBc) (k - 1) (by omega)
                          cases e
                          obtain ⟨q, hq⟩ : ∃ q, x.f3.getD (k - 1) 0 = q := ⟨_, rfl⟩
                          rw [hq] at HU z1
                          clear hq
                          have hn : ((k : Int) - 1).toNat = k - 1 := by omega
                          have hn1 : 0 ≤ (k : Int) - 1 := by omega
                          have hn2 : (k : Int) - 1 < x.f3.length := by omega
                          by_cases c4 : n ≤ q
                          · have c4b : decide (n ≤ q) = true := decide_eq_true c4
                            rw [if_pos ⟨c3, c4⟩] at HU
                            clear c3 c4
                            go_wp2_with (go_at_call 43; (with_reducible refine (HN _).mono ?_); rintro e w3 ⟨rfl, rfl⟩)
                            go_ret
                            exact ⟨by rw [HE2.out, ← HK.out, HU.out]; rfl, HBc⟩
                          · have c4b : decide (n ≤ q) = false := decide_eq_false c4
                            rw [if_neg (fun h => c4 h.2)] at HU
                            clear c3 c4
                            go_wp2_with (go_at_call 43; (with_reducible refine (HN _).mono ?_); rintro e w3 ⟨rfl, rfl⟩)
                            go_round
                            case rel => exact ⟨k + 1, by omega, by go_num, by show _ = _; rw [← HK.out, HU.out]⟩
                            case measure => simp [intOf]; omega
                        · have c3b : decide ((0 : Int) < (k : Int)) = false := decide_eq_false (by omega)
                          have c3c : decide (0 < k) = false := decide_eq_false c3
                          rw [if_neg (fun h => c3 h.1)] at HU
                          clear c3
                          go_wp2_with (go_at_call 43; (with_reducible refine (HN _).mono ?_); rintro e w3 ⟨rfl, rfl⟩)
                          go_round
                          case rel => exact ⟨k + 1, by omega, by go_num, by show _ = _; rw [← HK.out, HU.out]⟩
                          case measure => simp [intOf]; omega
                    · rw [betw_no c1] at HN
                      rw [if_pos (by simpa using c1)] at HU
                      clear c1
                      go_wp2_with (go_at_call 43; (with_reducible refine (HN _).mono ?_); rintro e w3 ⟨rfl, rfl⟩)
                      go_ret
                      exact ⟨by rw [HE2.out, ← HK.out, HU.out]; rfl, HBc⟩
                  · have HF : Hid (headErr cs hs i = kindErr x) := by
                      show _ = _
                      rw [HE2.out, ← HK.out, show x.f3.length - k = 0 by omega]
                      rfl
                    obtain rfl : k = x.f3.length := by omega
                    clear HE2 HK
                    by_cases d1 : x.f2 = -1
                    · have d1a : (x.f2 == -1) = true := beq_iff_eq.mpr d1
                      have d1b : (x.f2 != -1) = false := bne_eq_false_iff_eq.mpr d1
                      by_cases d2 : x.f1 = -1
                      · have d2a : (x.f1 == -1) = true := beq_iff_eq.mpr d2
                        have d2b : (x.f1 != -1) = false := bne_eq_false_iff_eq.mpr d2
                        by_cases d3 : x.f3.length = 0
                        · have d3a : ((x.f3.length : Int) == 0) = true := beq_iff_eq.mpr (by omega)
                          have d3b : decide ((0 : Int) < (x.f3.length : Int)) = false := decide_eq_false (by omega)
                          have HG : Hid (kindErr x = 8) := by show _ = _; unfold kindErr; rw [if_pos (.inr ⟨d1, d2, d3⟩)]
                          clear d1 d2 d3
                          go_wp2
                          go_ret
                          exact ⟨by rw [HF.out, HG.out]; rfl, HBc⟩
                        · have d3a : ((x.f3.length : Int) == 0) = false := beq_eq_false_iff_ne.mpr (by omega)
                          have d3b : decide ((0 : Int) < (x.f3.length : Int)) = true := decide_eq_true (by omega)
                          have HG : Hid (kindErr x = 0) := by show _ = _; unfold kindErr; rw [if_neg (by omega)]
                          clear d1 d2 d3
                          go_wp2
                          go_ret
                          exact ⟨by rw [HF.out, HG.out]; rfl, HBc⟩
                      · have d2a : (x.f1 == -1) = false := beq_eq_false_iff_ne.mpr d2
                        have d2b : (x.f1 != -1) = true := bne_iff_ne.mpr d2
                        have HG : Hid (kindErr x = 0) := by show _ = _; unfold kindErr; rw [if_neg (by omega)]
                        clear d1 d2
                        go_wp2
                        go_ret
                        exact ⟨by rw [HF.out, HG.out]; rfl, HBc⟩
                    · have d1a : (x.f2 == -1) = false := beq_eq_false_iff_ne.mpr d1
                      have d1b : (x.f2 != -1) = true := bne_iff_ne.mpr d1
                      by_cases d2 : x.f1 = -1
                      · have d2a : (x.f1 == -1) = true := beq_iff_eq.mpr d2
                        have d2b : (x.f1 != -1) = false := bne_eq_false_iff_eq.mpr d2
                        by_cases d3 : x.f3.length = 0
                        · have d3a : ((x.f3.length : Int) == 0) = true := beq_iff_eq.mpr (by omega)
                          have d3b : decide ((0 : Int) < (x.f3.length : Int)) = false := decide_eq_false (by omega)
                          have d3c : decide (0 < x.f3.length) = false := decide_eq_false (by omega)
                          have HG : Hid (kindErr x = 0) := by show _ = _; unfold kindErr; rw [if_neg (by omega)]
                          clear d1 d2 d3
                          go_wp2
                          go_ret
                          exact ⟨by rw [HF.out, HG.out]; rfl, HBc⟩
                        · have d3a : ((x.f3.length : Int) == 0) = false := beq_eq_false_iff_ne.mpr (by omega)
                          have d3b : decide ((0 : Int) < (x.f3.length : Int)) = true := decide_eq_true (by omega)
                          have d3c : decide (0 < x.f3.length) = true := decide_eq_true (by omega)
                          have HG : Hid (kindErr x = 8) := by show _ = _; unfold kindErr; rw [if_pos (by omega)]
                          clear d1 d2 d3
                          go_wp2
                          go_ret
                          exact ⟨by rw [HF.out, HG.out]; rfl, HBc⟩
                      · have d2a : (x.f1 == -1) = false := beq_eq_false_iff_ne.mpr d2
                        have d2b : (x.f1 != -1) = true := bne_iff_ne.mpr d2
                        have HG : Hid (kindErr x = 8) := by show _ = _; unfold kindErr; rw [if_pos (by omega)]
                        clear d1 d2
                        go_wp2
                        go_ret
                        exact ⟨by rw [HF.out, HG.out]; rfl, HBc⟩
end Go.Proofs.Ytfbimhnlcmdcpaa.Pa
/- The contract of trade.check and trade.Check: the first error of the trades. -/
namespace Go.Proofs.Ytfbimhnlcmdcpaa.Pa
open Go.RowKit Go.Proofs.YtfbimhnlcmdcpaaW.PrintWords Go.Proofs.YtfbimhnlcmdcpaaW.PrintLast Go.Proofs.YtfbimhnlcmdcpaaW.PrintMore
set_option linter.unusedVariables false
set_option linter.unusedSimpArgs false

theorem one_box {w w1 : World} {a : Array Value} {ta : Nat} (h : Below (w.alloc (.cells a ta)).heap.size (w.alloc (.cells a ta)) w1) :
    Below w.heap.size w w1 ∧ w1.heap[w.heap.size]? = some (.cells a ta (0, 0)) := by
  have hA := (Below.refl w.heap.size w).alloc (Nat.le_refl _) (.cells a ta)
  refine ⟨below_then hA hA.size h, ?_⟩
  rw [h.block w.heap.size (by show _ < (w.heap.push _).size; simp)]
  show (w.heap.push (Obj.cells a ta))[w.heap.size]? = _
  exact Array.getElem?_push_size

theorem firstErr_one (g : Nat → Int) (m i : Nat) (h : 0 < m) : firstErr g m i = if g i ≠ 0 then g i else firstErr g (m - 1) (i + 1) := by
  obtain ⟨q, rfl⟩ : ∃ q, m = q + 1 := ⟨m - 1, by omega⟩
  rfl

set_option maxHeartbeats 2000000 in
set_option maxRecDepth 100000 in
theorem check_any (A0 A1 : Option Addr) (c0 c1 : Nat) (cs : List Cl) (hs : List Hd) (w : World) (hr0 : Kd.C k51 w A0 cs.length cs) (hr1 : Kd.C k39 w A1 hs.length hs) (hc0 : cs.length ≤ c0) (hc1 : hs.length ≤ c1) :
    Calls Try.prog 66 #[.agg #[.slice A0 cs.length c0, .slice A1 hs.length c1]] w fun e w' => e = .returned (.int .i64 (checkT cs hs)) ∧ Below w.heap.size w w' := by
  have hu2 := Try.underlying26
  have hB0 := (Below.refl w.heap.size w).alloc (Nat.le_refl _) (.cells #[.slice A0 cs.length c0, .slice A1 hs.length c1] 26)
  by_cases l0 : 6 < cs.length
  · have l0a : decide ((6 : Int) < (cs.length : Int)) = true := decide_eq_true (by omega)
    have l0b : decide (6 < cs.length) = true := decide_eq_true l0
    have HE : Hid (checkT cs hs = 6) := by show _ = _; unfold checkT; rw [if_pos (.inl l0)]
    clear l0
    go_enter Try.func66, Try.ntmps66
    go_wp2
    go_ret
    exact ⟨by rw [HE.out]; rfl, hB0⟩
  · have l0a : decide ((6 : Int) < (cs.length : Int)) = false := decide_eq_false (by omega)
    have l0b : decide (6 < cs.length) = false := decide_eq_false l0
    by_cases l1 : 6 < hs.length
    · have l1a : decide ((6 : Int) < (hs.length : Int)) = true := decide_eq_true (by omega)
      have l1b : decide (6 < hs.length) = true := decide_eq_true l1
      have HE : Hid (checkT cs hs = 6) := by show _ = _; unfold checkT; rw [if_pos (.inr l1)]
      clear l0 l1
      go_enter Try.func66, Try.ntmps66
      go_wp2
      go_ret
      exact ⟨by rw [HE.out]; rfl, hB0⟩
    · have l1a : decide ((6 : Int) < (hs.length : Int)) = false := decide_eq_false (by omega)
      have l1b : decide (6 < hs.length) = false := decide_eq_false l1
      have HE : Hid (checkT cs hs = if firstErr (classErr cs) cs.length 0 ≠ 0 then firstErr (classErr cs) cs.length 0 else firstErr (headErr cs hs) hs.length 0) := by
        show _ = _; unfold checkT; rw [if_neg (by omega)]
      have m0 : cs.length ≤ 6 := by omega
      have m1 : hs.length ≤ 6 := by omega
      clear l0 l1
      go_enter Try.func66, Try.ntmps66
      go_wp2
      go_loopw [20] (fun v wr => ∃ k : Nat, k ≤ cs.length ∧ v = .int .i64 k ∧ Below w.heap.size w wr ∧ wr.heap[w.heap.size]? = some (.cells #[.slice A0 cs.length c0, .slice A1 hs.length c1] 26 (0, 0)) ∧ Hid (firstErr (classErr cs) (cs.length - k) k = firstErr (classErr cs) cs.length 0)) (fun v _ => cs.length - (intOf v).toNat)
      case atStart => exact ⟨0, Nat.zero_le _, rfl, (one_box (Below.refl _ _)).1, (one_box (Below.refl _ _)).2, rfl⟩
      case round =>
        obtain ⟨k, hk, rfl, hb, hT, HK⟩ := hrel
        obtain ⟨t0, t1⟩ := cells2 hT
        by_cases hlt : k < cs.length
        · have HU := Lib.hid (firstErr_one (classErr cs) (cs.length - k) k (by omega))
          obtain ⟨ce, hce⟩ : ∃ z, classErr cs k = z := ⟨_, rfl⟩
          have HC := checkClass_any A0 c0 cs k wr (Kd.C_below hr0 hb) hc0 m0 hlt
          rw [hce] at HU HC
          by_cases hz : ce = 0
          · have hz1 : (ce != 0) = false := bne_eq_false_iff_eq.mpr hz
            rw [if_neg (by omega), show cs.length - k - 1 = cs.length - (k + 1) by omega] at HU
            clear hz hce
            go_wp2_with (go_at_call 83; (with_reducible refine HC.mono ?_); rintro e w' ⟨rfl, hb2⟩; have HB := below_then hb hb.size hb2; have hT2 := blk_below hT hb2; clear hb2 hb)
            go_roundw
            case rel => exact ⟨k + 1, by omega, by go_num, HB, hT2, by show _ = _; rw [← HK.out, HU.out]⟩
            case measure => simp [intOf]; omega
          · have hz1 : (ce != 0) = true := bne_iff_ne.mpr hz
            rw [if_pos hz] at HU
            have HF : Hid (checkT cs hs = ce) := by show _ = _; rw [HE.out, ← HK.out, HU.out, if_pos hz]
            clear hz hce
            go_wp2_with (go_at_call 83; (with_reducible refine HC.mono ?_); rintro e w' ⟨rfl, hb2⟩; have HB := below_then hb hb.size hb2; clear hb2 hb)
            go_ret
            exact ⟨by rw [HF.out]; rfl, HB⟩
        · have HF : Hid (checkT cs hs = firstErr (headErr cs hs) hs.length 0) := by
            show _ = _
            rw [HE.out, ← HK.out, show cs.length - k = 0 by omega]
            rfl
          obtain rfl : k = cs.length := by omega
          clear HE HK hk
          go_wp2
          go_loopw [34] (fun v wq => ∃ k : Nat, k ≤ hs.length ∧ v = .int .i64 k ∧ Below w.heap.size w wq ∧ wq.heap[w.heap.size]? = some (.cells #[.slice A0 cs.length c0, .slice A1 hs.length c1] 26 (0, 0)) ∧ Hid (firstErr (headErr cs hs) (hs.length - k) k = firstErr (headErr cs hs) hs.length 0)) (fun v _ => hs.length - (intOf v).toNat)
          case atStart => exact ⟨0, Nat.zero_le _, rfl, hb, hT, rfl⟩
          case round =>
            clear hb hT t0 t1
            obtain ⟨k, hk, rfl, hb, hT, HK⟩ := hrel
            obtain ⟨t0, t1⟩ := cells2 hT
            by_cases hlt : k < hs.length
            · have HU := Lib.hid (firstErr_one (headErr cs hs) (hs.length - k) k (by omega))
              obtain ⟨ce, hce⟩ : ∃ z, headErr cs hs k = z := ⟨_, rfl⟩
              have HC := fun W (hW : Below w.heap.size w W) => checkHead_any A0 A1 c0 c1 cs hs k W (Kd.C_below hr0 hW) (Kd.C_below hr1 hW) hc0 hc1 m0 m1 hlt
              simp only [hce] at HU HC
              by_cases hz : ce = 0
              · have hz1 : (ce != 0) = false := bne_eq_false_iff_eq.mpr hz
                rw [if_neg (by omega), show hs.length - k - 1 = hs.length - (k + 1) by omega] at HU
                clear hz hce
                go_wp2_with (go_at_call 84; (with_reducible refine (HC _ hb).mono ?_); rintro e w' ⟨rfl, hb2⟩; have HB := below_then hb hb.size hb2; have hT2 := blk_below hT hb2; clear hb2 hb)
                go_roundw
                case rel => exact ⟨k + 1, by omega, by go_num, HB, hT2, by show _ = _; rw [← HK.out, HU.out]⟩
                case measure => simp [intOf]; omega
              · have hz1 : (ce != 0) = true := bne_iff_ne.mpr hz
                rw [if_pos hz] at HU
                have HG : Hid (checkT cs hs = ce) := by show _ = _; rw [HF.out, ← HK.out, HU.out]
                clear hz hce
                go_wp2_with (go_at_call 84; (with_reducible refine (HC _ hb).mono ?_); rintro e w' ⟨rfl, hb2⟩; have HB := below_then hb hb.size hb2; clear hb2 hb)
                go_ret
                exact ⟨by rw [HG.out]; rfl, HB⟩
            · have HG : Hid (checkT cs hs = 0) := by
                show _ = _
                rw [HF.out, ← HK.out, show hs.length - k = 0 by omega]
                rfl
              clear HF HK
              go_wp2
              go_ret
              exact ⟨by rw [HG.out]; rfl, hb⟩

theorem trade_Check.calls (A0_0 : Option Addr) (c0_0 : Nat) (l0_0 : List (S51)) (A0_1 : Option Addr) (c0_1 : Nat) (l0_1 : List (S39)) (r : Int) (w : World) (hr0_0 : Kd.C k51 w A0_0 l0_0.length l0_0) (hc0_0 : l0_0.length ≤ c0_0) (hr0_1 : Kd.C k39 w A0_1 l0_1.length l0_1) (hc0_1 : l0_1.length ≤ c0_1) (h : trade_Check.f l0_0 l0_1 = some r) :
    Calls Try.prog 30 #[.agg #[.slice A0_0 l0_0.length c0_0, .slice A0_1 l0_1.length c0_1]] w fun e w' => e = .returned (.int .i64 r) ∧ Below w.heap.size w w' := by
  obtain rfl := Option.some.inj h
  have hu2 := Try.underlying26
  have hB0 := (Below.refl w.heap.size w).alloc (Nat.le_refl _) (.cells #[.slice A0_0 l0_0.length c0_0, .slice A0_1 l0_1.length c0_1] 26)
  obtain ⟨z, hz⟩ : ∃ z, checkT l0_0 l0_1 = z := ⟨_, rfl⟩
  have HC := fun W (hW : Below w.heap.size w W) => check_any A0_0 A0_1 c0_0 c0_1 l0_0 l0_1 W (Kd.C_below hr0_0 hW) (Kd.C_below hr0_1 hW) hc0_0 hc0_1
  simp only [hz] at HC ⊢
  clear hz h
  go_enter Try.func30, Try.ntmps30
  go_wp2_with (go_at_call 66; (with_reducible refine (HC _ hB0).mono ?_); rintro e w' ⟨rfl, hb2⟩)
  go_ret
  exact ⟨rfl, below_then hB0 hB0.size hb2⟩
end Go.Proofs.Ytfbimhnlcmdcpaa.Pa
/- The contracts of the sets' methods with and has: a set is a number below 256, read bit by bit. -/
namespace Go.Proofs.Ytfbimhnlcmdcpaa.Pa
open Go.RowKit Go.Proofs.YtfbimhnlcmdcpaaW.PrintWords Go.Proofs.YtfbimhnlcmdcpaaW.PrintLast Go.Proofs.YtfbimhnlcmdcpaaW.PrintMore
set_option linter.unusedVariables false
set_option linter.unusedSimpArgs false

theorem ofInt_nat (s : Nat) : BitVec.ofInt 8 (s : Int) = BitVec.ofNat 8 s := by
  rw [BitVec.ofInt_natCast]
theorem u8_wrap (s : Nat) (h : s < 256) : IntKind.u8.wrap (s : Int) = (s : Int) := by
  rw [IntKind.wrap_u8]
  omega
theorem bitsOr (s t : Nat) (hs : s < 256) (ht : t < 256) : Go.bits .or .u8 (s : Int) (t : Int) = ((s ||| t : Nat) : Int) := by
  have h : s ||| t < 2 ^ 8 := Nat.or_lt_two_pow (by omega) (by omega)
  have e : Go.bits .or .u8 (s : Int) (t : Int) = IntKind.u8.wrap (((BitVec.ofInt 8 (s : Int) ||| BitVec.ofInt 8 (t : Int)).toNat : Nat) : Int) := rfl
  rw [e, ofInt_nat, ofInt_nat, BitVec.toNat_or, BitVec.toNat_ofNat, BitVec.toNat_ofNat, Nat.mod_eq_of_lt (show s < 2 ^ 8 by omega), Nat.mod_eq_of_lt (show t < 2 ^ 8 by omega), u8_wrap _ (by omega)]
theorem bitsAnd (s t : Nat) (hs : s < 256) (ht : t < 256) : Go.bits .and .u8 (s : Int) (t : Int) = ((s &&& t : Nat) : Int) := by
  have h : s &&& t < 2 ^ 8 := Nat.and_lt_two_pow s (show t < 2 ^ 8 by omega)
  have e : Go.bits .and .u8 (s : Int) (t : Int) = IntKind.u8.wrap (((BitVec.ofInt 8 (s : Int) &&& BitVec.ofInt 8 (t : Int)).toNat : Nat) : Int) := rfl
  rw [e, ofInt_nat, ofInt_nat, BitVec.toNat_and, BitVec.toNat_ofNat, BitVec.toNat_ofNat, Nat.mod_eq_of_lt (show s < 2 ^ 8 by omega), Nat.mod_eq_of_lt (show t < 2 ^ 8 by omega), u8_wrap _ (by omega)]
/-- 's &^ t' is empty just if each element of s is one of t -/
theorem bitsAndNot (s t : Nat) (hs : s < 256) (ht : t < 256) : (Go.bits .andNot .u8 (s : Int) (t : Int) == 0) = (List.range 8).all (fun i => !s.testBit i || t.testBit i) := by
  have e : Go.bits .andNot .u8 (s : Int) (t : Int) = IntKind.u8.wrap (((BitVec.ofInt 8 (s : Int) &&& ~~~ BitVec.ofInt 8 (t : Int)).toNat : Nat) : Int) := rfl
  have hl : (BitVec.ofInt 8 (s : Int) &&& ~~~ BitVec.ofInt 8 (t : Int)).toNat < 256 := (BitVec.ofInt 8 (s : Int) &&& ~~~ BitVec.ofInt 8 (t : Int)).isLt
  rw [e, u8_wrap _ hl, ofInt_nat, ofInt_nat]
  rw [Bool.eq_iff_iff, beq_iff_eq, List.all_eq_true]
  constructor
  · intro h i hi
    have hi : i < 8 := List.mem_range.1 hi
    rw [Bool.or_eq_true, Bool.not_eq_true']
    by_cases hsb : s.testBit i = true
    · right
      have h0 : (BitVec.ofNat 8 s &&& ~~~ BitVec.ofNat 8 t) = 0#8 := by
        apply BitVec.eq_of_toNat_eq
        rw [BitVec.toNat_ofNat]
        omega
      have h1 : (BitVec.ofNat 8 s &&& ~~~ BitVec.ofNat 8 t).getLsbD i = false := by rw [h0]; simp
      rw [BitVec.getLsbD_and, BitVec.getLsbD_not, BitVec.getLsbD_ofNat, BitVec.getLsbD_ofNat, hsb] at h1
      simpa [hi] using h1
    · left
      simpa using hsb
  · intro h
    have h0 : (BitVec.ofNat 8 s &&& ~~~ BitVec.ofNat 8 t) = 0#8 := by
      apply BitVec.eq_of_getLsbD_eq
      intro i hi
      have := h i (List.mem_range.2 hi)
      rw [BitVec.getLsbD_and, BitVec.getLsbD_not, BitVec.getLsbD_ofNat, BitVec.getLsbD_ofNat]
      simp [hi]
      cases h1 : s.testBit i <;> simp_all
    rw [h0]
    rfl
theorem pow_lt (n : Nat) (hn : n < 8) : 2 ^ n < 256 := Nat.pow_lt_pow_right (a := 2) (by decide) hn
theorem or_lt (s n : Nat) (hs : s < 256) (hn : n < 8) : s ||| 2 ^ n < 256 := Nat.or_lt_two_pow (n := 8) hs (pow_lt n hn)
theorem shr_and (s n : Nat) (hs : s < 256) : (((s / 2 ^ n &&& 1 : Nat) : Int) == 1) = s.testBit n := by
  rw [Nat.testBit, Nat.shiftRight_eq_div_pow, Nat.and_comm]
  rw [Bool.eq_iff_iff, beq_iff_eq, bne_iff_ne]
  have h := Nat.and_one_is_mod (s / 2 ^ n)
  rw [Nat.and_comm] at h
  omega

theorem classes_with (s n : Nat) (hs : s < 256) (hn : n < 8) (w : World) :
    Calls Try.prog 69 #[.int .u8 s, .int .i64 n] w fun e w' => e = .returned (.int .u8 ((s ||| 2 ^ n : Nat) : Int)) ∧ w = w' := by
  have hp := pow_lt n hn
  have h2 : ((2 : Int) ^ n) = ((2 ^ n : Nat) : Int) := by simp
  have hw : IntKind.u8.wrap ((2 : Int) ^ n) = (2 : Int) ^ n := by rw [h2, u8_wrap _ hp]
  have H := Lib.hid (bitsOr s (2 ^ n) hs hp)
  have H2 := Lib.hid h2
  clear h2
  go_enter Try.func69, Try.ntmps69
  go_wp2
  go_ret
  refine ⟨?_, rfl⟩
  show Ending.returned (.int .u8 (Go.bits .or .u8 (s : Int) ((2 : Int) ^ n))) = _
  rw [H2.out, H.out]
theorem classes_with0 (n : Nat) (hn : n < 8) (w : World) :
    Calls Try.prog 69 #[.int .u8 0, .int .i64 n] w fun e w' => e = .returned (.int .u8 ((2 ^ n : Nat) : Int)) ∧ w = w' := by
  have h := classes_with 0 n (by omega) hn w
  rw [Nat.zero_or] at h
  exact h
theorem heads_with (s n : Nat) (hs : s < 256) (hn : n < 8) (w : World) :
    Calls Try.prog 74 #[.int .u8 s, .int .i64 n] w fun e w' => e = .returned (.int .u8 ((s ||| 2 ^ n : Nat) : Int)) ∧ w = w' := by
  have hp := pow_lt n hn
  have h2 : ((2 : Int) ^ n) = ((2 ^ n : Nat) : Int) := by simp
  have hw : IntKind.u8.wrap ((2 : Int) ^ n) = (2 : Int) ^ n := by rw [h2, u8_wrap _ hp]
  have H := Lib.hid (bitsOr s (2 ^ n) hs hp)
  have H2 := Lib.hid h2
  clear h2
  go_enter Try.func74, Try.ntmps74
  go_wp2
  go_ret
  refine ⟨?_, rfl⟩
  show Ending.returned (.int .u8 (Go.bits .or .u8 (s : Int) ((2 : Int) ^ n))) = _
  rw [H2.out, H.out]
theorem classes_has (s n : Nat) (hs : s < 256) (hn : n < 8) (w : World) :
    Calls Try.prog 44 #[.int .u8 s, .int .i64 n] w fun e w' => e = .returned (.bool (s.testBit n)) ∧ w = w' := by
  have h2 : ((s : Int) / (2 : Int) ^ n) = ((s / 2 ^ n : Nat) : Int) := by simp
  have hl : s / 2 ^ n < 256 := Nat.lt_of_le_of_lt (Nat.div_le_self _ _) hs
  have H := Lib.hid (bitsAnd (s / 2 ^ n) 1 hl (by omega))
  have H2 := Lib.hid h2
  have H3 := Lib.hid (shr_and s n hs)
  clear h2
  go_enter Try.func44, Try.ntmps44
  go_wp2
  go_ret
  refine ⟨?_, rfl⟩
  show Ending.returned (.bool (Go.bits .and .u8 ((s : Int) / (2 : Int) ^ n) 1 == 1)) = _
  rw [H2.out, show (1 : Int) = ((1 : Nat) : Int) from rfl, H.out, ← H3.out]
  rfl
theorem heads_has (s n : Nat) (hs : s < 256) (hn : n < 8) (w : World) :
    Calls Try.prog 75 #[.int .u8 s, .int .i64 n] w fun e w' => e = .returned (.bool (s.testBit n)) ∧ w = w' := by
  have h2 : ((s : Int) / (2 : Int) ^ n) = ((s / 2 ^ n : Nat) : Int) := by simp
  have hl : s / 2 ^ n < 256 := Nat.lt_of_le_of_lt (Nat.div_le_self _ _) hs
  have H := Lib.hid (bitsAnd (s / 2 ^ n) 1 hl (by omega))
  have H2 := Lib.hid h2
  have H3 := Lib.hid (shr_and s n hs)
  clear h2
  go_enter Try.func75, Try.ntmps75
  go_wp2
  go_ret
  refine ⟨?_, rfl⟩
  show Ending.returned (.bool (Go.bits .and .u8 ((s : Int) / (2 : Int) ^ n) 1 == 1)) = _
  rw [H2.out, show (1 : Int) = ((1 : Nat) : Int) from rfl, H.out, ← H3.out]
  rfl
theorem heads_with0 (n : Nat) (hn : n < 8) (w : World) :
    Calls Try.prog 74 #[.int .u8 0, .int .i64 n] w fun e w' => e = .returned (.int .u8 ((2 ^ n : Nat) : Int)) ∧ w = w' := by
  have h := heads_with 0 n (by omega) hn w
  rw [Nat.zero_or] at h
  exact h
end Go.Proofs.Ytfbimhnlcmdcpaa.Pa
/- The contract of trade.begin: the trades at work (IsList), or their error. -/
namespace Go.Proofs.Ytfbimhnlcmdcpaa.Pa
open Go.RowKit Go.Proofs.YtfbimhnlcmdcpaaW.PrintWords Go.Proofs.YtfbimhnlcmdcpaaW.PrintLast Go.Proofs.YtfbimhnlcmdcpaaW.PrintMore
set_option linter.unusedVariables false
set_option linter.unusedSimpArgs false

/-! ### sets of classes above, class by class -/
def aboveL (cs : List Cl) : Nat → List Nat
  | 0 => []
  | k + 1 => aboveL cs k ++ [2 ^ k ||| (if 0 ≤ (cs.getD k zCl).f1 then (aboveL cs k).getD (cs.getD k zCl).f1.toNat 0 else 0)]
theorem aboveL_length (cs : List Cl) : ∀ k, (aboveL cs k).length = k
  | 0 => rfl
  | k + 1 => by rw [aboveL, List.length_append, aboveL_length cs k]; rfl
theorem aboveL_lt (cs : List Cl) : ∀ k, k ≤ 8 → ∀ x ∈ aboveL cs k, x < 256
  | 0, _, x, hx => by simp [aboveL] at hx
  | k + 1, hk, x, hx => by
    have ih := aboveL_lt cs k (by omega)
    rw [aboveL, List.mem_append] at hx
    rcases hx with hx | hx
    · exact ih x hx
    · rw [List.mem_singleton] at hx
      subst hx
      refine Nat.or_lt_two_pow (n := 8) (pow_lt k (by omega)) ?_
      split
      · rw [List.getD_eq_getElem?_getD]
        cases hq : (aboveL cs k)[(cs.getD k zCl).f1.toNat]? with
        | none => simp
        | some y => exact ih y (List.mem_of_getElem? hq)
      · decide
def aboveI (cs : List Cl) (k : Nat) : List Int := (aboveL cs k).map Int.ofNat
/-! ### what a heading is, as a value of the interface -/
def KindVal (w : World) (x : Hd) (v : Value) : Prop :=
  (x.f2 ≠ -1 ∧ v = .iface 113 (.agg #[.int .i64 x.f2])) ∨
  (x.f2 = -1 ∧ x.f1 ≠ -1 ∧ ∃ A c, v = .iface 103 (.agg #[.int .i64 x.f1, .slice A x.f3.length c]) ∧ x.f3.length ≤ c ∧ (Kd.int .i64).C w A x.f3.length x.f3) ∨
  (x.f2 = -1 ∧ x.f1 = -1 ∧ ∃ A c, v = .iface 115 (.agg #[.slice A x.f3.length c]) ∧ x.f3.length ≤ c ∧ (Kd.int .i64).C w A x.f3.length x.f3)
theorem KindVal.below {w w1 : World} {x : Hd} {v : Value} (h : KindVal w x v) (hb : Below w.heap.size w w1) : KindVal w1 x v := by
  rcases h with ⟨h1, h2⟩ | ⟨h1, h2, A, c, h3, h4, h5⟩ | ⟨h1, h2, A, c, h3, h4, h5⟩
  · exact .inl ⟨h1, h2⟩
  · exact .inr (.inl ⟨h1, h2, A, c, h3, h4, Kd.C_below h5 hb⟩)
  · exact .inr (.inr ⟨h1, h2, A, c, h3, h4, Kd.C_below h5 hb⟩)
theorem KindVal.one {w : World} {x : Hd} {v : Value} (h : KindVal w x v) : v.oneCell' = true := by
  rcases h with ⟨h1, rfl⟩ | ⟨h1, h2, A, c, rfl, h4, h5⟩ | ⟨h1, h2, A, c, rfl, h4, h5⟩ <;> rfl
def kKind : Kd Hd where
  sz := 1
  E := []
  K := fun w x cs => ∃ v, cs = [v] ∧ KindVal w x v
  M := fun _ _ _ _ _ => False
  K_len := by rintro w x cs ⟨v, rfl, _⟩; rfl
  K_one := by
    rintro w x cs ⟨v, rfl, h⟩ u hu
    rw [List.mem_singleton.1 hu]
    exact h.one
  K_below := by
    rintro w w1 x cs hb ⟨v, rfl, h⟩
    exact ⟨v, rfl, h.below hb⟩
  K_of_M := fun h => h.elim
  M_mono := fun _ h => h.elim
  M_bound := fun h => h.elim
  M_move := fun _ h => h.elim
  M_lower := fun _ h => h.elim

/-- Trades at work, at block g. -/
structure IsList (w : World) (g : Nat) (cs : List Cl) (hs : List Hd) : Prop where
  mk ::
  ok : ∃ A0 c0 A1 c1 A2 c2 A3 c3, w.heap[g]? = some (.cells #[.slice A0 cs.length c0, .slice A1 hs.length c1, .slice A2 cs.length c2, .slice A3 hs.length c3] 81 (0, 0)) ∧
    cs.length ≤ c0 ∧ hs.length ≤ c1 ∧ Kd.C k51 w A0 cs.length cs ∧ Kd.C k39 w A1 hs.length hs ∧ (Kd.int .u8).C w A2 cs.length (aboveI cs cs.length) ∧ kKind.C w A3 hs.length hs
theorem IsList.below {w w1 : World} {g : Nat} {cs : List Cl} {hs : List Hd} (h : IsList w g cs hs) (hb : Below w.heap.size w w1) : IsList w1 g cs hs := by
  obtain ⟨A0, c0, A1, c1, A2, c2, A3, c3, hg, l0, l1, r0, r1, r2, r3⟩ := h.ok
  exact ⟨A0, c0, A1, c1, A2, c2, A3, c3, blk_below hg hb, l0, l1, Kd.C_below r0 hb, Kd.C_below r1 hb, Kd.C_below r2 hb, Kd.C_below r3 hb⟩

/-! ### trades that are valid -/
structure Valid (cs : List Cl) (hs : List Hd) : Prop where
  ok : checkT cs hs = 0
theorem firstErr_zero {g : Nat → Int} : ∀ {m i : Nat}, firstErr g m i = 0 → ∀ j, i ≤ j → j < i + m → g j = 0
  | 0, i, _, j, h1, h2 => by omega
  | m + 1, i, h, j, h1, h2 => by
    unfold firstErr at h
    by_cases hz : g i = 0
    · rw [if_neg (by omega)] at h
      by_cases hj : j = i
      · rw [hj]; exact hz
      · exact firstErr_zero h j (by omega) (by omega)
    · rw [if_pos hz] at h
      exact absurd h hz
theorem Valid.split {cs : List Cl} {hs : List Hd} (h : Valid cs hs) : cs.length ≤ 6 ∧ hs.length ≤ 6 ∧ (∀ i, i < cs.length → classErr cs i = 0) ∧ (∀ i, i < hs.length → headErr cs hs i = 0) := by
  have h := h.ok
  unfold checkT at h
  split at h
  · omega
  · rename_i hl
    split at h
    · rename_i h1; exact absurd h h1
    · rename_i h1
      refine ⟨by omega, by omega, fun i hi => firstErr_zero (by omega : firstErr (classErr cs) cs.length 0 = 0) i (by omega) (by omega), fun i hi => firstErr_zero h i (by omega) (by omega)⟩
theorem classErr_zero {cs : List Cl} {i : Nat} (h : classErr cs i = 0) : wordOk (cs.getD i zCl).f0 = true ∧ (cs.take i).any (fun y => sEq y.f0 (cs.getD i zCl).f0) = false ∧ -1 ≤ (cs.getD i zCl).f1 ∧ (cs.getD i zCl).f1 < (i : Int) := by
  unfold classErr at h
  split at h
  · omega
  · split at h
    · omega
    · split at h
      · omega
      · split at h
        · omega
        · rename_i a b c d
          refine ⟨by simpa using a, by simpa using b, by omega, by omega⟩
theorem Valid.under {cs : List Cl} {hs : List Hd} (h : Valid cs hs) (i : Nat) (hi : i < cs.length) : -1 ≤ (cs.getD i zCl).f1 ∧ (cs.getD i zCl).f1 < (i : Int) :=
  (classErr_zero (h.split.2.2.1 i hi)).2.2

theorem grownBy_setCell (W : World) (p : Addr) (u : Value) : W.grownBy (W.setCell p u) (some p.block) := by
  have hb := (Below.refl p.block W).setCell (p := p) (Nat.le_refl _) u
  exact ⟨hb.os, hb.tape, hb.output, hb.size, fun k _ hne => Below.heap_setCell W p u k (fun e => hne (by rw [e]))⟩

/-! ### begin's first loop -/
structure BegA (w : World) (cells0 cells1 : Value) (cs : List Cl) (g : Nat) (wr : World) (va : Value) (k : Nat) : Prop where
  mk ::
  bel : Below w.heap.size w wr
  lt : w.heap.size < g
  box : wr.heap[w.heap.size]? = some (.cells #[cells0, cells1] 26 (0, 0))
  lst : wr.heap[g]? = some (.cells #[cells0, cells1, va, .slice none 0 0] 81 (0, 0))
  own : wr.ownsRow (g + 1) 77 1 va k (nums .u8 (aboveI cs k))
section
variable {w wr : World} {cells0 cells1 va : Value} {cs : List Cl} {g k : Nat}
theorem BegA.glt (h : BegA w cells0 cells1 cs g wr va k) : g < wr.heap.size := (Array.getElem?_eq_some_iff.1 h.lst).1
theorem BegA.step {w1 : World} (h : BegA w cells0 cells1 cs g wr va k) (hb : Below wr.heap.size wr w1) : BegA w cells0 cells1 cs g w1 va k :=
  ⟨below_then h.bel h.bel.size hb, h.lt, blk_below h.box hb, blk_below h.lst hb, pw_own_below h.own hb⟩
theorem BegA.alloc (h : BegA w cells0 cells1 cs g wr va k) (o : Obj) : BegA w cells0 cells1 cs g (wr.alloc o) va k := h.step ((Below.refl _ _).alloc (Nat.le_refl _) o)
theorem BegA.drewN (h : BegA w cells0 cells1 cs g wr va k) (n : Nat) : BegA w cells0 cells1 cs g (wr.drewN n) va k := h.step (pw_below_drewN (Below.refl _ _) n)
theorem BegA.ne (h : BegA w cells0 cells1 cs g wr va k) (j : Nat) (hj : j ≤ g) : some j ≠ va.ownBlock := fun e => by have := (h.own.lt j e.symm).1; omega
/-- behind the append: what stays -/
theorem BegA.appended {w3 : World} {v' : Value} {x : Nat} (h : BegA w cells0 cells1 cs g wr va k) (ho : w3.ownsRow (g + 1) 77 1 v' (k + 1) (nums .u8 (aboveI cs k) ++ [.int .u8 (x : Int)])) (hg : wr.grownBy w3 va.ownBlock)
    (hx : x = 2 ^ k ||| (if 0 ≤ (cs.getD k zCl).f1 then (aboveL cs k).getD (cs.getD k zCl).f1.toNat 0 else 0)) : w3.heap[g]? = some (.cells #[cells0, cells1, va, .slice none 0 0] 81 (0, 0)) ∧ BegA w cells0 cells1 cs g (w3.setCell ⟨g, 2, none⟩ v') v' (k + 1) := by
  have hl3 : w3.heap[g]? = some (.cells #[cells0, cells1, va, .slice none 0 0] 81 (0, 0)) := by
    rw [hg.block g h.glt (h.ne g (Nat.le_refl _))]; exact h.lst
  have hxs : nums .u8 (aboveI cs k) ++ [.int .u8 (x : Int)] = nums .u8 (aboveI cs (k + 1)) := by
    rw [hx, aboveI, aboveI, aboveL, List.map_append, nums_append]
    rfl
  rw [hxs] at ho
  have hne : v'.ownBlock = none ∨ v'.ownBlock ≠ some g := by
    cases hq : v'.ownBlock with
    | none => exact .inl rfl
    | some j => right; intro e; have := (ho.lt j hq).1; injection e with e; omega
  have hb3 : Below w.heap.size w w3 := h.bel.grown hg h.bel.size (fun j e => by have := (h.own.lt j e).1; have := h.lt; omega)
  have hbox3 : w3.heap[w.heap.size]? = some (.cells #[cells0, cells1] 26 (0, 0)) := by
    rw [hg.block w.heap.size (Array.getElem?_eq_some_iff.1 h.box).1 (h.ne _ (by have := h.lt; omega))]; exact h.box
  refine ⟨hl3, ?_, h.lt, ?_, ?_, ?_⟩
  · exact hb3.setCell (p := ⟨g, 2, none⟩) (by have := h.lt; show _ ≤ g; omega) v'
  · rw [Below.heap_setCell _ _ _ _ (by have := h.lt; show w.heap.size ≠ g; omega)]; exact hbox3
  · exact (blk_put hl3 2 v' rfl)
  · exact own_other ho (grownBy_setCell w3 ⟨g, 2, none⟩ v') hne
end

/-! ### begin's second loop -/
structure BegB (w : World) (cells0 cells1 va : Value) (cs : List Cl) (hs : List Hd) (g : Nat) (wr : World) (vb : Value) (vals : List Value) (k : Nat) : Prop where
  mk ::
  bel : Below w.heap.size w wr
  lt : w.heap.size < g
  box : wr.heap[w.heap.size]? = some (.cells #[cells0, cells1] 26 (0, 0))
  lst : wr.heap[g]? = some (.cells #[cells0, cells1, va, vb] 81 (0, 0))
  own : wr.ownsRow (g + 1) 77 1 va cs.length (nums .u8 (aboveI cs cs.length))
  ownb : wr.ownsRow (g + 1) 101 1 vb k vals
  kv : ∀ i v, vals[i]? = some v → KindVal w (hs.getD i zHd) v
section
variable {w wr : World} {cells0 cells1 va vb : Value} {cs : List Cl} {hs : List Hd} {g k : Nat} {vals : List Value}
theorem BegB.glt (h : BegB w cells0 cells1 va cs hs g wr vb vals k) : g < wr.heap.size := (Array.getElem?_eq_some_iff.1 h.lst).1
theorem BegB.step {w1 : World} (h : BegB w cells0 cells1 va cs hs g wr vb vals k) (hb : Below wr.heap.size wr w1) : BegB w cells0 cells1 va cs hs g w1 vb vals k :=
  ⟨below_then h.bel h.bel.size hb, h.lt, blk_below h.box hb, blk_below h.lst hb, pw_own_below h.own hb, pw_own_below h.ownb hb, h.kv⟩
theorem BegB.alloc (h : BegB w cells0 cells1 va cs hs g wr vb vals k) (o : Obj) : BegB w cells0 cells1 va cs hs g (wr.alloc o) vb vals k := h.step ((Below.refl _ _).alloc (Nat.le_refl _) o)
theorem BegB.drewN (h : BegB w cells0 cells1 va cs hs g wr vb vals k) (n : Nat) : BegB w cells0 cells1 va cs hs g (wr.drewN n) vb vals k := h.step (pw_below_drewN (Below.refl _ _) n)
theorem BegB.drew (h : BegB w cells0 cells1 va cs hs g wr vb vals k) : BegB w cells0 cells1 va cs hs g wr.drew vb vals k := h.step (below_drew (Below.refl _ _))
theorem BegB.ne (h : BegB w cells0 cells1 va cs hs g wr vb vals k) (j : Nat) (hj : j ≤ g) : some j ≠ vb.ownBlock := fun e => by have := (h.ownb.lt j e.symm).1; omega
theorem BegB.appended {w3 : World} {v' y : Value} (h : BegB w cells0 cells1 va cs hs g wr vb vals k) (ho : w3.ownsRow (g + 1) 101 1 v' (k + 1) (vals ++ [y])) (hg : wr.grownBy w3 vb.ownBlock) (hy : KindVal w (hs.getD k zHd) y) :
    w3.heap[g]? = some (.cells #[cells0, cells1, va, vb] 81 (0, 0)) ∧ BegB w cells0 cells1 va cs hs g (w3.setCell ⟨g, 3, none⟩ v') v' (vals ++ [y]) (k + 1) := by
  have hl3 : w3.heap[g]? = some (.cells #[cells0, cells1, va, vb] 81 (0, 0)) := by
    rw [hg.block g h.glt (h.ne g (Nat.le_refl _))]; exact h.lst
  have hne : v'.ownBlock = none ∨ v'.ownBlock ≠ some g := by
    cases hq : v'.ownBlock with
    | none => exact .inl rfl
    | some j => right; intro e; have := (ho.lt j hq).1; injection e with e; omega
  have hna : va.ownBlock = none ∨ va.ownBlock ≠ some g := by
    cases hq : va.ownBlock with
    | none => exact .inl rfl
    | some j => right; intro e; have := (h.own.lt j hq).1; injection e with e; omega
  have hb3 : Below w.heap.size w w3 := h.bel.grown hg h.bel.size (fun j e => by have := (h.ownb.lt j e).1; have := h.lt; omega)
  have hbox3 : w3.heap[w.heap.size]? = some (.cells #[cells0, cells1] 26 (0, 0)) := by
    rw [hg.block w.heap.size (Array.getElem?_eq_some_iff.1 h.box).1 (h.ne _ (by have := h.lt; omega))]; exact h.box
  have ha3 := own_other h.own hg (own_type_ne h.own h.ownb (by decide))
  have hl : vals.length = k := by have := h.ownb.1; omega
  refine ⟨hl3, ?_, h.lt, ?_, ?_, ?_, ?_, ?_⟩
  · exact hb3.setCell (p := ⟨g, 3, none⟩) (by have := h.lt; show _ ≤ g; omega) v'
  · rw [Below.heap_setCell _ _ _ _ (by have := h.lt; show w.heap.size ≠ g; omega)]; exact hbox3
  · exact (blk_put hl3 3 v' rfl)
  · exact own_other ha3 (grownBy_setCell w3 ⟨g, 3, none⟩ v') hna
  · exact own_other ho (grownBy_setCell w3 ⟨g, 3, none⟩ v') hne
  · intro i v hiv
    rcases Nat.lt_or_ge i k with hik | hik
    · rw [List.getElem?_append_left (by omega)] at hiv
      exact h.kv i v hiv
    · rw [List.getElem?_append_right (by omega)] at hiv
      have : i = k := by
        rcases Nat.lt_or_ge (i - vals.length) 1 with hq | hq
        · omega
        · rw [List.getElem?_eq_none (by simpa using hq)] at hiv; cases hiv
      subst this
      rw [hl, Nat.sub_self] at hiv
      injection hiv with hiv
      subst hiv
      exact hy
end

/-- a row of the call's own whose values are headings' kinds is read -/
theorem kinds_read {w wr : World} {base k : Nat} {vb : Value} {vals : List Value} {hs : List Hd} (h : wr.ownsRow base 101 1 vb k vals) (hk : k = hs.length) (hb : Below w.heap.size w wr) (hv : ∀ i v, vals[i]? = some v → KindVal w (hs.getD i zHd) v) :
    ∃ A c, vb = .slice A hs.length c ∧ kKind.C wr A hs.length hs := by
  subst hk
  rcases Nat.eq_zero_or_pos hs.length with h0 | h0
  · obtain ⟨A, c, rfl⟩ := own_slice h
    exact ⟨A, c, rfl, rfl, by omega, fun hp => absurd hp (by omega)⟩
  · obtain ⟨g, cap, rfl, hg, hcap⟩ := h.form h0
    have hl : vals.length = hs.length := by have := h.1; omega
    have hmx : hs.length ≤ 9223372036854775807 := by
      rcases h.2 with ⟨_, h1⟩ | ⟨g', cap', cur, he, _, _, h1, h2, _⟩
      · omega
      · simp only [maxLen] at h2
        omega
    refine ⟨_, cap, rfl, rfl, hmx, fun _ => ⟨_, rfl, fun j p hj => ?_⟩⟩
    have hjl : j < hs.length := (List.getElem?_eq_some_iff.1 hj).1
    obtain ⟨v, hvj⟩ : ∃ v, vals[j]? = some v := ⟨_, List.getElem?_eq_getElem (by omega)⟩
    have hp : hs.getD j zHd = p := by rw [List.getD_eq_getElem?_getD, hj]; rfl
    refine ⟨[v], rfl, ⟨v, rfl, ?_⟩, ?_⟩
    · have := (hv j v hvj).below hb
      rwa [hp] at this
    · intro i u hu
      match i, hu with
      | 0, hu =>
        have hu : v = u := by simpa using hu
        subst hu
        have := h.cells (g := g) rfl j v hvj
        show wr.cell? ((⟨g, 0, none⟩ : Addr).add (j * 1 + 0)) = _
        rw [Nat.mul_one, Nat.add_zero]
        exact this
      | i + 1, hu => simp at hu
theorem BegB.done {w wr : World} {A0 A1 : Option Addr} {c0 c1 : Nat} {va vb : Value} {cs : List Cl} {hs : List Hd} {g : Nat} {vals : List Value} (h : BegB w (.slice A0 cs.length c0) (.slice A1 hs.length c1) va cs hs g wr vb vals hs.length)
    (hr0 : Kd.C k51 w A0 cs.length cs) (hr1 : Kd.C k39 w A1 hs.length hs) (hc0 : cs.length ≤ c0) (hc1 : hs.length ≤ c1) : IsList wr g cs hs := by
  obtain ⟨A3, c3, rfl, hR3⟩ := kinds_read h.ownb rfl h.bel h.kv
  obtain ⟨A2, c2, rfl, hR2⟩ := own_reads h.own
  exact ⟨A0, c0, A1, c1, A2, c2, A3, c3, h.lst, hc0, hc1, Kd.C_below hr0 h.bel, Kd.C_below hr1 h.bel, Kd.C_of_reads (d := (0 : Int)) (h1 := fun _ => rfl) hR2, hR3⟩

theorem cells1 {W : World} {g : Nat} {a : Value} {t : Nat} (h : W.heap[g]? = some (.cells #[a] t (0, 0))) : W.cell? ⟨g, 0, none⟩ = some a := (blk_cell h 0).trans rfl
theorem infoCl : (Try.prog.info? 77).map (fun i => (i.zero, i.size, i.bytes)) = some (some (.int .u8 0), 1, 1) := by kernel_rfl
theorem infoKd : (Try.prog.info? 101).map (fun i => (i.zero, i.size, i.bytes)) = some (some .nilIface, 1, 16) := by kernel_rfl

set_option maxHeartbeats 2000000 in
set_option maxRecDepth 100000 in
theorem begin_bad (A0 A1 : Option Addr) (c0 c1 : Nat) (cs : List Cl) (hs : List Hd) (w : World) (hr0 : Kd.C k51 w A0 cs.length cs) (hr1 : Kd.C k39 w A1 hs.length hs) (hc0 : cs.length ≤ c0) (hc1 : hs.length ≤ c1) (hbad : checkT cs hs ≠ 0) :
    Calls Try.prog 42 #[.agg #[.slice A0 cs.length c0, .slice A1 hs.length c1]] w fun e w' => e = .returned (.tuple #[.pointer none, .int .i64 (checkT cs hs)]) ∧ Below w.heap.size w w' := by
  have hu2 := Try.underlying26
  have hB0 := (Below.refl w.heap.size w).alloc (Nat.le_refl _) (.cells #[.slice A0 cs.length c0, .slice A1 hs.length c1] 26)
  have HC := fun W (hW : Below w.heap.size w W) => check_any A0 A1 c0 c1 cs hs W (Kd.C_below hr0 hW) (Kd.C_below hr1 hW) hc0 hc1
  obtain ⟨z, hz⟩ : ∃ z, checkT cs hs = z := ⟨_, rfl⟩
  simp only [hz] at HC hbad ⊢
  have hz1 : (z != 0) = true := bne_iff_ne.mpr hbad
  clear hbad hz
  go_enter Try.func42, Try.ntmps42
  go_wp2_with (go_at_call 66; (with_reducible refine (HC _ hB0).mono ?_); rintro e w1 ⟨rfl, hb1⟩; have HB1 := below_then hB0 hB0.size hb1)
  go_ret2
  exact ⟨rfl, HB1⟩

set_option maxHeartbeats 2000000 in
set_option maxRecDepth 100000 in
theorem begin_good (A0 A1 : Option Addr) (c0 c1 : Nat) (cs : List Cl) (hs : List Hd) (w : World) (hr0 : Kd.C k51 w A0 cs.length cs) (hr1 : Kd.C k39 w A1 hs.length hs) (hc0 : cs.length ≤ c0) (hc1 : hs.length ≤ c1) (hv : Valid cs hs) :
    Calls Try.prog 42 #[.agg #[.slice A0 cs.length c0, .slice A1 hs.length c1]] w fun e w' => ∃ g, e = .returned (.tuple #[.pointer (some ⟨g, 0, none⟩), .int .i64 0]) ∧ IsList w' g cs hs ∧ Below w.heap.size w w' := by
  obtain ⟨m0, m1, -, -⟩ := hv.split
  have hu2 := Try.underlying26
  have hu3 := Try.underlying81
  have hu4 := Try.underlying51
  obtain ⟨i0, hi, hz0, hz1, hz2⟩ := info_parts infoCl
  obtain ⟨j0, hj, hy0, hy1, hy2⟩ := info_parts infoKd
  have hB0 := (Below.refl w.heap.size w).alloc (Nat.le_refl _) (.cells #[.slice A0 cs.length c0, .slice A1 hs.length c1] 26)
  have HC := fun W (hW : Below w.heap.size w W) => check_any A0 A1 c0 c1 cs hs W (Kd.C_below hr0 hW) (Kd.C_below hr1 hW) hc0 hc1
  simp only [hv.ok] at HC
  go_enter Try.func42, Try.ntmps42
  go_wp2_with (go_at_call 66; (with_reducible refine (HC _ hB0).mono ?_); rintro e w1 ⟨rfl, hb1⟩; have HB1 := below_then hB0 hB0.size hb1; obtain ⟨-, hT1⟩ := one_box hb1; have hA := fun o => (Below.refl w1.heap.size w1).alloc (Nat.le_refl _) o; obtain ⟨t0, t1⟩ := cells2 hT1; have s0 := fun o => pw_cell_below (hA o) t0; have s1 := fun o => pw_cell_below (hA o) t1; clear hb1)
  clear t0 t1
  have hlst := heap_alloc_new w1 (.cells #[.slice A0 cs.length c0, .slice A1 hs.length c1, .slice none 0 0, .slice none 0 0] 81)
  have hbox := blk_below hT1 (hA (.cells #[.slice A0 cs.length c0, .slice A1 hs.length c1, .slice none 0 0, .slice none 0 0] 81))
  have hbel := below_then HB1 HB1.size (hA (.cells #[.slice A0 cs.length c0, .slice A1 hs.length c1, .slice none 0 0, .slice none 0 0] 81))
  have hgt : w.heap.size < w1.heap.size := (Array.getElem?_eq_some_iff.1 hT1).1
  obtain ⟨W0, hW0⟩ : ∃ W0, W0 = w1.alloc (.cells #[.slice A0 cs.length c0, .slice A1 hs.length c1, .slice none 0 0, .slice none 0 0] 81) := ⟨_, rfl⟩
  rw [← hW0] at hlst hbox hbel ⊢
  have hst : BegA w (.slice A0 cs.length c0) (.slice A1 hs.length c1) cs w1.heap.size W0 (.slice none 0 0) 0 := ⟨hbel, hgt, hbox, hlst, own_nil _ _ _ _⟩
  obtain ⟨g, hg⟩ : ∃ g, w1.heap.size = g := ⟨_, rfl⟩
  rw [hg] at hst ⊢
  clear hg hW0 hlst hbox hbel hgt s0 s1 hA hT1 HB1
  clear w1
  go_loopg [22] cs.length (fun gk v wr => ∃ (k : Nat) (va : Value), k + gk = cs.length ∧ v = .int .i64 k ∧ BegA w (.slice A0 cs.length c0) (.slice A1 hs.length c1) cs g wr va k)
  case atStart => exact ⟨0, _, by omega, rfl, hst⟩
  case round =>
    clear hst
    clear W0
    obtain ⟨k, va, hk, rfl, HA⟩ := hrel
    by_cases hlt : k < cs.length
    · obtain ⟨ad, e, h0, h1⟩ := clAt (Kd.C_below hr0 HA.bel) k hlt
      cases e
      have hu := hv.under k hlt
      obtain ⟨x, hx⟩ : ∃ x, cs.getD k zCl = x := ⟨_, rfl⟩
      rw [hx] at h0 h1 hu
      have hk8 : k < 8 := by omega
      have HW := fun W => classes_with0 k hk8 W
      obtain ⟨p2, hp2⟩ : ∃ p, 2 ^ k = p := ⟨_, rfl⟩
      have hp3 := pow_lt k hk8
      rw [hp2] at hp3
      simp only [hp2] at HW
      obtain ⟨tb0, tb1⟩ := cells2 HA.box
      go_upto_if 31 with (go_at_call 69; (with_reducible refine (HW _).mono ?_); rintro e w2 ⟨rfl, rfl⟩)
      have HB := HA.alloc (.cells #[.string x.f0, .int .i64 x.f1] 51)
      obtain ⟨W1, hW1⟩ : ∃ W1, W1 = wr.alloc (.cells #[.string x.f0, .int .i64 x.f1] 51) := ⟨_, rfl⟩
      have hbx : (wr.alloc (.cells #[.string x.f0, .int .i64 x.f1] 51)).cell? ⟨wr.heap.size, 1, none⟩ = some (.int .i64 x.f1) := by simp
      rw [← hW1] at HB hbx ⊢
      clear hW1 HA tb0 tb1 h0 h1
      obtain ⟨X, hX⟩ : ∃ X : Nat, X = 2 ^ k ||| (if 0 ≤ x.f1 then (aboveL cs k).getD x.f1.toNat 0 else 0) := ⟨_, rfl⟩
      have HX := Lib.hid hX
      clear hX
      go_cut [8] (fun s8 wx => s8 = .int .u8 (X : Int) ∧ BegA w (.slice (some ad) cs.length c0) (.slice A1 hs.length c1) cs g wx va k)
      case first =>
        by_cases hn : 0 ≤ x.f1
        · have hn1 : decide (0 ≤ x.f1) = true := decide_eq_true hn
          obtain ⟨q, hq⟩ : ∃ q : Nat, x.f1 = q := ⟨x.f1.toNat, by omega⟩
          have hqk : q < k := by omega
          obtain ⟨l0, l1, l2, l3⟩ := cells4 HB.lst
          have hl := aboveL_length cs k
          obtain ⟨gv, cv, rfl, hgv, hlv⟩ := HB.own.form (by omega)
          have hcell := HB.own.cells (g := gv) rfl q (.int .u8 ((aboveL cs k).getD q 0 : Nat)) (by
            simp [nums, aboveI, List.getElem?_eq_getElem (show q < (aboveL cs k).length by omega), List.getD_eq_getElem?_getD])
          rw [add_plain] at hcell
          have hb2 : (aboveL cs k).getD q 0 < 256 := by
            rw [List.getD_eq_getElem?_getD, List.getElem?_eq_getElem (by omega)]
            exact aboveL_lt cs k (by omega) _ (List.getElem_mem _)
          have HO := Lib.hid (bitsOr p2 ((aboveL cs k).getD q 0) hp3 hb2)
          have HX2 : Hid (X = p2 ||| (aboveL cs k).getD q 0) := by
            show _ = _
            rw [HX.out, hp2, if_pos hn, hq, Int.toNat_natCast]
          rw [hq] at hbx hn1
          obtain ⟨ab, hab⟩ : ∃ ab, (aboveL cs k).getD q 0 = ab := ⟨_, rfl⟩
          rw [hab] at hcell hb2 HO HX2
          have hqk2 : (q : Int) < k := by omega
          have hq0 : (0 : Int) ≤ q := by omega
          clear hab hq hl hu
          go_wp2
          go_quiet (fail)
          go_wp2
          go_meet
          case rel => exact ⟨by rw [HX2.out, ← HO.out], HB.drewN _⟩
        · have hn1 : decide (0 ≤ x.f1) = false := decide_eq_false hn
          have HX2 : Hid (X = p2) := by
            show _ = _
            rw [HX.out, hp2, if_neg hn, Nat.or_zero]
          have hn2 : x.f1 < 0 := by omega
          clear hn hu
          go_wp2
          go_meet
          case rel => exact ⟨by rw [HX2.out], HB⟩
      case rest =>
        clear HB hbx
        clear W1
        obtain ⟨rfl, HB⟩ := hcut
        obtain ⟨l0, l1, l2, l3⟩ := cells4 HB.lst
        have hgl := HB.glt
        have hgw : g < wc.heap.size := hgl
        go_wp2_with (at_builtin; go_loud (refine wpList_append_own _ rfl _ _ 78 rfl (g + 1) 77 i0 (.int .u8 0) 1 1 Try.underlying78 hi hz0 hz1 hz2 rfl (by decide) _ _ _ rfl (HB.own.alloc _) ⟨wc.heap.size, 0, none⟩ 1 1 [.int .u8 (X : Int)] rfl rfl (cell_one_new _ _ _) (by simp [Value.oneCell']) (by unfold maxLen; omega) (by omega) (by simp; omega) ?_; intro v' w3 hown3 hgrow3 _; obtain ⟨hl3, HB3⟩ := (HB.alloc _).appended hown3 hgrow3 (by rw [HX.out, hx]); obtain ⟨gv, cv, rfl, -, -⟩ := hown3.form (by omega); have hc3 := (cells4 hl3).2.2.1; have hf3 := blk_frozen hl3 2; clear hown3 hgrow3))
        go_roundg (cs.length - (k + 1))
        case measure => omega
        case rel => exact ⟨k + 1, _, by omega, by go_num, HB3⟩
    · obtain rfl : k = cs.length := by omega
      clear hk
      obtain ⟨tb0, tb1⟩ := cells2 HA.box
      have hst : BegB w (.slice A0 cs.length c0) (.slice A1 hs.length c1) va cs hs g wr (.slice none 0 0) [] 0 := ⟨HA.bel, HA.lt, HA.box, HA.lst, HA.own, own_nil _ _ _ _, fun i v h => by simp at h⟩
      go_wp2
      go_loopg [56] hs.length (fun gk v wq => ∃ (k : Nat) (vb : Value) (vals : List Value), k + gk = hs.length ∧ v = .int .i64 k ∧ BegB w (.slice A0 cs.length c0) (.slice A1 hs.length c1) va cs hs g wq vb vals k)
      case atStart => exact ⟨0, _, _, by omega, rfl, hst⟩
      case round =>
        clear hst tb0 tb1 HA
        obtain ⟨k, vb, vals, hk, rfl, HA⟩ := hrel
        obtain ⟨tb0, tb1⟩ := cells2 HA.box
        by_cases hlt : k < hs.length
        · obtain ⟨ad, A3, c3, e, h0, h1, h2, h3, h4, h5⟩ := hdAt hr1 k hlt
          cases e
          obtain ⟨x, hx⟩ : ∃ x, hs.getD k zHd = x := ⟨_, rfl⟩
          rw [hx] at h0 h1 h2 h3 h4 h5
          replace h0 := pw_cell_below HA.bel h0
          replace h1 := pw_cell_below HA.bel h1
          replace h2 := pw_cell_below HA.bel h2
          replace h3 := pw_cell_below HA.bel h3
          by_cases p1 : x.f2 = -1
          · have p1a : (x.f2 != -1) = false := bne_eq_false_iff_eq.mpr p1
            by_cases p2 : x.f1 = -1
            · have p2a : (x.f1 != -1) = false := bne_eq_false_iff_eq.mpr p2
              have HVv : Hid (KindVal w (hs.getD k zHd) (.iface 115 (.agg #[.slice A3 x.f3.length c3]))) := .inr (.inr ⟨by rw [hx]; exact p1, by rw [hx]; exact p2, A3, c3, by rw [hx], by rw [hx]; exact h4, by rw [hx]; exact h5⟩)
              clear p1 p2
              go_upto_region 16 with (fail)
              have HB := HA.alloc (.cells #[.string x.f0, .int .i64 x.f1, .int .i64 x.f2, .slice A3 x.f3.length c3] 39)
              have hbx := cells4 (heap_alloc_new wr (.cells #[.string x.f0, .int .i64 x.f1, .int .i64 x.f2, .slice A3 x.f3.length c3] 39))
              have hnb : g < wr.heap.size := HA.glt
              have HNB : Hid (some wr.heap.size ≠ vb.ownBlock) := fun e => by have := (HA.ownb.lt _ e.symm).2; omega
              obtain ⟨W1, hW1⟩ : ∃ W1, W1 = wr.alloc (.cells #[.string x.f0, .int .i64 x.f1, .int .i64 x.f2, .slice A3 x.f3.length c3] 39) := ⟨_, rfl⟩
              rw [← hW1] at HB hbx ⊢
              obtain ⟨b0, b1, b2, b3⟩ := hbx
              obtain ⟨l0, l1, l2, l3⟩ := cells4 HB.lst
              clear hW1 HA tb0 tb1 h0 h1 h2 h3
              have hgW : g < W1.heap.size := HB.glt
              have hwW : wr.heap.size < W1.heap.size := World.block_lt_of_cell? _ _ b2
              have ne1 := HB.ne g (Nat.le_refl _)
              have eg := World.new_ne W1 ⟨g, 3, none⟩ l3
              have eb := World.new_ne W1 ⟨wr.heap.size, 2, none⟩ b2
              have nb : some wr.heap.size ≠ vb.ownBlock := HNB.out
              have fz := blk_frozen HB.lst 3
              have fz2 := fun o => blk_frozen (HB.alloc o).lst 3
              go_region_law
                ((refine step_append_lies _ (by rfl) _ _ _ (by rfl) (g + 1) 101 j0 _ 1 16 Try.underlying79 hj hy0 hy1 hy2 rfl (by omega) vb k vals (by rfl) ((HB.ownb.alloc _).drew) ⟨W1.heap.size, 0, none⟩ 1 1 [.iface 115 (.agg #[.slice A3 x.f3.length c3])] (by rfl) (by rfl) (World.news_of_block (cs := #[.iface 115 (.agg #[.slice A3 x.f3.length c3])]) (t := 101) (fr := (0, 0)) (heap_alloc_new W1 _)) (by simp [Value.oneCell']) (by omega) (by unfold maxLen; omega) (by omega) (by simp; omega) (W1.heap.size + 1) (by simp) ?_; intro gg cap w1 hown1 hgrow hat hlt1; obtain ⟨hl3, HB3⟩ := (HB.alloc _).drew.appended hown1 hgrow HVv.out; have hc3 := (cells4 hl3).2.2.2; have hf3 := blk_frozen hl3 3; clear hown1 hgrow hat hlt1))
              all_goals
                go_wp2
                go_roundg (hs.length - (k + 1))
                case measure => omega
                case rel => exact ⟨k + 1, _, _, by omega, by go_num, HB3⟩
            · have p2a : (x.f1 != -1) = true := bne_iff_ne.mpr p2
              have HVv : Hid (KindVal w (hs.getD k zHd) (.iface 103 (.agg #[.int .i64 x.f1, .slice A3 x.f3.length c3]))) := .inr (.inl ⟨by rw [hx]; exact p1, by rw [hx]; exact p2, A3, c3, by rw [hx], by rw [hx]; exact h4, by rw [hx]; exact h5⟩)
              clear p1 p2
              go_upto_region 20 with (fail)
              have HB := HA.alloc (.cells #[.string x.f0, .int .i64 x.f1, .int .i64 x.f2, .slice A3 x.f3.length c3] 39)
              have hbx := cells4 (heap_alloc_new wr (.cells #[.string x.f0, .int .i64 x.f1, .int .i64 x.f2, .slice A3 x.f3.length c3] 39))
              have hnb : g < wr.heap.size := HA.glt
              have HNB : Hid (some wr.heap.size ≠ vb.ownBlock) := fun e => by have := (HA.ownb.lt _ e.symm).2; omega
              obtain ⟨W1, hW1⟩ : ∃ W1, W1 = wr.alloc (.cells #[.string x.f0, .int .i64 x.f1, .int .i64 x.f2, .slice A3 x.f3.length c3] 39) := ⟨_, rfl⟩
              rw [← hW1] at HB hbx ⊢
              obtain ⟨b0, b1, b2, b3⟩ := hbx
              obtain ⟨l0, l1, l2, l3⟩ := cells4 HB.lst
              clear hW1 HA tb0 tb1 h0 h1 h2 h3
              have hgW : g < W1.heap.size := HB.glt
              have hwW : wr.heap.size < W1.heap.size := World.block_lt_of_cell? _ _ b2
              have ne1 := HB.ne g (Nat.le_refl _)
              have eg := World.new_ne W1 ⟨g, 3, none⟩ l3
              have eb := World.new_ne W1 ⟨wr.heap.size, 2, none⟩ b2
              have nb : some wr.heap.size ≠ vb.ownBlock := HNB.out
              have fz := blk_frozen HB.lst 3
              have fz2 := fun o => blk_frozen (HB.alloc o).lst 3
              go_region_law
                ((refine step_append_lies _ (by rfl) _ _ _ (by rfl) (g + 1) 101 j0 _ 1 16 Try.underlying79 hj hy0 hy1 hy2 rfl (by omega) vb k vals (by rfl) ((HB.ownb.alloc _).drew) ⟨W1.heap.size, 0, none⟩ 1 1 [.iface 103 (.agg #[.int .i64 x.f1, .slice A3 x.f3.length c3])] (by rfl) (by rfl) (World.news_of_block (cs := #[.iface 103 (.agg #[.int .i64 x.f1, .slice A3 x.f3.length c3])]) (t := 101) (fr := (0, 0)) (heap_alloc_new W1 _)) (by simp [Value.oneCell']) (by omega) (by unfold maxLen; omega) (by omega) (by simp; omega) (W1.heap.size + 1) (by simp) ?_; intro gg cap w1 hown1 hgrow hat hlt1; obtain ⟨hl3, HB3⟩ := (HB.alloc _).drew.appended hown1 hgrow HVv.out; have hc3 := (cells4 hl3).2.2.2; have hf3 := blk_frozen hl3 3; clear hown1 hgrow hat hlt1))
              all_goals
                go_wp2
                go_roundg (hs.length - (k + 1))
                case measure => omega
                case rel => exact ⟨k + 1, _, _, by omega, by go_num, HB3⟩
          · have p1a : (x.f2 != -1) = true := bne_iff_ne.mpr p1
            have HV : KindVal w (hs.getD k zHd) (.iface 113 (.agg #[.int .i64 x.f2])) := .inl ⟨by rw [hx]; exact p1, by rw [hx]⟩
            have HVv := Lib.hid HV
            clear p1 HV
            go_upto_region 18 with (fail)
            have HB := HA.alloc (.cells #[.string x.f0, .int .i64 x.f1, .int .i64 x.f2, .slice A3 x.f3.length c3] 39)
            have hbx := cells4 (heap_alloc_new wr (.cells #[.string x.f0, .int .i64 x.f1, .int .i64 x.f2, .slice A3 x.f3.length c3] 39))
            have hnb : g < wr.heap.size := HA.glt
            have HNB : Hid (some wr.heap.size ≠ vb.ownBlock) := fun e => by have := (HA.ownb.lt _ e.symm).2; omega
            obtain ⟨W1, hW1⟩ : ∃ W1, W1 = wr.alloc (.cells #[.string x.f0, .int .i64 x.f1, .int .i64 x.f2, .slice A3 x.f3.length c3] 39) := ⟨_, rfl⟩
            rw [← hW1] at HB hbx ⊢
            obtain ⟨b0, b1, b2, b3⟩ := hbx
            obtain ⟨l0, l1, l2, l3⟩ := cells4 HB.lst
            clear hW1 HA tb0 tb1 h0 h1 h2 h3
            have hgW : g < W1.heap.size := HB.glt
            have hwW : wr.heap.size < W1.heap.size := World.block_lt_of_cell? _ _ b2
            have ne1 := HB.ne g (Nat.le_refl _)
            have eg := World.new_ne W1 ⟨g, 3, none⟩ l3
            have eb := World.new_ne W1 ⟨wr.heap.size, 2, none⟩ b2
            have nb : some wr.heap.size ≠ vb.ownBlock := HNB.out
            have fz := blk_frozen HB.lst 3
            have fz2 := fun o => blk_frozen (HB.alloc o).lst 3
            go_region_law
              ((refine step_append_lies _ (by rfl) _ _ _ (by rfl) (g + 1) 101 j0 _ 1 16 Try.underlying79 hj hy0 hy1 hy2 rfl (by omega) vb k vals (by rfl) ((HB.ownb.alloc _).drew) ⟨W1.heap.size, 0, none⟩ 1 1 [.iface 113 (.agg #[.int .i64 x.f2])] (by rfl) (by rfl) (World.news_of_block (cs := #[.iface 113 (.agg #[.int .i64 x.f2])]) (t := 101) (fr := (0, 0)) (heap_alloc_new W1 _)) (by simp [Value.oneCell']) (by omega) (by unfold maxLen; omega) (by omega) (by simp; omega) (W1.heap.size + 1) (by simp) ?_; intro gg cap w1 hown1 hgrow hat hlt1; obtain ⟨hl3, HB3⟩ := (HB.alloc _).drew.appended hown1 hgrow HVv.out; have hc3 := (cells4 hl3).2.2.2; have hf3 := blk_frozen hl3 3; clear hown1 hgrow hat hlt1))
            all_goals
              go_wp2
              go_roundg (hs.length - (k + 1))
              case measure => omega
              case rel => exact ⟨k + 1, _, _, by omega, by go_num, HB3⟩
        · obtain rfl : k = hs.length := by omega
          have HD := HA.done hr0 hr1 hc0 hc1
          have HB := HA.bel
          clear HA
          go_wp2
          go_ret2
          exact ⟨g, rfl, HD, HB⟩

end Go.Proofs.Ytfbimhnlcmdcpaa.Pa
/- The contracts of Path, Least and Under: classes above classes. -/
namespace Go.Proofs.Ytfbimhnlcmdcpaa.Pa
open Go.RowKit Go.Proofs.YtfbimhnlcmdcpaaW.PrintWords Go.Proofs.YtfbimhnlcmdcpaaW.PrintLast Go.Proofs.YtfbimhnlcmdcpaaW.PrintMore
set_option linter.unusedVariables false
set_option linter.unusedSimpArgs false

/-! ### the sets' bits -/
theorem aboveL_stable (cs : List Cl) (i : Nat) : ∀ m, i < m → (aboveL cs m).getD i 0 = (aboveL cs (i + 1)).getD i 0
  | 0, h => by omega
  | m + 1, h => by
    rcases Nat.lt_or_ge i m with hi | hi
    · rw [← aboveL_stable cs i m hi, aboveL]
      have hl := aboveL_length cs m
      simp [List.getD_eq_getElem?_getD, List.getElem?_append_left (show i < (aboveL cs m).length by omega)]
    · obtain rfl : i = m := by omega
      rfl
def setOf (cs : List Cl) (i : Nat) : Nat := (aboveL cs cs.length).getD i 0
theorem setOf_eq (cs : List Cl) (hu : ∀ i, i < cs.length → -1 ≤ (cs.getD i zCl).f1 ∧ (cs.getD i zCl).f1 < (i : Int)) (i : Nat) (hi : i < cs.length) :
    setOf cs i = 2 ^ i ||| (if 0 ≤ (cs.getD i zCl).f1 then setOf cs (cs.getD i zCl).f1.toNat else 0) := by
  unfold setOf
  rw [aboveL_stable cs i cs.length hi]
  have hl := aboveL_length cs i
  have e : (aboveL cs (i + 1)).getD i 0 = 2 ^ i ||| (if 0 ≤ (cs.getD i zCl).f1 then (aboveL cs i).getD (cs.getD i zCl).f1.toNat 0 else 0) := by
    rw [aboveL]
    simp [List.getD_eq_getElem?_getD, List.getElem?_append_right, hl]
  rw [e]
  split
  · rename_i h0
    have := (hu i hi).2
    rw [aboveL_stable cs _ i (by omega), aboveL_stable cs _ cs.length (by omega)]
  · rfl
theorem setOf_lt (cs : List Cl) (h6 : cs.length ≤ 6) (i : Nat) : setOf cs i < 256 := by
  unfold setOf
  rw [List.getD_eq_getElem?_getD]
  cases hq : (aboveL cs cs.length)[i]? with
  | none => simp
  | some y => exact aboveL_lt cs cs.length (by omega) y (List.mem_of_getElem? hq)
theorem setOf_bit (cs : List Cl) (hu : ∀ i, i < cs.length → -1 ≤ (cs.getD i zCl).f1 ∧ (cs.getD i zCl).f1 < (i : Int)) (b : Nat) :
    ∀ (i : Nat), i < cs.length → ∀ k, i < k → (setOf cs i).testBit b = upT cs k (i : Int) (b : Int) := by
  intro i
  induction i using Nat.strongRecOn with
  | ind i ih =>
    intro hi k hk
    obtain ⟨k, rfl⟩ : ∃ q, k = q + 1 := ⟨k - 1, by omega⟩
    rw [setOf_eq cs hu i hi, upT, if_neg (show ¬ (i : Int) < 0 by omega), Int.toNat_natCast, Nat.testBit_or, Nat.testBit_two_pow]
    by_cases hib : i = b
    · rw [if_pos (show (i : Int) = (b : Int) by omega), decide_eq_true hib, Bool.true_or]
    · rw [if_neg (show ¬ (i : Int) = (b : Int) by omega), decide_eq_false hib, Bool.false_or]
      by_cases h0 : 0 ≤ (cs.getD i zCl).f1
      · rw [if_pos h0]
        have hu2 := (hu i hi).2
        have := ih (cs.getD i zCl).f1.toNat (by omega) (by omega) k (by omega)
        rw [this, show (((cs.getD i zCl).f1.toNat : Nat) : Int) = (cs.getD i zCl).f1 by omega]
      · rw [if_neg h0]
        cases k with
        | zero => simp [upT]
        | succ k => rw [upT, if_pos (show (cs.getD i zCl).f1 < 0 by omega)]; simp
theorem setOf_up (cs : List Cl) (hu : ∀ i, i < cs.length → -1 ≤ (cs.getD i zCl).f1 ∧ (cs.getD i zCl).f1 < (i : Int)) (i b : Nat) (hi : i < cs.length) :
    (setOf cs i).testBit b = isUp cs (i : Int) (b : Int) := setOf_bit cs hu b i hi _ hi
theorem aboveI_getD (cs : List Cl) (i : Nat) (hi : i < cs.length) : (aboveI cs cs.length).getD i 0 = (setOf cs i : Int) := by
  unfold aboveI setOf
  have hl := aboveL_length cs cs.length
  simp [List.getD_eq_getElem?_getD, List.getElem?_eq_getElem (show i < (aboveL cs cs.length).length by omega)]

theorem nats_length (n : Nat) : (nats n).length = n := by simp [nats]
theorem nats_succ (n : Nat) : nats (n + 1) = nats n ++ [(n : Int)] := by simp [nats, List.range_succ]
theorem filter_snoc {α : Type} (p : α → Bool) (l : List α) (x : α) : (l ++ [x]).filter p = l.filter p ++ (if p x = true then [x] else []) := by
  rw [List.filter_append]
  by_cases h : p x = true <;> simp [h]

theorem info3' : (Try.prog.info? 3).map (fun i => (i.zero, i.size, i.bytes)) = some (some (.int .i64 0), 1, 8) := by kernel_rfl

theorem filter_len (p : Int → Bool) (k : Nat) : ((nats k).filter p).length ≤ k := by
  have := List.length_filter_le p (nats k)
  rwa [nats_length] at this

set_option maxHeartbeats 1000000 in
set_option maxRecDepth 100000 in
theorem path_any (g : Nat) (cs : List Cl) (hs : List Hd) (c : Nat) (w : World) (hL : IsList w g cs hs) (hv : Valid cs hs) (hc : c < cs.length) :
    Calls Try.prog 61 #[.pointer (some ⟨g, 0, none⟩), .int .i64 c] w fun e w' => ∃ v, e = .returned v ∧ (Kd.int .i64).R 3 w' w.heap.size (fun _ => True) v (pathT cs c) ∧ Below w.heap.size w w' := by
  obtain ⟨m0, m1, -, -⟩ := hv.split
  have hu2 := Try.underlying26
  have hu3 := Try.underlying81
  obtain ⟨i0, hi, hz0, hz1, hz2⟩ := info_parts info3'
  have hS := setOf_lt cs m0 c
  have hU : ∀ b, Hid ((setOf cs c).testBit b = isUp cs (c : Int) (b : Int)) := fun b => setOf_up cs (fun i hi => hv.under i hi) c b hc
  obtain ⟨S, hSe⟩ : ∃ S, setOf cs c = S := ⟨_, rfl⟩
  have hAb := aboveI_getD cs c hc
  rw [hSe] at hS hAb
  simp only [hSe] at hU
  obtain ⟨A0, c0, A1, c1, A2, c2, A3, c3, hg, l0, l1, r0, r1, r2, r3⟩ := hL.ok
  obtain ⟨a2, e2, ha2⟩ := intAt r2 c hc
  cases e2
  rw [hAb] at ha2
  obtain ⟨g0, g1, g2, g3⟩ := cells4 hg
  clear hSe hAb hL
  go_enter Try.func61, Try.ntmps61
  go_wp2
  go_loopg [5, 13] cs.length (fun gk v5 v wr => ∃ k : Nat, k + gk = cs.length ∧ v = .int .i64 k ∧ Below w.heap.size w wr ∧ wr.ownsRow w.heap.size 3 1 v5 ((nats k).filter (fun o => isUp cs c o)).length (nums .i64 ((nats k).filter (fun o => isUp cs c o))))
  case atStart => exact ⟨0, by omega, rfl, Below.refl _ _, own_nil _ _ _ _⟩
  case round =>
    obtain ⟨k, hk, rfl, hb, ho⟩ := hrel
    by_cases hlt : k < cs.length
    · have q0 := pw_cell_below hb g0
      have q2 := pw_cell_below hb g2
      have qa := pw_cell_below hb ha2
      have HH := fun W => classes_has S k hS (by omega) W
      have HU := hU k
      have hfl := filter_len (fun o => isUp cs c o) k
      obtain ⟨F, hF⟩ : ∃ F, (nats k).filter (fun o => isUp cs c o) = F := ⟨_, rfl⟩
      have HF : Hid ((nats (k + 1)).filter (fun o => isUp cs c o) = F ++ (if S.testBit k = true then [(k : Int)] else [])) := by
        show _ = _
        rw [nats_succ, filter_snoc, hF, HU.out]
      rw [hF] at ho hfl
      clear hF HU
      obtain ⟨b, hbq⟩ : ∃ b, S.testBit k = b := ⟨_, rfl⟩
      rw [hbq] at HF
      simp only [hbq] at HH
      clear hbq
      cases b with
      | true =>
        have HG : Hid ((nats (k + 1)).filter (fun o => isUp cs c o) = F ++ [(k : Int)]) := by show _ = _; rw [HF.out]; rfl
        clear HF
        go_wp2_with (first
          | (go_at_call 44; (with_reducible refine (HH _).mono ?_); rintro e w2 ⟨rfl, rfl⟩)
          | (at_builtin; refine wpList_append_own _ rfl _ _ 22 rfl w.heap.size 3 i0 (.int .i64 0) 1 8 Try.underlying22 hi hz0 hz1 hz2 rfl (by decide) _ _ _ rfl (ho.alloc _) ⟨wr.heap.size, 0, none⟩ 1 1 [.int .i64 (k : Int)] rfl rfl (cell_one_new _ _ _) (by simp [Value.oneCell']) (by unfold maxLen; omega) (by omega) (by have := hb.size; simp; omega) ?_; intro v' w3 hown3 hgrow3 _; have HB3 := Below.grown (hb.alloc hb.size _) hgrow3 (by have := hb.size; simp; omega) (fun j hj => (ho.lt j hj).1); have HO := Lib.hid hown3; clear hown3 hgrow3))
        go_roundg (cs.length - (k + 1))
        case measure => omega
        case rel => exact ⟨k + 1, by omega, by go_num, HB3, by rw [HG.out, nums_append, List.length_append]; exact HO.out⟩
      | false =>
        have HG : Hid ((nats (k + 1)).filter (fun o => isUp cs c o) = F) := by show _ = _; rw [HF.out]; exact List.append_nil _
        clear HF
        go_wp2_with (go_at_call 44; (with_reducible refine (HH _).mono ?_); rintro e w2 ⟨rfl, rfl⟩)
        go_roundg (cs.length - (k + 1))
        case measure => omega
        case rel => exact ⟨k + 1, by omega, by go_num, hb, by rw [HG.out]; exact ho⟩
    · obtain rfl : k = cs.length := by omega
      have HR : Hid ((Kd.int .i64).R 3 wr w.heap.size (fun _ => True) _ (pathT cs c)) := Kd.R_of_own ho (fun _ _ => trivial)
      clear ho
      go_wp2
      go_ret
      exact ⟨_, rfl, HR.out, hb⟩

theorem betw_inN (c : Int) (n : Nat) : betw c 0 ((n : Int) - 1) = inN c n := by
  unfold betw inN
  by_cases h : c < (n : Int)
  · have : c ≤ (n : Int) - 1 := by omega
    simp [h, this]
  · have : ¬ c ≤ (n : Int) - 1 := by omega
    simp [h, this]
theorem inN_nat {c : Int} {n : Nat} (h : inN c n = true) : ∃ k : Nat, c = k ∧ k < n := by
  unfold inN at h
  simp only [Bool.and_eq_true, decide_eq_true_eq] at h
  exact ⟨c.toNat, by omega, by omega⟩

def leastD (cs : List Cl) (a b : Int) (k : Nat) : Int := (((nats k).reverse).find? (fun c => isUp cs a c && isUp cs b c)).getD (-1)
theorem leastD_zero (cs : List Cl) (a b : Int) : leastD cs a b 0 = -1 := rfl
theorem leastD_succ (cs : List Cl) (a b : Int) (k : Nat) : leastD cs a b (k + 1) = if (isUp cs a k && isUp cs b k) = true then (k : Int) else leastD cs a b k := by
  unfold leastD
  rw [nats_succ, List.reverse_append]
  simp only [List.reverse_cons, List.reverse_nil, List.nil_append, List.cons_append, List.find?_cons]
  split
  · rename_i h; rw [h]; rfl
  · rename_i h; rw [h]; simp

theorem quiet_mine {P : Program} {f : FuncId} {args : Array Value} {w : World} {n : Nat} {v : Value}
    (h : Calls P f args (w.drewN n) fun e w' => e = .returned v ∧ w.drewN n = w') : Calls P f args (w.drewN n) fun e w'' => e = .returned v ∧ ∃ m, w'' = w.drewN m :=
  h.mono fun _ _ ⟨he, hm⟩ => ⟨he, n, hm.symm⟩

theorem setBoth (S T k : Nat) : (S &&& T).testBit k = (S.testBit k && T.testBit k) := Nat.testBit_and S T k

set_option maxHeartbeats 2000000 in
set_option maxRecDepth 100000 in
theorem trade_Least.calls (A0_0 : Option Addr) (c0_0 : Nat) (l0_0 : List (S51)) (A0_1 : Option Addr) (c0_1 : Nat) (l0_1 : List (S39)) (a1 : Int) (a2 : Int) (r1 : Int) (r2 : Int) (w : World) (hr0_0 : Kd.C k51 w A0_0 l0_0.length l0_0) (hc0_0 : l0_0.length ≤ c0_0) (hr0_1 : Kd.C k39 w A0_1 l0_1.length l0_1) (hc0_1 : l0_1.length ≤ c0_1) (h : trade_Least.f l0_0 l0_1 a1 a2 = some (r1, r2)) :
    Calls Try.prog 15 #[.agg #[.slice A0_0 l0_0.length c0_0, .slice A0_1 l0_1.length c0_1], .int .i64 a1, .int .i64 a2] w fun e w' => e = .returned (.tuple #[.int .i64 r1, .int .i64 r2]) ∧ Below w.heap.size w w' := by
  have hu2 := Try.underlying26
  have hu3 := Try.underlying81
  have hB0 := (Below.refl w.heap.size w).alloc (Nat.le_refl _) (.cells #[.slice A0_0 l0_0.length c0_0, .slice A0_1 l0_1.length c0_1] 26)
  have h := Option.some.inj h
  by_cases hz : checkT l0_0 l0_1 = 0
  · have hv : Valid l0_0 l0_1 := ⟨hz⟩
    obtain ⟨m0, m1, -, -⟩ := hv.split
    have HG := fun W (hW : Below w.heap.size w W) => begin_good A0_0 A0_1 c0_0 c0_1 l0_0 l0_1 W (Kd.C_below hr0_0 hW) (Kd.C_below hr0_1 hW) hc0_0 hc0_1 hv
    have HT1 := fun W => between_any a1 0 ((l0_0.length : Int) - 1) W
    have HT2 := fun W => between_any a2 0 ((l0_0.length : Int) - 1) W
    simp only [betw_inN] at HT1 HT2
    rw [if_neg (by omega)] at h
    by_cases hq1 : inN a1 l0_0.length = true
    · by_cases hq2 : inN a2 l0_0.length = true
      · rw [if_neg (by rw [hq1, hq2]; simp)] at h
        simp only [Prod.mk.injEq] at h
        obtain ⟨rfl, rfl⟩ := h
        obtain ⟨a, rfl, ha⟩ := inN_nat hq1
        obtain ⟨b, rfl, hb⟩ := inN_nat hq2
        simp only [hq1] at HT1
        simp only [hq2] at HT2
        have hu : ∀ i, i < l0_0.length → -1 ≤ (l0_0.getD i zCl).f1 ∧ (l0_0.getD i zCl).f1 < (i : Int) := fun i hi => hv.under i hi
        have HSa : ∀ k : Nat, Hid ((setOf l0_0 a).testBit k = isUp l0_0 a k) := fun k => setOf_up l0_0 hu a k ha
        have HSb : ∀ k : Nat, Hid ((setOf l0_0 b).testBit k = isUp l0_0 b k) := fun k => setOf_up l0_0 hu b k hb
        have hla := setOf_lt l0_0 m0 a
        have hlb := setOf_lt l0_0 m0 b
        have HIa := Lib.hid (aboveI_getD l0_0 a ha)
        have HIb := Lib.hid (aboveI_getD l0_0 b hb)
        obtain ⟨S, hS⟩ : ∃ S, setOf l0_0 a = S := ⟨_, rfl⟩
        obtain ⟨T, hT⟩ : ∃ T, setOf l0_0 b = T := ⟨_, rfl⟩
        rw [hS] at HIa hla
        rw [hT] at HIb hlb
        simp only [hS] at HSa
        simp only [hT] at HSb
        have HD : Hid (leastT l0_0 a b = leastD l0_0 a b l0_0.length) := rfl
        obtain ⟨R, hR⟩ : ∃ R, leastT l0_0 a b = R := ⟨_, rfl⟩
        rw [hR] at HD ⊢
        clear hz hq1 hq2 hR hS hT hu
        go_enter Try.func15, Try.ntmps15
        go_wp2_with (first
          | (go_at_call 42; (with_reducible refine (HG _ hB0).mono ?_); rintro e w1 ⟨g, rfl, hL1, hb1⟩; obtain ⟨HB1, hTb⟩ := one_box hb1; obtain ⟨t0, t1⟩ := cells2 hTb; clear hb1)
          | (go_at_call 43; (with_reducible refine (HT1 _).mono ?_); rintro e w2 ⟨rfl, rfl⟩)
          | (go_at_call 43; (with_reducible refine (HT2 _).mono ?_); rintro e w2 ⟨rfl, rfl⟩))
        obtain ⟨A0, c0, A1, c1, A2, c2, A3, c3, hg, l0, l1, r0, r1, r2, r3⟩ := hL1.ok
        obtain ⟨aa, ea, hca⟩ := intAt r2 a ha
        obtain ⟨ab, eb, hcb⟩ := intAt r2 b hb
        rw [HIa.out] at hca
        rw [HIb.out] at hcb
        cases ea
        cases eb
        obtain ⟨g0, g1, g2, g3⟩ := cells4 hg
        clear hL1 hg r0 r1 r2 r3
        have HBA := Lib.hid (bitsAnd S T hla hlb)
        have hlab : S &&& T < 256 := Nat.and_lt_two_pow (n := 8) S hlb
        have hba : Go.bits .and .u8 (S : Int) (T : Int) = ((S &&& T : Nat) : Int) := HBA.out
        have HSB : ∀ k : Nat, Hid ((S &&& T).testBit k = (S.testBit k && T.testBit k)) := fun k => setBoth S T k
        obtain ⟨N, hN⟩ : ∃ N, S &&& T = N := ⟨_, rfl⟩
        rw [hN] at hba hlab
        simp only [hN] at HSB
        clear hN HBA
        go_loopg [10] l0_0.length (fun gk v wr => gk ≤ l0_0.length ∧ v = .int .i64 ((gk : Int) - 1) ∧ Below w1.heap.size w1 wr ∧ Hid (leastD l0_0 a b gk = R))
        case atStart => exact ⟨Nat.le_refl _, rfl, Below.refl _ _, by show _ = _; rw [HD.out]⟩
        case round =>
          obtain ⟨hk, rfl, hbw, HK⟩ := hrel
          have HBw := below_then HB1 HB1.size hbw
          replace hca := pw_cell_below hbw hca
          replace hcb := pw_cell_below hbw hcb
          replace g2 := pw_cell_below hbw g2
          cases gk with
          | zero =>
            rw [leastD_zero] at HK
            have hm1 : ((0 : Nat) : Int) - 1 = -1 := rfl
            rw [hm1]
            go_wp2
            go_ret2
            exact ⟨by rw [← HK.out]; rfl, HBw⟩
          | succ k =>
            have hk1 : ((k + 1 : Nat) : Int) - 1 = (k : Int) := by omega
            rw [hk1]
            have HU : Hid (leastD l0_0 a b (k + 1) = if N.testBit k = true then (k : Int) else leastD l0_0 a b k) := by
              show _ = _
              rw [leastD_succ, (HSB k).out, (HSa k).out, (HSb k).out]
            have HH := fun W => classes_has N k hlab (by omega) W
            obtain ⟨bt, hbt⟩ : ∃ b, N.testBit k = b := ⟨_, rfl⟩
            rw [hbt] at HU
            simp only [hbt] at HH
            clear hbt hk1
            cases bt with
            | true =>
              go_wp2
              go_quiet ((go_at_call 44; exact quiet_mine (HH _)))
              go_wp2
              go_ret2
              exact ⟨by rw [← HK.out, HU.out]; rfl, pw_below_drewN HBw _⟩
            | false =>
              go_wp2
              go_quiet ((go_at_call 44; exact quiet_mine (HH _)))
              go_wp2
              go_roundg k
              case measure => omega
              case rel => exact ⟨by omega, rfl, pw_below_drewN hbw _, by show _ = _; rw [← HK.out, HU.out]; rfl⟩
      · have hq' : inN a2 l0_0.length = false := by simpa using hq2
        rw [if_pos (by rw [hq1, hq']; rfl)] at h
        simp only [Prod.mk.injEq] at h
        obtain ⟨rfl, rfl⟩ := h
        simp only [hq1] at HT1
        simp only [hq'] at HT2
        clear hz hq1 hq2 hq'
        go_enter Try.func15, Try.ntmps15
        go_wp2_with (first
          | (go_at_call 42; (with_reducible refine (HG _ hB0).mono ?_); rintro e w1 ⟨g, rfl, hL1, hb1⟩; obtain ⟨HB1, hTb⟩ := one_box hb1; obtain ⟨t0, t1⟩ := cells2 hTb; clear hb1)
          | (go_at_call 43; (with_reducible refine (HT1 _).mono ?_); rintro e w2 ⟨rfl, rfl⟩)
          | (go_at_call 43; (with_reducible refine (HT2 _).mono ?_); rintro e w2 ⟨rfl, rfl⟩))
        go_ret2
        exact ⟨rfl, HB1⟩
    · have hq' : inN a1 l0_0.length = false := by simpa using hq1
      rw [if_pos (by rw [hq']; rfl)] at h
      simp only [Prod.mk.injEq] at h
      obtain ⟨rfl, rfl⟩ := h
      simp only [hq'] at HT1
      clear hz hq1 hq' HT2
      go_enter Try.func15, Try.ntmps15
      go_wp2_with (first
        | (go_at_call 42; (with_reducible refine (HG _ hB0).mono ?_); rintro e w1 ⟨g, rfl, hL1, hb1⟩; obtain ⟨HB1, hTb⟩ := one_box hb1; obtain ⟨t0, t1⟩ := cells2 hTb; clear hb1)
        | (go_at_call 43; (with_reducible refine (HT1 _).mono ?_); rintro e w2 ⟨rfl, rfl⟩))
      go_ret2
      exact ⟨rfl, HB1⟩
  · rw [if_pos hz] at h
    simp only [Prod.mk.injEq] at h
    obtain ⟨rfl, rfl⟩ := h
    have HG := fun W (hW : Below w.heap.size w W) => begin_bad A0_0 A0_1 c0_0 c0_1 l0_0 l0_1 W (Kd.C_below hr0_0 hW) (Kd.C_below hr0_1 hW) hc0_0 hc0_1 hz
    obtain ⟨z, hze⟩ : ∃ z, checkT l0_0 l0_1 = z := ⟨_, rfl⟩
    simp only [hze] at HG hz ⊢
    have hz1 : (z != 0) = true := bne_iff_ne.mpr hz
    clear hz hze
    go_enter Try.func15, Try.ntmps15
    go_wp2_with (go_at_call 42; (with_reducible refine (HG _ hB0).mono ?_); rintro e w1 ⟨rfl, hb1⟩; obtain ⟨HB1, hT1⟩ := one_box hb1; clear hb1)
    go_ret2
    exact ⟨rfl, HB1⟩
end Go.Proofs.Ytfbimhnlcmdcpaa.Pa
/- What valid headings are like; headings as kinds; the contract of Under. -/
namespace Go.Proofs.Ytfbimhnlcmdcpaa.Pa
open Go.RowKit Go.Proofs.YtfbimhnlcmdcpaaW.PrintWords Go.Proofs.YtfbimhnlcmdcpaaW.PrintLast Go.Proofs.YtfbimhnlcmdcpaaW.PrintMore
set_option linter.unusedVariables false
set_option linter.unusedSimpArgs false

theorem alsoErr_zero {n i : Nat} {l : List Int} : ∀ {m k : Nat}, alsoErr n i l m k = 0 → ∀ j, k ≤ j → j < k + m → (0 ≤ l.getD j 0 ∧ l.getD j 0 < (n : Int)) ∧ l.getD j 0 ≠ (i : Int) ∧ (0 < j → l.getD (j - 1) 0 < l.getD j 0)
  | 0, k, _, j, h1, h2 => by omega
  | m + 1, k, h, j, h1, h2 => by
    unfold alsoErr at h
    split at h
    · omega
    · rename_i a
      split at h
      · omega
      · rename_i b
        split at h
        · omega
        · rename_i c
          by_cases hj : j = k
          · subst hj
            exact ⟨by omega, b, fun h0 => by omega⟩
          · exact alsoErr_zero h j (by omega) (by omega)
/-- what is known of heading i of valid trades -/
structure GoodHead (cs : List Cl) (hs : List Hd) (i : Nat) (x : Hd) : Prop where
  word : wordOk x.f0 = true
  cl : -1 ≤ x.f1 ∧ x.f1 < (cs.length : Int)
  see : -1 ≤ x.f2 ∧ x.f2 < (hs.length : Int)
  self : x.f2 ≠ (i : Int)
  also : ∀ j, j < x.f3.length → (0 ≤ x.f3.getD j 0 ∧ x.f3.getD j 0 < (hs.length : Int)) ∧ x.f3.getD j 0 ≠ (i : Int) ∧ (0 < j → x.f3.getD (j - 1) 0 < x.f3.getD j 0)
  ptr : x.f2 ≠ -1 → x.f1 = -1 ∧ x.f3 = []
  art : x.f2 = -1 → x.f1 = -1 → 0 < x.f3.length
  fresh : (hs.take i).any (fun y => sEq y.f0 x.f0) = false
  up : 0 < i → sLt x.f0 (hs.getD (i - 1) zHd).f0 = false
theorem Valid.head {cs : List Cl} {hs : List Hd} (h : Valid cs hs) (i : Nat) (hi : i < hs.length) : GoodHead cs hs i (hs.getD i zHd) := by
  have h := h.split.2.2.2 i hi
  unfold headErr at h
  split at h
  · omega
  rename_i a1
  split at h
  · omega
  rename_i a2
  split at h
  · omega
  rename_i a3
  split at h
  · omega
  rename_i a4
  split at h
  · omega
  rename_i a5
  split at h
  · omega
  rename_i a6
  split at h
  · rename_i a7; exact absurd h a7
  rename_i a7
  have h8 : ¬ (((hs.getD i zHd).f2 ≠ -1 ∧ ((hs.getD i zHd).f1 ≠ -1 ∨ 0 < (hs.getD i zHd).f3.length)) ∨ ((hs.getD i zHd).f2 = -1 ∧ (hs.getD i zHd).f1 = -1 ∧ (hs.getD i zHd).f3.length = 0)) := by
    intro hc
    unfold kindErr at h
    rw [if_pos hc] at h
    omega
  refine ⟨by simpa using a1, by omega, by omega, a6, fun j hj => alsoErr_zero (by omega : alsoErr hs.length i (hs.getD i zHd).f3 (hs.getD i zHd).f3.length 0 = 0) j (by omega) (by omega), fun hp => ⟨by omega, List.eq_nil_of_length_eq_zero (by omega)⟩, by omega, by simpa using a2, fun h0 => ?_⟩
  cases hq : sLt (hs.getD i zHd).f0 (hs.getD (i - 1) zHd).f0
  · rfl
  · exact absurd ⟨h0, hq⟩ a3

theorem kindAt {w : World} {A : Option Addr} {n : Nat} {hs : List Hd} (h : kKind.C w A n hs) (k : Nat) (hk : k < n) :
    ∃ ad v, A = some ad ∧ w.cell? (ad.add k) = some v ∧ KindVal w (hs.getD k zHd) v := by
  obtain ⟨ad, c, e, _, ⟨v, rfl, hv⟩, hc0⟩ := Kd.C_get h zHd (k : Int) (by omega) (by omega)
  have hc := hc0 0 v rfl
  have : ((k : Int).toNat * kKind.sz + 0) = k := by show (k : Int).toNat * 1 + 0 = k; omega
  rw [this] at hc
  rw [Int.toNat_natCast] at hv
  exact ⟨ad, v, e, hc, hv⟩

/-! ### type assertions -/
theorem ta_art (v : Value) (W : World) : (Instr.typeAssert (.iface 103 v) 101 103 true).run Try.prog W = .ok (.tuple #[v, .bool true]) W := by kernel_rfl
theorem ta_art_ptr (v : Value) (W : World) : (Instr.typeAssert (.iface 113 v) 101 103 true).run Try.prog W = .ok (.tuple #[.agg #[.int .i64 0, .slice none 0 0], .bool false]) W := by kernel_rfl
theorem ta_art_idx (v : Value) (W : World) : (Instr.typeAssert (.iface 115 v) 101 103 true).run Try.prog W = .ok (.tuple #[.agg #[.int .i64 0, .slice none 0 0], .bool false]) W := by kernel_rfl
theorem ta_ptr (v : Value) (W : World) : (Instr.typeAssert (.iface 113 v) 101 113 true).run Try.prog W = .ok (.tuple #[v, .bool true]) W := by kernel_rfl
theorem ta_ptr_art (v : Value) (W : World) : (Instr.typeAssert (.iface 103 v) 101 113 true).run Try.prog W = .ok (.tuple #[.agg #[.int .i64 0], .bool false]) W := by kernel_rfl
theorem ta_ptr_idx (v : Value) (W : World) : (Instr.typeAssert (.iface 115 v) 101 113 true).run Try.prog W = .ok (.tuple #[.agg #[.int .i64 0], .bool false]) W := by kernel_rfl

end Go.Proofs.Ytfbimhnlcmdcpaa.Pa
/- The contracts of ask, isTrade, follow and Follow. -/
namespace Go.Proofs.Ytfbimhnlcmdcpaa.Pa
open Go.RowKit Go.Proofs.YtfbimhnlcmdcpaaW.PrintWords Go.Proofs.YtfbimhnlcmdcpaaW.PrintLast Go.Proofs.YtfbimhnlcmdcpaaW.PrintMore
set_option linter.unusedVariables false
set_option linter.unusedSimpArgs false

def askT (cs : List Cl) (hs : List Hd) (h : Int) : Int := if checkT cs hs ≠ 0 then checkT cs hs else if inN h hs.length = false then 3 else 0
theorem askT_zero {cs : List Cl} {hs : List Hd} {h : Int} (ha : askT cs hs h = 0) : Valid cs hs ∧ ∃ k : Nat, h = k ∧ k < hs.length := by
  unfold askT at ha
  split at ha
  · rename_i h1; exact absurd ha h1
  · rename_i h1
    split at ha
    · omega
    · rename_i h2
      exact ⟨⟨by omega⟩, inN_nat (by simpa using h2)⟩

set_option maxHeartbeats 1000000 in
set_option maxRecDepth 100000 in
theorem ask_bad (A0 A1 : Option Addr) (c0 c1 : Nat) (cs : List Cl) (hs : List Hd) (q : Nat) (h : Int) (w : World) (hr0 : Kd.C k51 w A0 cs.length cs) (hr1 : Kd.C k39 w A1 hs.length hs) (hc0 : cs.length ≤ c0) (hc1 : hs.length ≤ c1) (hq : w.cell? ⟨q, 0, none⟩ = some (.int .i64 h)) (hbad : askT cs hs h ≠ 0) :
    Calls Try.prog 51 #[.agg #[.slice A0 cs.length c0, .slice A1 hs.length c1], .slice (some ⟨q, 0, none⟩) 1 1] w fun e w' => e = .returned (.tuple #[.pointer none, .int .i64 (askT cs hs h)]) ∧ Below w.heap.size w w' := by
  have hu2 := Try.underlying26
  have hB0 := (Below.refl w.heap.size w).alloc (Nat.le_refl _) (.cells #[.slice A0 cs.length c0, .slice A1 hs.length c1] 26)
  have hqb := pw_cell_below hB0 hq
  by_cases hz : checkT cs hs = 0
  · have hv : Valid cs hs := ⟨hz⟩
    obtain ⟨m0, m1, -, -⟩ := hv.split
    have HG := fun W (hW : Below w.heap.size w W) => begin_good A0 A1 c0 c1 cs hs W (Kd.C_below hr0 hW) (Kd.C_below hr1 hW) hc0 hc1 hv
    have HT := fun W => between_any h 0 ((hs.length : Int) - 1) W
    simp only [betw_inN] at HT
    have hn : inN h hs.length = false := by
      cases hc : inN h hs.length
      · rfl
      · exact absurd (by unfold askT; rw [if_neg (by omega), hc]; rfl) hbad
    have HE : Hid (askT cs hs h = 3) := by show _ = _; unfold askT; rw [if_neg (by omega), if_pos hn]
    simp only [hn] at HT
    clear hz hn hbad
    go_enter Try.func51, Try.ntmps51
    go_wp2_with (go_at_call 42; (with_reducible refine (HG _ hB0).mono ?_); rintro e w1 ⟨g, rfl, hL1, hb1⟩; have hq1 := pw_cell_below hb1 hqb; obtain ⟨HB1, hTb⟩ := one_box hb1; obtain ⟨t0, t1⟩ := cells2 hTb; clear hb1 hL1)
    refine wp_loop_rounds 1 ?_
    rw [rounds_succ]
    go_wp2_with (go_at_call 43; (with_reducible refine (HT _).mono ?_); rintro e w2 ⟨rfl, rfl⟩)
    go_ret2
    exact ⟨by rw [HE.out]; rfl, HB1⟩
  · have HG := fun W (hW : Below w.heap.size w W) => begin_bad A0 A1 c0 c1 cs hs W (Kd.C_below hr0 hW) (Kd.C_below hr1 hW) hc0 hc1 hz
    have HE : Hid (askT cs hs h = checkT cs hs) := by show _ = _; unfold askT; rw [if_pos hz]
    obtain ⟨z, hze⟩ : ∃ z, checkT cs hs = z := ⟨_, rfl⟩
    simp only [hze] at HG hz HE
    have hz1 : (z != 0) = true := bne_iff_ne.mpr hz
    clear hz hze hbad
    go_enter Try.func51, Try.ntmps51
    go_wp2_with (go_at_call 42; (with_reducible refine (HG _ hB0).mono ?_); rintro e w1 ⟨rfl, hb1⟩; obtain ⟨HB1, hT1⟩ := one_box hb1; clear hb1)
    go_ret2
    exact ⟨by rw [HE.out]; rfl, HB1⟩

set_option maxHeartbeats 1000000 in
set_option maxRecDepth 100000 in
theorem ask_good (A0 A1 : Option Addr) (c0 c1 : Nat) (cs : List Cl) (hs : List Hd) (q : Nat) (h : Nat) (w : World) (hr0 : Kd.C k51 w A0 cs.length cs) (hr1 : Kd.C k39 w A1 hs.length hs) (hc0 : cs.length ≤ c0) (hc1 : hs.length ≤ c1) (hq : w.cell? ⟨q, 0, none⟩ = some (.int .i64 (h : Int))) (hv : Valid cs hs) (hh : h < hs.length) :
    Calls Try.prog 51 #[.agg #[.slice A0 cs.length c0, .slice A1 hs.length c1], .slice (some ⟨q, 0, none⟩) 1 1] w fun e w' => ∃ g, e = .returned (.tuple #[.pointer (some ⟨g, 0, none⟩), .int .i64 0]) ∧ IsList w' g cs hs ∧ Below w.heap.size w w' := by
  have hu2 := Try.underlying26
  have hB0 := (Below.refl w.heap.size w).alloc (Nat.le_refl _) (.cells #[.slice A0 cs.length c0, .slice A1 hs.length c1] 26)
  have hqb := pw_cell_below hB0 hq
  obtain ⟨m0, m1, -, -⟩ := hv.split
  have HG := fun W (hW : Below w.heap.size w W) => begin_good A0 A1 c0 c1 cs hs W (Kd.C_below hr0 hW) (Kd.C_below hr1 hW) hc0 hc1 hv
  have HT := fun W => between_any h 0 ((hs.length : Int) - 1) W
  have hn : betw (h : Int) 0 ((hs.length : Int) - 1) = true := betw_yes (by omega)
  simp only [hn] at HT
  clear hn
  go_enter Try.func51, Try.ntmps51
  go_wp2_with (go_at_call 42; (with_reducible refine (HG _ hB0).mono ?_); rintro e w1 ⟨g, rfl, hL1, hb1⟩; have hq1 := pw_cell_below hb1 hqb; obtain ⟨HB1, hTb⟩ := one_box hb1; obtain ⟨t0, t1⟩ := cells2 hTb; clear hb1)
  refine wp_loop_rounds 2 ?_
  rw [rounds_succ]
  go_wp2_with (go_at_call 43; (with_reducible refine (HT _).mono ?_); rintro e w2 ⟨rfl, rfl⟩)
  rw [rounds_succ]
  go_wp2
  go_ret2
  exact ⟨g, rfl, hL1, HB1⟩

/-- is heading k a trade -/
def artB (x : Hd) : Bool := decide (x.f2 = -1) && decide (x.f1 ≠ -1)

set_option maxHeartbeats 1000000 in
set_option maxRecDepth 100000 in
theorem isTrade_any (g : Nat) (cs : List Cl) (hs : List Hd) (k : Nat) (w : World) (hL : IsList w g cs hs) (hk : k < hs.length) :
    Calls Try.prog 63 #[.pointer (some ⟨g, 0, none⟩), .int .i64 k] w fun e w' => e = .returned (.bool (artB (hs.getD k zHd))) ∧ Below w.heap.size w w' := by
  have hu2 := Try.underlying26
  have hu3 := Try.underlying81
  have hu5 := Try.underlying103
  obtain ⟨A0, c0, A1, c1, A2, c2, A3, c3, hg, l0, l1, r0, r1, r2, r3⟩ := hL.ok
  obtain ⟨g0, g1, g2, g3⟩ := cells4 hg
  obtain ⟨ad, v, e, hcv, hkv⟩ := kindAt r3 k hk
  cases e
  obtain ⟨x, hx⟩ : ∃ x, hs.getD k zHd = x := ⟨_, rfl⟩
  rw [hx] at hkv ⊢
  clear hx hL
  have hB := fun o => (Below.refl w.heap.size w).alloc (Nat.le_refl _) o
  rcases hkv with ⟨k1, rfl⟩ | ⟨k1, k2, B3, d3, rfl, k3, k4⟩ | ⟨k1, k2, B3, d3, rfl, k3, k4⟩
  · have hta := ta_art_ptr (.agg #[.int .i64 x.f2])
    have HR : Hid (artB x = false) := by show _ = _; unfold artB; rw [decide_eq_false k1]; rfl
    clear k1
    go_enter Try.func63, Try.ntmps63
    go_wp2
    go_ret
    exact ⟨by rw [HR.out]; rfl, hB _⟩
  · have hta := ta_art (.agg #[.int .i64 x.f1, .slice B3 x.f3.length d3])
    have HR : Hid (artB x = true) := by show _ = _; unfold artB; rw [decide_eq_true k1, decide_eq_true k2]; rfl
    clear k1 k2
    go_enter Try.func63, Try.ntmps63
    go_wp2
    go_ret
    exact ⟨by rw [HR.out]; rfl, hB _⟩
  · have hta := ta_art_idx (.agg #[.slice B3 x.f3.length d3])
    have HR : Hid (artB x = false) := by show _ = _; unfold artB; rw [k2, decide_eq_true k1]; rfl
    clear k1 k2
    go_enter Try.func63, Try.ntmps63
    go_wp2
    go_ret
    exact ⟨by rw [HR.out]; rfl, hB _⟩

theorem followGo_zero (hs : List Hd) (h s : Int) : followGo hs 0 h s = none := rfl
theorem followGo_ptr {hs : List Hd} {k : Nat} {h : Nat} {s : Int} {x : Hd} (hx : hs.getD h zHd = x) (hp : x.f2 ≠ -1) : followGo hs (k + 1) (h : Int) s = followGo hs k x.f2 (s + 1) := by
  show (if (hs.getD (h : Int).toNat zHd).f2 ≠ -1 then _ else _) = _
  rw [Int.toNat_natCast, hx, if_pos hp]
theorem followGo_end {hs : List Hd} {k : Nat} {h : Nat} {s : Int} {x : Hd} (hx : hs.getD h zHd = x) (hp : x.f2 = -1) : followGo hs (k + 1) (h : Int) s = some ((h : Int), s) := by
  show (if (hs.getD (h : Int).toNat zHd).f2 ≠ -1 then _ else _) = _
  rw [Int.toNat_natCast, hx, if_neg (by omega)]

def followV (r : Option (Int × Int)) : Value := match r with
  | none => .tuple #[.int .i64 0, .int .i64 0, .bool false]
  | some (a, b) => .tuple #[.int .i64 a, .int .i64 b, .bool true]

set_option maxHeartbeats 2000000 in
set_option maxRecDepth 100000 in
theorem follow_any (g : Nat) (cs : List Cl) (hs : List Hd) (h : Nat) (w : World) (hL : IsList w g cs hs) (hv : Valid cs hs) (hh : h < hs.length) :
    Calls Try.prog 52 #[.pointer (some ⟨g, 0, none⟩), .int .i64 h] w fun e w' => e = .returned (followV (followT hs h)) ∧ Below w.heap.size w w' := by
  have hu3 := Try.underlying81
  have hu5 := Try.underlying113
  obtain ⟨m0, m1, -, -⟩ := hv.split
  obtain ⟨A0, c0, A1, c1, A2, c2, A3, c3, hg, l0, l1, r0, r1, r2, r3⟩ := hL.ok
  obtain ⟨g0, g1, g2, g3⟩ := cells4 hg
  have HR : Hid (followT hs h = followGo hs (hs.length + 1) h 0) := rfl
  obtain ⟨R, hR⟩ : ∃ R, followT hs h = R := ⟨_, rfl⟩
  rw [hR] at HR ⊢
  clear hL hR
  go_enter Try.func52, Try.ntmps52
  go_wp2
  go_loopg [1, 16] (hs.length + 1) (fun gk v1 v16 wr => ∃ (k s : Nat), s + gk = hs.length + 1 ∧ v1 = .int .i64 k ∧ v16 = .int .i64 s ∧ k < hs.length ∧ Below w.heap.size w wr ∧ Hid (followGo hs gk k s = R))
  case atStart => exact ⟨h, 0, by omega, rfl, rfl, hh, Below.refl _ _, by show _ = _; exact HR.out.symm⟩
  case round =>
    obtain ⟨k, s, hs1, rfl, rfl, hk, hb, HK⟩ := hrel
    cases gk with
    | zero =>
      have HR2 : Hid (followV R = .tuple #[.int .i64 0, .int .i64 0, .bool false]) := by show _ = _; rw [← HK.out]; rfl
      clear HK
      obtain rfl : s = hs.length + 1 := by omega
      go_wp2
      go_ret3
      exact ⟨by rw [HR2.out]; rfl, hb⟩
    | succ gk =>
      have q3 := pw_cell_below hb g3
      have hgd := hv.head k hk
      obtain ⟨ad, v, e, hcv, hkv⟩ := kindAt (Kd.C_below r3 hb) k hk
      cases e
      obtain ⟨x, hx⟩ : ∃ x, hs.getD k zHd = x := ⟨_, rfl⟩
      rw [hx] at hkv hgd
      have hsn : (s : Int) < hs.length + 1 := by omega
      rcases hkv with ⟨k1, rfl⟩ | ⟨k1, k2, B3, d3, rfl, k3, k4⟩ | ⟨k1, k2, B3, d3, rfl, k3, k4⟩
      · have hta := ta_ptr (.agg #[.int .i64 x.f2])
        rw [followGo_ptr hx k1] at HK
        obtain ⟨p, hp⟩ : ∃ p : Nat, x.f2 = p := ⟨x.f2.toNat, by have := hgd.see; omega⟩
        have hpn : p < hs.length := by have := hgd.see; omega
        rw [hp] at hcv hta HK
        clear hx hgd k1 hp
        go_wp2
        go_roundg gk
        case measure => omega
        case rel => exact ⟨p, s + 1, by omega, by go_num, by go_num, hpn, hb.alloc hb.size _, HK⟩
      · have hta := ta_ptr_art (.agg #[.int .i64 x.f1, .slice B3 x.f3.length d3])
        have HR2 : Hid (followV R = .tuple #[.int .i64 k, .int .i64 s, .bool true]) := by show _ = _; rw [← HK.out, followGo_end hx k1]; rfl
        clear hx HK hgd k1 k2
        go_wp2
        go_ret3
        exact ⟨by rw [HR2.out]; rfl, hb⟩
      · have hta := ta_ptr_idx (.agg #[.slice B3 x.f3.length d3])
        have HR2 : Hid (followV R = .tuple #[.int .i64 k, .int .i64 s, .bool true]) := by show _ = _; rw [← HK.out, followGo_end hx k1]; rfl
        clear hx HK hgd k1 k2
        go_wp2
        go_ret3
        exact ⟨by rw [HR2.out]; rfl, hb⟩

/-- the cell of a block behind a first one -/
theorem second_cell (w : World) (o : Obj) (v : Value) : ((w.alloc o).alloc (.cells #[v] 3)).cell? ⟨w.heap.size + 1, 0, none⟩ = some v := by
  have h := heap_alloc_new (w.alloc o) (.cells #[v] 3)
  have hs : (w.alloc o).heap.size = w.heap.size + 1 := by simp
  rw [hs] at h
  exact cells1 h

def followR (r : Option (Int × Int)) : Int × Int × Int := match r with
  | none => (0, 0, 9)
  | some (a, b) => (a, b, 0)

set_option maxHeartbeats 1000000 in
set_option maxRecDepth 100000 in
theorem trade_Follow.calls (A0_0 : Option Addr) (c0_0 : Nat) (l0_0 : List (S51)) (A0_1 : Option Addr) (c0_1 : Nat) (l0_1 : List (S39)) (a1 : Int) (r1 : Int) (r2 : Int) (r3 : Int) (w : World) (hr0_0 : Kd.C k51 w A0_0 l0_0.length l0_0) (hc0_0 : l0_0.length ≤ c0_0) (hr0_1 : Kd.C k39 w A0_1 l0_1.length l0_1) (hc0_1 : l0_1.length ≤ c0_1) (h : trade_Follow.f l0_0 l0_1 a1 = some (r1, r2, r3)) :
    Calls Try.prog 18 #[.agg #[.slice A0_0 l0_0.length c0_0, .slice A0_1 l0_1.length c0_1], .int .i64 a1] w fun e w' => e = .returned (.tuple #[.int .i64 r1, .int .i64 r2, .int .i64 r3]) ∧ Below w.heap.size w w' := by
  have hu2 := Try.underlying26
  have hB0 := (Below.refl w.heap.size w).alloc (Nat.le_refl _) (.cells #[.slice A0_0 l0_0.length c0_0, .slice A0_1 l0_1.length c0_1] 26)
  have hB1 := hB0.alloc hB0.size (.cells #[.int .i64 a1] 3)
  have hcq := second_cell w (.cells #[.slice A0_0 l0_0.length c0_0, .slice A0_1 l0_1.length c0_1] 26) (.int .i64 a1)
  have h := Option.some.inj h
  by_cases hz : askT l0_0 l0_1 a1 = 0
  · obtain ⟨hv, n, rfl, hn⟩ := askT_zero hz
    have HG := fun W q (hW : Below w.heap.size w W) hq => ask_good A0_0 A0_1 c0_0 c0_1 l0_0 l0_1 q n W (Kd.C_below hr0_0 hW) (Kd.C_below hr0_1 hW) hc0_0 hc0_1 hq hv hn
    have HF := fun W g (hL : IsList W g l0_0 l0_1) => follow_any g l0_0 l0_1 n W hL hv hn
    have hR : followR (followT l0_1 n) = (r1, r2, r3) := by
      rw [← h, if_neg (by have := hv.ok; omega), if_neg (by unfold inN; simp [hn])]
      cases followT l0_1 n <;> rfl
    obtain ⟨R, hRe⟩ : ∃ R, followT l0_1 n = R := ⟨_, rfl⟩
    rw [hRe] at hR
    simp only [hRe] at HF
    clear h hz hRe
    match R, hR with
    | none, hR =>
      simp only [followR, Prod.mk.injEq] at hR
      obtain ⟨rfl, rfl, rfl⟩ := hR
      simp only [followV] at HF
      go_enter Try.func18, Try.ntmps18
      go_wp2_with (first
        | (go_at_call 51; (with_reducible refine (HG _ _ hB1 hcq).mono ?_); rintro e w1 ⟨g, rfl, hL1, hb1⟩; obtain HB1 := below_then hB1 hB1.size hb1; clear hb1)
        | (go_at_call 52; (with_reducible refine (HF _ _ hL1).mono ?_); rintro e w3 ⟨rfl, hb3⟩))
      go_ret3
      exact ⟨rfl, below_then HB1 HB1.size hb3⟩
    | some (a, b), hR =>
      simp only [followR, Prod.mk.injEq] at hR
      obtain ⟨rfl, rfl, rfl⟩ := hR
      simp only [followV] at HF
      go_enter Try.func18, Try.ntmps18
      go_wp2_with (first
        | (go_at_call 51; (with_reducible refine (HG _ _ hB1 hcq).mono ?_); rintro e w1 ⟨g, rfl, hL1, hb1⟩; obtain HB1 := below_then hB1 hB1.size hb1; clear hb1)
        | (go_at_call 52; (with_reducible refine (HF _ _ hL1).mono ?_); rintro e w3 ⟨rfl, hb3⟩))
      go_ret3
      exact ⟨rfl, below_then HB1 HB1.size hb3⟩
  · have HG := fun W q (hW : Below w.heap.size w W) hq => ask_bad A0_0 A0_1 c0_0 c0_1 l0_0 l0_1 q a1 W (Kd.C_below hr0_0 hW) (Kd.C_below hr0_1 hW) hc0_0 hc0_1 hq hz
    obtain ⟨z, hze⟩ : ∃ z, askT l0_0 l0_1 a1 = z := ⟨_, rfl⟩
    have hR : r1 = 0 ∧ r2 = 0 ∧ r3 = z := by
      unfold askT at hze hz
      split at h
      · rename_i h1
        rw [if_pos h1] at hze
        simp only [Prod.mk.injEq] at h
        omega
      · rename_i h1
        rw [if_neg h1] at hze hz
        split at h
        · rename_i h2
          rw [if_pos h2] at hze
          simp only [Prod.mk.injEq] at h
          omega
        · rename_i h2
          rw [if_neg h2] at hz
          omega
    obtain ⟨rfl, rfl, rfl⟩ := hR
    simp only [hze] at HG hz
    have hz1 : (r3 != 0) = true := bne_iff_ne.mpr hz
    clear hz hze h
    go_enter Try.func18, Try.ntmps18
    go_wp2_with (go_at_call 51; (with_reducible refine (HG _ _ hB1 hcq).mono ?_); rintro e w1 ⟨rfl, hb1⟩; obtain HB1 := below_then hB1 hB1.size hb1; clear hb1)
    go_ret3
    exact ⟨rfl, HB1⟩
end Go.Proofs.Ytfbimhnlcmdcpaa.Pa
/- What Drop computes, as plain functions over lists. -/
namespace Go.Proofs.Ytfbimhnlcmdcpaa.Pa
open Go.RowKit
set_option linter.unusedVariables false

/-- A heading that goes if those of set g do. -/
def goneB (g : Nat) (x : Hd) : Bool := if x.f2 ≠ -1 then g.testBit x.f2.toNat else if x.f1 ≠ -1 then false else x.f3.all (fun n => g.testBit n.toNat)
/-- the headings below k looked at -/
def goneTo (hs : List Hd) (g : Nat) : Nat → Nat
  | 0 => g
  | k + 1 => if goneB (goneTo hs g k) (hs.getD k zHd) = true then goneTo hs g k ||| 2 ^ k else goneTo hs g k
def goneR (hs : List Hd) (g : Nat) : Nat → Nat
  | 0 => g
  | r + 1 => goneTo hs (goneR hs g r) hs.length
def goneT (hs : List Hd) (h : Nat) : Nat := goneR hs (2 ^ h) hs.length
/-- how many of the headings below k stay -/
def numT (g : Nat) : Nat → Nat
  | 0 => 0
  | k + 1 => numT g k + (if g.testBit k = true then 0 else 1)
def keptL (g : Nat) (l : List Int) : List Int := (l.filter (fun a => !g.testBit a.toNat)).map (fun a => (numT g a.toNat : Int))
def dropHd (g : Nat) (x : Hd) : Hd := ⟨x.f0, x.f1, if x.f2 ≥ 0 then (numT g x.f2.toNat : Int) else x.f2, keptL g x.f3⟩
def dropTo (hs : List Hd) (g : Nat) : Nat → List Hd
  | 0 => []
  | k + 1 => dropTo hs g k ++ (if g.testBit k = true then [] else [dropHd g (hs.getD k zHd)])
def dropT (hs : List Hd) (h : Nat) : List Hd := dropTo hs (goneT hs h) hs.length
def trade_Drop.f (cs : List Cl) (hs : List Hd) (h : Int) : Option (List Cl × List Hd × Int) :=
  some (if askT cs hs h ≠ 0 then ([], [], askT cs hs h) else (cs, dropT hs h.toNat, 0))
end Go.Proofs.Ytfbimhnlcmdcpaa.Pa
namespace Go.Proofs.Ytfbimhnlcmdcpaa.Pa
open Go.RowKit Go.Proofs.YtfbimhnlcmdcpaaW.PrintWords Go.Proofs.YtfbimhnlcmdcpaaW.PrintLast Go.Proofs.YtfbimhnlcmdcpaaW.PrintMore
attribute [local go_sem] max2_int min2_int max_two min_two max_three min_three max_four min_four   -- for this text's walks alone
set_option linter.unusedVariables false
set_option linter.unusedSimpArgs false


theorem eqA47 (d : Nat) (w : World) (x0 y0 : ByteArray) (x1 y1 : Int) :
    (Op.equalIn (d + 2) 47 (.agg #[.string x0, .int .i64 x1]) (.agg #[.string y0, .int .i64 y1])).run Try.prog w = .ok (x0.toList == y0.toList && (x1 == y1)) w := by
  refine eqA_of Try.underlying47 (by kernel_rfl) ?_
  refine eqf_cons (by rfl) (by go_simp; rfl) (by go_simp; rfl) (by go_simp) ?_
  exact eqf_last (by rfl) (by go_simp; rfl) (by go_simp; rfl) (by go_simp)
end Go.Proofs.Ytfbimhnlcmdcpaa.Pa
namespace Go.Proofs.Ytfbimhnlcmdcpaa.Pa
open Go.RowKit Go.Proofs.YtfbimhnlcmdcpaaW.PrintWords Go.Proofs.YtfbimhnlcmdcpaaW.PrintLast Go.Proofs.YtfbimhnlcmdcpaaW.PrintMore
attribute [local go_sem] max2_int min2_int max_two min_two max_three min_three max_four min_four   -- for this text's walks alone
set_option linter.unusedVariables false
set_option linter.unusedSimpArgs false


attribute [local go_sem high] eqA47
/-! ### wayzgoosekit_EqMoves: function 50 -/
def wayzgoosekit_EqMoves.l0 : Nat → List (S47) → List (S47) → Int → Option (Bool)
  | 0, _, _, _ => none
  | k + 1, x0, x1, x5 => if x5 < (x0.length : Int) then (if 0 ≤ x5 then (if x5 < (x1.length : Int) then (if (!((((rd_T47 x0 x5).f0).toList) == (((rd_T47 x1 x5).f0).toList)) || (!(((rd_T47 x0 x5).f1) == ((rd_T47 x1 x5).f1)))) = true then (some false) else (wayzgoosekit_EqMoves.l0 k x0 x1 (wrap64 (x5 + 1)))) else (none)) else (none)) else (some true)
def wayzgoosekit_EqMoves.f (k : Nat) (l0 : List (S47)) (l1 : List (S47)) : Option (Bool) := if (l0.length : Int) = (l1.length : Int) then (wayzgoosekit_EqMoves.l0 k l0 l1 0) else (some false)
set_option maxHeartbeats 8000000 in
set_option maxRecDepth 100000 in
theorem wayzgoosekit_EqMoves.calls (k : Nat) (A0 : Option Addr) (c0 : Nat) (l0 : List (S47)) (A1 : Option Addr) (c1 : Nat) (l1 : List (S47)) (r : Bool) (w : World) (hr0 : Kd.C k47 w A0 l0.length l0) (hc0 : l0.length ≤ c0) (hr1 : Kd.C k47 w A1 l1.length l1) (hc1 : l1.length ≤ c1) (h : wayzgoosekit_EqMoves.f k l0 l1 = some r) :
    Calls Try.prog 50 #[.slice A0 l0.length c0, .slice A1 l1.length c1] w fun e w' => e = .returned (.bool r) ∧ Drawn0 w w' := by
  have hu47 := Try.underlying47
  have HR0 := Aside0.mk hr0
  have HC0 := Aside0.mk hc0
  clear hr0 hc0
  have HR1 := Aside0.mk hr1
  have HC1 := Aside0.mk hc1
  clear hr1 hc1
  have H : (if (l0.length : Int) = (l1.length : Int) then (wayzgoosekit_EqMoves.l0 k l0 l1 0) else (some false)) = some r := h
  clear h
  by_cases c3 : (l0.length : Int) = (l1.length : Int)
  · rw [if_pos c3] at H
    have c3b0 : ((l0.length : Int) == (l1.length : Int)) = true := beq_iff_eq.mpr c3
    have c3b1 : ((l0.length : Int) != (l1.length : Int)) = false := bne_eq_false_iff_eq.mpr c3
    have c3b2 : (l0.length == l1.length) = true := by first | simpa using c3 | (simp at c3 ⊢; omega)
    clear c3
    have H' := Aside0.mk H
    clear H
    go_enter Try.func50, Try.ntmps50
    go_wp2
    repeat (go_quiet (fail); try go_wp2)
    go_loopg [5] k (fun kq v5 w' => ∃ (x5_1 : Int), v5 = .int .i64 x5_1 ∧ Aside0 (wayzgoosekit_EqMoves.l0 kq l0 l1 x5_1 = some r) ∧ Aside0 (kq ≤ k) ∧ Drawn0 w w')
    case atStart => exact ⟨(0), (by first | rfl | (simp; done) | (simp [*]; done)), H', ⟨Nat.le_refl _⟩, by repeat (first | exact Drawn0.refl _ | apply Drawn0.step)⟩
    case round =>
      clear H'
      try clear c1
      try clear p2
      try clear c3
      try clear c3b0
      try clear c3b1
      try clear c3b2
      obtain ⟨x5_1, rfl, HA, HK1, ⟨m1, rfl⟩⟩ := hrel
      cases gk with
      | zero => exact absurd HA.out (by simp [wayzgoosekit_EqMoves.l0])
      | succ k1 =>
        have H := HA.out
        clear HA
        simp only [wayzgoosekit_EqMoves.l0] at H
        by_cases c4 : x5_1 < (l0.length : Int)
        · rw [if_pos c4] at H
          have c4b0 : decide (x5_1 < (l0.length : Int)) = true := decide_eq_true c4
          clear c4
          by_cases c5 : 0 ≤ x5_1
          · rw [if_pos c5] at H
            have c5b0 : decide (0 ≤ x5_1) = true := decide_eq_true c5
            clear c5
            by_cases c6 : x5_1 < (l1.length : Int)
            · rw [if_pos c6] at H
              have c6b0 : decide (x5_1 < (l1.length : Int)) = true := decide_eq_true c6
              clear c6
              by_cases c7 : (!((((rd_T47 l0 x5_1).f0).toList) == (((rd_T47 l1 x5_1).f0).toList)) || (!(((rd_T47 l0 x5_1).f1) == ((rd_T47 l1 x5_1).f1)))) = true
              · rw [if_pos c7] at H
                have c7b0 : (!((((rd_T47 l0 x5_1).f0).toList) == (((rd_T47 l1 x5_1).f0).toList)) || (!(((rd_T47 l0 x5_1).f1) == ((rd_T47 l1 x5_1).f1)))) = true := c7
                clear c7
                obtain rfl := Option.some.inj H
                have p319 : 0 ≤ (x5_1 : Int) := of_decide_eq_true (by first | (with_reducible assumption) | assumption)
                have q319 : x5_1 < (l0.length : Int) := of_decide_eq_true (by first | (with_reducible assumption) | assumption)
                obtain ⟨ad319, e319, hx319_0, hx319_1⟩ := at_T47 HR0.out x5_1 p319 q319
                cases e319
                replace p319 := eq_true p319
                replace q319 := eq_true q319
                have p320 : 0 ≤ (x5_1 : Int) := of_decide_eq_true (by first | (with_reducible assumption) | assumption)
                have q320 : x5_1 < (l1.length : Int) := of_decide_eq_true (by first | (with_reducible assumption) | assumption)
                obtain ⟨ad320, e320, hx320_0, hx320_1⟩ := at_T47 HR1.out x5_1 p320 q320
                cases e320
                replace p320 := eq_true p320
                replace q320 := eq_true q320
                go_wp2
                repeat (go_quiet (fail); try go_wp2)
                go_ret
                exact ⟨by first | rfl | (simp; done) | (simp [*]; done), by repeat (first | exact Drawn0.refl _ | apply Drawn0.step)⟩
              · rw [if_neg c7] at H
                have c7b0 : (!((((rd_T47 l0 x5_1).f0).toList) == (((rd_T47 l1 x5_1).f0).toList)) || (!(((rd_T47 l0 x5_1).f1) == ((rd_T47 l1 x5_1).f1)))) = false := by simpa using c7
                clear c7
                have H' := Aside0.mk H
                clear H
                have p319 : 0 ≤ (x5_1 : Int) := of_decide_eq_true (by first | (with_reducible assumption) | assumption)
                have q319 : x5_1 < (l0.length : Int) := of_decide_eq_true (by first | (with_reducible assumption) | assumption)
                obtain ⟨ad319, e319, hx319_0, hx319_1⟩ := at_T47 HR0.out x5_1 p319 q319
                cases e319
                replace p319 := eq_true p319
                replace q319 := eq_true q319
                have p320 : 0 ≤ (x5_1 : Int) := of_decide_eq_true (by first | (with_reducible assumption) | assumption)
                have q320 : x5_1 < (l1.length : Int) := of_decide_eq_true (by first | (with_reducible assumption) | assumption)
                obtain ⟨ad320, e320, hx320_0, hx320_1⟩ := at_T47 HR1.out x5_1 p320 q320
                cases e320
                replace p320 := eq_true p320
                replace q320 := eq_true q320
                go_wp2
                repeat (go_quiet (fail); try go_wp2)
                go_roundg k1
                case measure => have := HK1.out; omega
                case rel => exact ⟨(wrap64 (x5_1 + 1)), (by first | rfl | (simp; done) | (simp [*]; done)), H', ⟨by have := HK1.out; omega⟩, by repeat (first | exact Drawn0.refl _ | apply Drawn0.step)⟩
            · rw [if_neg c6] at H
              exact absurd H (by simp)
          · rw [if_neg c5] at H
            exact absurd H (by simp)
        · rw [if_neg c4] at H
          have c4b0 : decide (x5_1 < (l0.length : Int)) = false := decide_eq_false c4
          clear c4
          obtain rfl := Option.some.inj H
          go_wp2
          repeat (go_quiet (fail); try go_wp2)
          go_ret
          exact ⟨by first | rfl | (simp; done) | (simp [*]; done), by repeat (first | exact Drawn0.refl _ | apply Drawn0.step)⟩
  · rw [if_neg c3] at H
    have c3b0 : ((l0.length : Int) == (l1.length : Int)) = false := beq_eq_false_iff_ne.mpr c3
    have c3b1 : ((l0.length : Int) != (l1.length : Int)) = true := bne_iff_ne.mpr c3
    have c3b2 : (l0.length == l1.length) = false := by first | simpa using c3 | (simp at c3 ⊢; omega)
    obtain rfl := Option.some.inj H
    go_enter Try.func50, Try.ntmps50
    go_wp2
    repeat (go_quiet (fail); try go_wp2)
    go_ret
    exact ⟨by first | rfl | (simp; done) | (simp [*]; done), by repeat (first | exact Drawn0.refl _ | apply Drawn0.step)⟩

/-! ### slices_Equal_string_string: function 59 -/
def slices_Equal_string_string.l0 : Nat → List ByteArray → List ByteArray → Int → Int → Option (Bool)
  | 0, _, _, _, _ => none
  | k + 1, x0, x1, x12, x13 => if x13 < x12 then (if 0 ≤ x13 then (if x13 < (x0.length : Int) then (if x13 < (x1.length : Int) then (if (rdOf ByteArray.empty x0 x13).toList = (rdOf ByteArray.empty x1 x13).toList then (slices_Equal_string_string.l0 k x0 x1 x12 (wrap64 (x13 + 1))) else (some false)) else (none)) else (none)) else (none)) else (some true)
def slices_Equal_string_string.f (k : Nat) (l0 : List ByteArray) (l1 : List ByteArray) : Option (Bool) := if (l0.length : Int) = (l1.length : Int) then (slices_Equal_string_string.l0 k l0 l1 (l0.length : Int) 0) else (some false)
set_option maxHeartbeats 8000000 in
set_option maxRecDepth 100000 in
theorem slices_Equal_string_string.calls (k : Nat) (A0 : Option Addr) (c0 : Nat) (l0 : List ByteArray) (A1 : Option Addr) (c1 : Nat) (l1 : List ByteArray) (r : Bool) (w : World) (hr0 : Kd.C Kd.string w A0 l0.length l0) (hc0 : l0.length ≤ c0) (hr1 : Kd.C Kd.string w A1 l1.length l1) (hc1 : l1.length ≤ c1) (h : slices_Equal_string_string.f k l0 l1 = some r) :
    Calls Try.prog 59 #[.slice A0 l0.length c0, .slice A1 l1.length c1] w fun e w' => e = .returned (.bool r) ∧ Drawn0 w w' := by
  have HR0 := Aside0.mk hr0
  have HC0 := Aside0.mk hc0
  clear hr0 hc0
  have HR1 := Aside0.mk hr1
  have HC1 := Aside0.mk hc1
  clear hr1 hc1
  have H : (if (l0.length : Int) = (l1.length : Int) then (slices_Equal_string_string.l0 k l0 l1 (l0.length : Int) 0) else (some false)) = some r := h
  clear h
  by_cases c3 : (l0.length : Int) = (l1.length : Int)
  · rw [if_pos c3] at H
    have c3b0 : ((l0.length : Int) == (l1.length : Int)) = true := beq_iff_eq.mpr c3
    have c3b1 : ((l0.length : Int) != (l1.length : Int)) = false := bne_eq_false_iff_eq.mpr c3
    have c3b2 : (l0.length == l1.length) = true := by first | simpa using c3 | (simp at c3 ⊢; omega)
    clear c3
    have H' := Aside0.mk H
    clear H
    go_enter Try.func59, Try.ntmps59
    go_wp2
    repeat (go_quiet (fail); try go_wp2)
    go_loopg [13] k (fun kq v13 w' => ∃ (x13_1 : Int), v13 = .int .i64 x13_1 ∧ Aside0 (slices_Equal_string_string.l0 kq l0 l1 (l0.length : Int) x13_1 = some r) ∧ Aside0 (kq ≤ k) ∧ Drawn0 w w')
    case atStart => exact ⟨(0), (by first | rfl | (simp; done) | (simp [*]; done)), H', ⟨Nat.le_refl _⟩, by repeat (first | exact Drawn0.refl _ | apply Drawn0.step)⟩
    case round =>
      clear H'
      try clear c1
      try clear p2
      try clear c3
      try clear c3b0
      try clear c3b1
      try clear c3b2
      obtain ⟨x13_1, rfl, HA, HK1, ⟨m1, rfl⟩⟩ := hrel
      cases gk with
      | zero => exact absurd HA.out (by simp [slices_Equal_string_string.l0])
      | succ k1 =>
        have H := HA.out
        clear HA
        simp only [slices_Equal_string_string.l0] at H
        by_cases c4 : x13_1 < (l0.length : Int)
        · rw [if_pos c4] at H
          have c4b0 : decide (x13_1 < (l0.length : Int)) = true := decide_eq_true c4
          clear c4
          by_cases c5 : 0 ≤ x13_1
          · rw [if_pos c5] at H
            have c5b0 : decide (0 ≤ x13_1) = true := decide_eq_true c5
            clear c5
            by_cases c6 : x13_1 < (l0.length : Int)
            · rw [if_pos c6] at H
              have c6b0 : decide (x13_1 < (l0.length : Int)) = true := decide_eq_true c6
              clear c6
              by_cases c7 : x13_1 < (l1.length : Int)
              · rw [if_pos c7] at H
                have c7b0 : decide (x13_1 < (l1.length : Int)) = true := decide_eq_true c7
                clear c7
                by_cases c8 : (rdOf ByteArray.empty l0 x13_1).toList = (rdOf ByteArray.empty l1 x13_1).toList
                · rw [if_pos c8] at H
                  have c8b0 : ((rdOf ByteArray.empty l0 x13_1).toList == (rdOf ByteArray.empty l1 x13_1).toList) = true := beq_iff_eq.mpr c8
                  have c8b1 : ((rdOf ByteArray.empty l0 x13_1).toList != (rdOf ByteArray.empty l1 x13_1).toList) = false := bne_eq_false_iff_eq.mpr c8
                  clear c8
                  have H' := Aside0.mk H
                  clear H
                  have p321 : 0 ≤ (x13_1 : Int) := of_decide_eq_true (by first | (with_reducible assumption) | assumption)
                  have q321 : x13_1 < (l0.length : Int) := of_decide_eq_true (by first | (with_reducible assumption) | assumption)
                  obtain ⟨ad321, e321, hx321_0⟩ := Kd.at_string HR0.out x13_1 p321 q321
                  cases e321
                  replace p321 := eq_true p321
                  replace q321 := eq_true q321
                  have p322 : 0 ≤ (x13_1 : Int) := of_decide_eq_true (by first | (with_reducible assumption) | assumption)
                  have q322 : x13_1 < (l1.length : Int) := of_decide_eq_true (by first | (with_reducible assumption) | assumption)
                  obtain ⟨ad322, e322, hx322_0⟩ := Kd.at_string HR1.out x13_1 p322 q322
                  cases e322
                  replace p322 := eq_true p322
                  replace q322 := eq_true q322
                  go_wp2
                  repeat (go_quiet (fail); try go_wp2)
                  go_roundg k1
                  case measure => have := HK1.out; omega
                  case rel => exact ⟨(wrap64 (x13_1 + 1)), (by first | rfl | (simp; done) | (simp [*]; done)), H', ⟨by have := HK1.out; omega⟩, by repeat (first | exact Drawn0.refl _ | apply Drawn0.step)⟩
                · rw [if_neg c8] at H
                  have c8b0 : ((rdOf ByteArray.empty l0 x13_1).toList == (rdOf ByteArray.empty l1 x13_1).toList) = false := beq_eq_false_iff_ne.mpr c8
                  have c8b1 : ((rdOf ByteArray.empty l0 x13_1).toList != (rdOf ByteArray.empty l1 x13_1).toList) = true := bne_iff_ne.mpr c8
                  obtain rfl := Option.some.inj H
                  have p321 : 0 ≤ (x13_1 : Int) := of_decide_eq_true (by first | (with_reducible assumption) | assumption)
                  have q321 : x13_1 < (l0.length : Int) := of_decide_eq_true (by first | (with_reducible assumption) | assumption)
                  obtain ⟨ad321, e321, hx321_0⟩ := Kd.at_string HR0.out x13_1 p321 q321
                  cases e321
                  replace p321 := eq_true p321
                  replace q321 := eq_true q321
                  have p322 : 0 ≤ (x13_1 : Int) := of_decide_eq_true (by first | (with_reducible assumption) | assumption)
                  have q322 : x13_1 < (l1.length : Int) := of_decide_eq_true (by first | (with_reducible assumption) | assumption)
                  obtain ⟨ad322, e322, hx322_0⟩ := Kd.at_string HR1.out x13_1 p322 q322
                  cases e322
                  replace p322 := eq_true p322
                  replace q322 := eq_true q322
                  go_wp2
                  repeat (go_quiet (fail); try go_wp2)
                  go_ret
                  exact ⟨by first | rfl | (simp; done) | (simp [*]; done), by repeat (first | exact Drawn0.refl _ | apply Drawn0.step)⟩
              · rw [if_neg c7] at H
                exact absurd H (by simp)
            · rw [if_neg c6] at H
              exact absurd H (by simp)
          · rw [if_neg c5] at H
            exact absurd H (by simp)
        · rw [if_neg c4] at H
          have c4b0 : decide (x13_1 < (l0.length : Int)) = false := decide_eq_false c4
          clear c4
          obtain rfl := Option.some.inj H
          go_wp2
          repeat (go_quiet (fail); try go_wp2)
          go_ret
          exact ⟨by first | rfl | (simp; done) | (simp [*]; done), by repeat (first | exact Drawn0.refl _ | apply Drawn0.step)⟩
  · rw [if_neg c3] at H
    have c3b0 : ((l0.length : Int) == (l1.length : Int)) = false := beq_eq_false_iff_ne.mpr c3
    have c3b1 : ((l0.length : Int) != (l1.length : Int)) = true := bne_iff_ne.mpr c3
    have c3b2 : (l0.length == l1.length) = false := by first | simpa using c3 | (simp at c3 ⊢; omega)
    obtain rfl := Option.some.inj H
    go_enter Try.func59, Try.ntmps59
    go_wp2
    repeat (go_quiet (fail); try go_wp2)
    go_ret
    exact ⟨by first | rfl | (simp; done) | (simp [*]; done), by repeat (first | exact Drawn0.refl _ | apply Drawn0.step)⟩

/-! ### slices_Index_int_int: function 79 -/
def slices_Index_int_int.l0 : Nat → List Int → Int → Int → Int → Option (Int)
  | 0, _, _, _, _ => none
  | k + 1, x0, x1, x7, x8 => if x8 < x7 then (if 0 ≤ x8 then (if x8 < (x0.length : Int) then (if x1 = (rd x0 x8) then (some x8) else (slices_Index_int_int.l0 k x0 x1 x7 (wrap64 (x8 + 1)))) else (none)) else (none)) else (some (-1))
/-! ### slices_Contains_int_int: function 64 -/
/-! ### trade_classes_with: function 69 -/
/-! ### stringslite_HasPrefix: function 92 -/
def stringslite_HasPrefix.f (a0 : ByteArray) (a1 : ByteArray) : Option (Bool) := if (a0.size : Int) ≥ (a1.size : Int) then (if 0 ≤ (a1.size : Int) then (if (a1.size : Int) ≤ (a0.size : Int) then (some ((a0.extract 0 ((a1.size : Int) : Int).toNat).toList == a1.toList)) else (none)) else (none)) else (some false)
set_option maxHeartbeats 8000000 in
set_option maxRecDepth 100000 in
theorem stringslite_HasPrefix.calls (a0 : ByteArray) (a1 : ByteArray) (r : Bool) (w : World) (h : stringslite_HasPrefix.f a0 a1 = some r) :
    Calls Try.prog 92 #[.string a0, .string a1] w fun e w' => e = .returned (.bool r) ∧ Drawn0 w w' := by
  have H : (if (a0.size : Int) ≥ (a1.size : Int) then (if 0 ≤ (a1.size : Int) then (if (a1.size : Int) ≤ (a0.size : Int) then (some ((a0.extract 0 ((a1.size : Int) : Int).toNat).toList == a1.toList)) else (none)) else (none)) else (some false)) = some r := h
  clear h
  by_cases c3 : (a0.size : Int) ≥ (a1.size : Int)
  · rw [if_pos c3] at H
    have c3b0 : decide ((a1.size : Int) ≤ (a0.size : Int)) = true := decide_eq_true c3
    have c3b1 : decide (a1.size ≤ a0.size) = true := decide_eq_true (Int.ofNat_le.mp c3)
    clear c3
    by_cases c4 : 0 ≤ (a1.size : Int)
    · rw [if_pos c4] at H
      have c4b0 := eq_true c4
      have c4b1 : decide (0 ≤ (a1.size : Int)) = true := decide_eq_true c4
      clear c4
      by_cases c5 : (a1.size : Int) ≤ (a0.size : Int)
      · rw [if_pos c5] at H
        have c5b0 := eq_true c5
        have c5b1 : decide ((a1.size : Int) ≤ (a0.size : Int)) = true := decide_eq_true c5
        clear c5
        obtain rfl := Option.some.inj H
        go_enter Try.func92, Try.ntmps92
        go_wp2
        go_ret
        exact ⟨by first | rfl | (simp; done) | (simp [*]; done), by repeat (first | exact Drawn0.refl _ | apply Drawn0.step)⟩
      · rw [if_neg c5] at H
        exact absurd H (by simp)
    · rw [if_neg c4] at H
      exact absurd H (by simp)
  · rw [if_neg c3] at H
    have c3b0 : decide ((a1.size : Int) ≤ (a0.size : Int)) = false := decide_eq_false c3
    have c3b1 : decide (a1.size ≤ a0.size) = false := decide_eq_false (fun h => c3 (Int.ofNat_le.mpr h))
    clear c3
    obtain rfl := Option.some.inj H
    go_enter Try.func92, Try.ntmps92
    go_wp2
    go_ret
    exact ⟨by first | rfl | (simp; done) | (simp [*]; done), by repeat (first | exact Drawn0.refl _ | apply Drawn0.step)⟩

/-! ### strings_HasPrefix: function 73 -/
def strings_HasPrefix.f (a0 : ByteArray) (a1 : ByteArray) : Option (Bool) := (stringslite_HasPrefix.f a0 a1).bind fun t325 => (some t325)
set_option maxHeartbeats 8000000 in
set_option maxRecDepth 100000 in
theorem strings_HasPrefix.calls (a0 : ByteArray) (a1 : ByteArray) (r : Bool) (w : World) (h : strings_HasPrefix.f a0 a1 = some r) :
    Calls Try.prog 73 #[.string a0, .string a1] w fun e w' => e = .returned (.bool r) ∧ Drawn0 w w' := by
  have H : ((stringslite_HasPrefix.f a0 a1).bind fun t325 => (some t325)) = some r := h
  clear h
  replace H := Option.bind_eq_some_iff.mp H
  obtain ⟨t325, A30, H⟩ := H
  replace H : (some t325) = some r := H
  have A3 := Aside0.mk A30
  clear A30
  obtain rfl := Option.some.inj H
  go_enter Try.func73, Try.ntmps73
  go_wp2_with (first | ((with_reducible refine gate_callee (f := 92) rfl ?_); refine goesL_ (some 7) rfl rfl Try.func92 (by kernel_rfl) rfl #[.string a0, .string a1] rfl (by (try simp only [List.map_toArray, List.map_cons, List.map_nil]); first | done | rfl | (simp only [List.length_drop, List.length_take]; rfl)) ?_; (with_reducible refine (stringslite_HasPrefix.calls a0 a1 t325 _ A3.out).mono ?_); rintro e w' ⟨rfl, ⟨nd, rfl⟩⟩; refine ⟨_, rfl, ?_⟩))
  go_ret
  exact ⟨by first | rfl | (simp; done) | (simp [*]; done), by repeat (first | exact Drawn0.refl _ | apply Drawn0.step)⟩

/-! ### trade_heads_with: function 74 -/
/-! ### trade_heads_has: function 75 -/
end Go.Proofs.Ytfbimhnlcmdcpaa.Pa
/- The contracts of may and May. -/
namespace Go.Proofs.Ytfbimhnlcmdcpaa.Pa
open Go.RowKit Go.Proofs.YtfbimhnlcmdcpaaW.PrintWords Go.Proofs.YtfbimhnlcmdcpaaW.PrintLast Go.Proofs.YtfbimhnlcmdcpaaW.PrintMore
set_option linter.unusedVariables false
set_option linter.unusedSimpArgs false

theorem hasPrefix_begins (s b : ByteArray) : strings_HasPrefix.f s b = some (begins s b) := by
  unfold strings_HasPrefix.f stringslite_HasPrefix.f
  have hs : s.size = s.data.toList.length := rfl
  have hb : b.size = b.data.toList.length := rfl
  by_cases h : (s.size : Int) ≥ (b.size : Int)
  · rw [if_pos h, if_pos (by omega), if_pos h]
    show some _ = some _
    congr 1
    rw [toList_data, toList_data]
    unfold begins
    have : (s.extract 0 ((b.size : Int)).toNat).data.toList = s.data.toList.take b.data.toList.length := by
      rw [Int.toNat_natCast, hb]
      simp
    rw [this, Bool.eq_iff_iff, beq_iff_eq, List.isPrefixOf_iff_prefix, List.prefix_iff_eq_take]
    exact eq_comm
  · rw [if_neg h]
    show some false = some _
    congr 1
    unfold begins
    symm
    rw [Bool.eq_false_iff, ne_eq, List.isPrefixOf_iff_prefix]
    intro hp
    have := hp.length_le
    omega

theorem followGo_in {cs : List Cl} {hs : List Hd} (hv : Valid cs hs) {a t : Int} : ∀ (m : Nat) (k : Nat) (s : Int), k < hs.length → followGo hs m k s = some (a, t) → ∃ p : Nat, a = p ∧ p < hs.length
  | 0, k, s, hk, h => by simp [followGo_zero] at h
  | m + 1, k, s, hk, h => by
    by_cases hp : (hs.getD k zHd).f2 = -1
    · rw [followGo_end rfl hp] at h
      simp only [Option.some.injEq, Prod.mk.injEq] at h
      exact ⟨k, h.1.symm, hk⟩
    · rw [followGo_ptr rfl hp] at h
      have hg := (hv.head k hk).see
      obtain ⟨p, hpe⟩ : ∃ p : Nat, (hs.getD k zHd).f2 = p := ⟨(hs.getD k zHd).f2.toNat, by omega⟩
      rw [hpe] at h hg
      exact followGo_in hv m p (s + 1) (by omega) h
theorem followT_in {cs : List Cl} {hs : List Hd} (hv : Valid cs hs) {k : Nat} (hk : k < hs.length) {a t : Int} (h : followT hs k = some (a, t)) : ∃ p : Nat, a = p ∧ p < hs.length := followGo_in hv _ k 0 hk h

/-- the trades that the first k headings lead to, as bits -/
def mayStep (hs : List Hd) (b : ByteArray) (k : Nat) (S : Nat) : Nat :=
  if begins (hs.getD k zHd).f0 b = true then (match followT hs k with | none => S | some (e, _) => if isTradeT hs e = true then S ||| 2 ^ e.toNat else S) else S
def mayS (hs : List Hd) (b : ByteArray) : Nat → Nat
  | 0 => 0
  | k + 1 => mayStep hs b k (mayS hs b k)
theorem mayS_lt {cs : List Cl} {hs : List Hd} (hv : Valid cs hs) (b : ByteArray) : ∀ k, k ≤ hs.length → mayS hs b k < 256
  | 0, _ => by show 0 < 256; omega
  | k + 1, hk => by
    have ih := mayS_lt hv b k (by omega)
    have m1 := hv.split.2.1
    show mayStep hs b k (mayS hs b k) < 256
    unfold mayStep
    split
    · split
      · exact ih
      · rename_i e s hf
        obtain ⟨p, rfl, hp⟩ := followT_in hv (by omega) hf
        split
        · rw [Int.toNat_natCast]; exact or_lt _ _ ih (by omega)
        · exact ih
    · exact ih
theorem mayS_bit {cs : List Cl} {hs : List Hd} (hv : Valid cs hs) (b : ByteArray) (e : Nat) : ∀ k, k ≤ hs.length → (mayS hs b k).testBit e = (nats k).any (fun h => leadsTo hs b h e)
  | 0, _ => by show (0 : Nat).testBit e = false; simp
  | k + 1, hk => by
    have ih := mayS_bit hv b e k (by omega)
    rw [nats_succ, List.any_append, ← ih]
    show (mayStep hs b k (mayS hs b k)).testBit e = _
    simp only [List.any_cons, List.any_nil, Bool.or_false]
    unfold mayStep leadsTo
    rw [Int.toNat_natCast]
    cases hb : begins (hs.getD k zHd).f0 b
    · simp
    · cases hf : followT hs k with
      | none => simp
      | some pr =>
        obtain ⟨a, s⟩ := pr
        obtain ⟨p, rfl, hp⟩ := followT_in hv (by omega) hf
        simp only [if_true]
        by_cases hpe : p = e
        · subst hpe
          cases ht : isTradeT hs p
          · simp
          · simp [Nat.testBit_or, Nat.testBit_two_pow]
        · have : ¬ ((p : Int) = (e : Int)) := by omega
          split
          · simp [Nat.testBit_or, Nat.testBit_two_pow, hpe, this]
          · simp [this]
theorem mayT_bits {cs : List Cl} {hs : List Hd} (hv : Valid cs hs) (b : ByteArray) : mayT hs b = (nats hs.length).filter (fun e => (mayS hs b hs.length).testBit e.toNat) := by
  unfold mayT
  apply List.filter_congr
  intro e he
  obtain ⟨n, _, rfl⟩ := List.mem_map.mp he
  show _ = (mayS hs b hs.length).testBit (Int.ofNat n).toNat
  rw [show (Int.ofNat n).toNat = n from rfl, mayS_bit hv b n _ (Nat.le_refl _)]
  rfl

set_option maxHeartbeats 4000000 in
set_option maxRecDepth 100000 in
theorem may_any (g : Nat) (cs : List Cl) (hs : List Hd) (b : ByteArray) (w : World) (hL : IsList w g cs hs) (hv : Valid cs hs) :
    Calls Try.prog 53 #[.pointer (some ⟨g, 0, none⟩), .string b] w fun e w' => ∃ v, e = .returned v ∧ (Kd.int .i64).R 3 w' w.heap.size (fun _ => True) v (mayT hs b) ∧ Below w.heap.size w w' := by
  obtain ⟨m0, m1, -, -⟩ := hv.split
  have hu2 := Try.underlying26
  have hu3 := Try.underlying81
  have hu4 := Try.underlying39
  obtain ⟨i0, hi, hz0, hz1, hz2⟩ := info_parts info3'
  have HM := Lib.hid (mayT_bits hv b)
  obtain ⟨A0, c0, A1, c1, A2, c2, A3, c3, hg, l0, l1, r0, r1, r2, r3⟩ := hL.ok
  obtain ⟨g0, g1, g2, g3⟩ := cells4 hg
  have hLb := fun W (hW : Below w.heap.size w W) => hL.below hW
  have HF := fun (n : Nat) (hn : n < hs.length) W (hW : Below w.heap.size w W) => follow_any g cs hs n W (hL.below hW) hv hn
  have HT := fun (n : Nat) (hn : n < hs.length) W (hW : Below w.heap.size w W) => isTrade_any g cs hs n W (hL.below hW) hn
  obtain ⟨R, hR⟩ : ∃ R, mayT hs b = R := ⟨_, rfl⟩
  rw [hR] at HM ⊢
  clear hL hR
  go_enter Try.func53, Try.ntmps53
  go_wp2
  go_loopg [5, 19] hs.length (fun gk v5 v wr => ∃ k : Nat, k + gk = hs.length ∧ v = .int .i64 k ∧ v5 = .int .u8 (mayS hs b k : Int) ∧ Below w.heap.size w wr)
  case atStart => exact ⟨0, by omega, rfl, rfl, Below.refl _ _⟩
  case round =>
    obtain ⟨k, hk, rfl, rfl, hb⟩ := hrel
    by_cases hlt : k < hs.length
    · have hSl := mayS_lt hv b k (by omega)
      have HS : Hid (mayS hs b (k + 1) = mayStep hs b k (mayS hs b k)) := rfl
      obtain ⟨S, hS⟩ : ∃ S, mayS hs b k = S := ⟨_, rfl⟩
      rw [hS] at HS hSl ⊢
      clear hS
      obtain ⟨ad, A3', c3', e, h0, h1, h2, h3, h4, h5⟩ := hdAt r1 k hlt
      cases e
      obtain ⟨x, hx⟩ : ∃ x, hs.getD k zHd = x := ⟨_, rfl⟩
      rw [hx] at h0 h1 h2 h3 h4 h5
      replace h0 := pw_cell_below hb h0
      replace h1 := pw_cell_below hb h1
      replace h2 := pw_cell_below hb h2
      replace h3 := pw_cell_below hb h3
      have HP := fun W => strings_HasPrefix.calls x.f0 b _ W (hasPrefix_begins x.f0 b)
      have HS2 : Hid (mayS hs b (k + 1) = if begins x.f0 b = true then (match followT hs k with | none => S | some (e, _) => if isTradeT hs e = true then S ||| 2 ^ e.toNat else S) else S) := by
        show _ = _
        rw [HS.out]; unfold mayStep; rw [hx]
      clear HS hx
      obtain ⟨bb, hbb⟩ : ∃ bb, begins x.f0 b = bb := ⟨_, rfl⟩
      rw [hbb] at HS2
      simp only [hbb] at HP
      clear hbb
      cases bb with
      | false =>
        have HS3 : Hid (mayS hs b (k + 1) = S) := by show _ = _; rw [HS2.out]; rfl
        go_wp2_with (go_at_call 73; (with_reducible refine (HP _).mono ?_); rintro e w2 ⟨rfl, ⟨nd, rfl⟩⟩)
        go_roundg (hs.length - (k + 1))
        case measure => omega
        case rel => exact ⟨k + 1, by omega, by go_num, by rw [HS3.out], pw_below_drewN (hb.alloc hb.size _) _⟩
      | true =>
        have HF := fun W (hW : Below w.heap.size w W) => HF k hlt W hW
        have hbd := fun n o => pw_below_drewN (hb.alloc hb.size o) n
        cases hfe : followT hs k with
        | none =>
          have HS3 : Hid (mayS hs b (k + 1) = S) := by show _ = _; rw [HS2.out, hfe]; rfl
          rw [hfe] at HF
          simp only [followV] at HF
          clear HS2 hfe
          go_wp2_with (first
            | (go_at_call 73; (with_reducible refine (HP _).mono ?_); rintro e w2 ⟨rfl, ⟨nd, rfl⟩⟩)
            | (go_at_call 52; (with_reducible refine (HF _ (hbd _ _)).mono ?_); rintro e w3 ⟨rfl, hb3⟩; have HB3 := below_then (hbd _ _) (hbd _ _).size hb3; clear hb3))
          go_roundg (hs.length - (k + 1))
          case measure => omega
          case rel => exact ⟨k + 1, by omega, by go_num, by rw [HS3.out], HB3⟩
        | some pr =>
          obtain ⟨a, s⟩ := pr
          obtain ⟨p, rfl, hp⟩ := followT_in hv hlt hfe
          have HS3 : Hid (mayS hs b (k + 1) = if artB (hs.getD p zHd) = true then S ||| 2 ^ p else S) := by show _ = _; rw [HS2.out, hfe]; rfl
          have HT := fun W (hW : Below w.heap.size w W) => HT p hp W hW
          have HW := fun W => heads_with S p hSl (by omega) W
          rw [hfe] at HF
          simp only [followV] at HF
          obtain ⟨q, hq⟩ : ∃ q, artB (hs.getD p zHd) = q := ⟨_, rfl⟩
          rw [hq] at HS3
          simp only [hq] at HT
          clear HS2 hfe hq
          cases q with
          | true =>
            have HS4 : Hid (mayS hs b (k + 1) = S ||| 2 ^ p) := by show _ = _; rw [HS3.out]; rfl
            go_wp2_with (first
              | (go_at_call 73; (with_reducible refine (HP _).mono ?_); rintro e w2 ⟨rfl, ⟨nd, rfl⟩⟩)
              | (go_at_call 52; (with_reducible refine (HF _ (hbd _ _)).mono ?_); rintro e w3 ⟨rfl, hb3⟩; have HB3 := below_then (hbd _ _) (hbd _ _).size hb3; clear hb3)
              | (go_at_call 63; (with_reducible refine (HT _ HB3).mono ?_); rintro e w4 ⟨rfl, hb4⟩; have HB4 := below_then HB3 HB3.size hb4; clear hb4)
              | (go_at_call 74; (with_reducible refine (HW _).mono ?_); rintro e w5 ⟨rfl, rfl⟩))
            go_roundg (hs.length - (k + 1))
            case measure => omega
            case rel => exact ⟨k + 1, by omega, by go_num, by rw [HS4.out], HB4⟩
          | false =>
            have HS4 : Hid (mayS hs b (k + 1) = S) := by show _ = _; rw [HS3.out]; rfl
            go_wp2_with (first
              | (go_at_call 73; (with_reducible refine (HP _).mono ?_); rintro e w2 ⟨rfl, ⟨nd, rfl⟩⟩)
              | (go_at_call 52; (with_reducible refine (HF _ (hbd _ _)).mono ?_); rintro e w3 ⟨rfl, hb3⟩; have HB3 := below_then (hbd _ _) (hbd _ _).size hb3; clear hb3)
              | (go_at_call 63; (with_reducible refine (HT _ HB3).mono ?_); rintro e w4 ⟨rfl, hb4⟩; have HB4 := below_then HB3 HB3.size hb4; clear hb4))
            go_roundg (hs.length - (k + 1))
            case measure => omega
            case rel => exact ⟨k + 1, by omega, by go_num, by rw [HS4.out], HB4⟩
    · obtain rfl : k = hs.length := by omega
      have hSl := mayS_lt hv b hs.length (Nat.le_refl _)
      obtain ⟨S, hS⟩ : ∃ S, mayS hs b hs.length = S := ⟨_, rfl⟩
      rw [hS] at HM hSl ⊢
      clear hS HF HT hLb
      replace g1 := pw_cell_below hb g1
      obtain ⟨W2, hW2⟩ : ∃ W2, W2 = wr := ⟨_, rfl⟩
      subst hW2
      go_wp2
      go_loopg [11, 52] hs.length (fun gk v5 v wr => ∃ k : Nat, k + gk = hs.length ∧ v = .int .i64 k ∧ Below W2.heap.size W2 wr ∧ wr.ownsRow W2.heap.size 3 1 v5 ((nats k).filter (fun e => S.testBit e.toNat)).length (nums .i64 ((nats k).filter (fun e => S.testBit e.toNat))))
      case atStart => exact ⟨0, by omega, rfl, Below.refl _ _, own_nil _ _ _ _⟩
      case round =>
        obtain ⟨k, hk, rfl, hbq, ho⟩ := hrel
        by_cases hlt : k < hs.length
        · have HH := fun W => heads_has S k hSl (by omega) W
          have hfl := filter_len (fun e => S.testBit e.toNat) k
          obtain ⟨F, hF⟩ : ∃ F, (nats k).filter (fun e => S.testBit e.toNat) = F := ⟨_, rfl⟩
          have HF : Hid ((nats (k + 1)).filter (fun e => S.testBit e.toNat) = F ++ (if S.testBit k = true then [(k : Int)] else [])) := by
            show _ = _
            rw [nats_succ, filter_snoc, hF]; rfl
          rw [hF] at ho hfl
          clear hF
          obtain ⟨bt, hbq'⟩ : ∃ b, S.testBit k = b := ⟨_, rfl⟩
          rw [hbq'] at HF
          simp only [hbq'] at HH
          clear hbq'
          cases bt with
          | true =>
            have HG : Hid ((nats (k + 1)).filter (fun e => S.testBit e.toNat) = F ++ [(k : Int)]) := by show _ = _; rw [HF.out]; rfl
            clear HF
            go_wp2_with (first
              | (go_at_call 75; (with_reducible refine (HH _).mono ?_); rintro e w2 ⟨rfl, rfl⟩)
              | (at_builtin; refine wpList_append_own _ rfl _ _ 22 rfl W2.heap.size 3 i0 (.int .i64 0) 1 8 Try.underlying22 hi hz0 hz1 hz2 rfl (by decide) _ _ _ rfl (ho.alloc _) ⟨wr.heap.size, 0, none⟩ 1 1 [.int .i64 (k : Int)] rfl rfl (cell_one_new _ _ _) (by simp [Value.oneCell']) (by unfold maxLen; omega) (by omega) (by have := hbq.size; simp; omega) ?_; intro v' w3 hown3 hgrow3 _; have HB3 := Below.grown (hbq.alloc hbq.size _) hgrow3 (by have := hbq.size; simp; omega) (fun j hj => (ho.lt j hj).1); have HO := Lib.hid hown3; clear hown3 hgrow3))
            go_roundg (hs.length - (k + 1))
            case measure => omega
            case rel => exact ⟨k + 1, by omega, by go_num, HB3, by rw [HG.out, nums_append, List.length_append]; exact HO.out⟩
          | false =>
            have HG : Hid ((nats (k + 1)).filter (fun e => S.testBit e.toNat) = F) := by show _ = _; rw [HF.out]; exact List.append_nil _
            clear HF
            go_wp2_with (go_at_call 75; (with_reducible refine (HH _).mono ?_); rintro e w2 ⟨rfl, rfl⟩)
            go_roundg (hs.length - (k + 1))
            case measure => omega
            case rel => exact ⟨k + 1, by omega, by go_num, hbq, by rw [HG.out]; exact ho⟩
        · obtain rfl : k = hs.length := by omega
          rw [← HM.out] at ho
          have HR : Hid ((Kd.int .i64).R 3 wr W2.heap.size (fun _ => True) _ R) := Kd.R_of_own ho (fun _ _ => trivial)
          clear ho
          go_wp2
          go_ret
          exact ⟨_, rfl, Kd.R_lower HR.out hb.size, below_then hb hb.size hbq⟩

set_option maxHeartbeats 1000000 in
set_option maxRecDepth 100000 in
theorem trade_May.calls (A0_0 : Option Addr) (c0_0 : Nat) (l0_0 : List (S51)) (A0_1 : Option Addr) (c0_1 : Nat) (l0_1 : List (S39)) (a1 : ByteArray) (r1 : List Int) (r2 : Int) (w : World) (hr0_0 : Kd.C k51 w A0_0 l0_0.length l0_0) (hc0_0 : l0_0.length ≤ c0_0) (hr0_1 : Kd.C k39 w A0_1 l0_1.length l0_1) (hc0_1 : l0_1.length ≤ c0_1) (h : trade_May.f l0_0 l0_1 a1 = some (r1, r2)) :
    Calls Try.prog 19 #[.agg #[.slice A0_0 l0_0.length c0_0, .slice A0_1 l0_1.length c0_1], .string a1] w fun e w' => ∃ v0_ : Value, e = .returned (.tuple #[v0_, .int .i64 r2]) ∧ Kd.R (Kd.int .i64) 3 w' w.heap.size (fun _ => True) v0_ r1 ∧ Below w.heap.size w w' := by
  have hu2 := Try.underlying26
  have hB0 := (Below.refl w.heap.size w).alloc (Nat.le_refl _) (.cells #[.slice A0_0 l0_0.length c0_0, .slice A0_1 l0_1.length c0_1] 26)
  have h := Option.some.inj h
  by_cases hz : checkT l0_0 l0_1 = 0
  · have hv : Valid l0_0 l0_1 := ⟨hz⟩
    have HG := fun W (hW : Below w.heap.size w W) => begin_good A0_0 A0_1 c0_0 c0_1 l0_0 l0_1 W (Kd.C_below hr0_0 hW) (Kd.C_below hr0_1 hW) hc0_0 hc0_1 hv
    rw [if_neg (by omega)] at h
    simp only [Prod.mk.injEq] at h
    obtain ⟨rfl, rfl⟩ := h
    have HP := fun W g (hL : IsList W g l0_0 l0_1) => may_any g l0_0 l0_1 a1 W hL hv
    obtain ⟨R, hR⟩ : ∃ R, mayT l0_1 a1 = R := ⟨_, rfl⟩
    simp only [hR] at HP ⊢
    clear hz hR
    go_enter Try.func19, Try.ntmps19
    go_wp2_with (first
      | (go_at_call 42; (with_reducible refine (HG _ hB0).mono ?_); rintro e w1 ⟨g, rfl, hL1, hb1⟩; obtain ⟨HB1, hT1⟩ := one_box hb1; clear hb1)
      | (go_at_call 53; (with_reducible refine (HP _ _ hL1).mono ?_); rintro e w3 ⟨v, rfl, hR3, hb3⟩))
    go_ret2
    exact ⟨_, rfl, Kd.R_lower hR3 HB1.size, below_then HB1 HB1.size hb3⟩
  · rw [if_pos hz] at h
    simp only [Prod.mk.injEq] at h
    obtain ⟨rfl, rfl⟩ := h
    have HG := fun W (hW : Below w.heap.size w W) => begin_bad A0_0 A0_1 c0_0 c0_1 l0_0 l0_1 W (Kd.C_below hr0_0 hW) (Kd.C_below hr0_1 hW) hc0_0 hc0_1 hz
    obtain ⟨z, hze⟩ : ∃ z, checkT l0_0 l0_1 = z := ⟨_, rfl⟩
    simp only [hze] at HG hz ⊢
    have hz1 : (z != 0) = true := bne_iff_ne.mpr hz
    clear hz hze
    go_enter Try.func19, Try.ntmps19
    go_wp2_with (go_at_call 42; (with_reducible refine (HG _ hB0).mono ?_); rintro e w1 ⟨rfl, hb1⟩; obtain ⟨HB1, hT1⟩ := one_box hb1; clear hb1)
    go_ret2
    exact ⟨_, rfl, Kd.R_nil _ _ _ _ _, HB1⟩
end Go.Proofs.Ytfbimhnlcmdcpaa.Pa
/- The contracts of short and Short. -/
namespace Go.Proofs.Ytfbimhnlcmdcpaa.Pa
open Go.RowKit Go.Proofs.YtfbimhnlcmdcpaaW.PrintWords Go.Proofs.YtfbimhnlcmdcpaaW.PrintLast Go.Proofs.YtfbimhnlcmdcpaaW.PrintMore
set_option linter.unusedVariables false
set_option linter.unusedSimpArgs false

/-- the shortest beginning, of i bytes or more, that means just one trade -/
def shortGo (hs : List Hd) (s : ByteArray) : Nat → Nat → Option ByteArray
  | 0, _ => if (mayT hs s).length = 1 then some s else none
  | m + 1, i => if (mayT hs (s.extract 0 i)).length = 1 then some (s.extract 0 i) else shortGo hs s m (i + 1)
def shortT (hs : List Hd) (h : Int) : Option ByteArray := shortGo hs (hs.getD h.toNat zHd).f0 (hs.getD h.toNat zHd).f0.size 0
def shortR (r : Option ByteArray) : ByteArray × Int := match r with
  | none => (.empty, 11)
  | some s => (s, 0)
def trade_Short.f (cs : List Cl) (hs : List Hd) (h : Int) : Option (ByteArray × Int) :=
  some (if askT cs hs h ≠ 0 then (.empty, askT cs hs h) else shortR (shortT hs h))
theorem shortGo_zero (hs : List Hd) (s : ByteArray) (i : Nat) : shortGo hs s 0 i = if (mayT hs s).length = 1 then some s else none := rfl
theorem shortGo_succ (hs : List Hd) (s : ByteArray) (m i : Nat) : shortGo hs s (m + 1) i = if (mayT hs (s.extract 0 i)).length = 1 then some (s.extract 0 i) else shortGo hs s m (i + 1) := rfl
def shortV (s : ByteArray) (r : Option ByteArray) : Value := match r with
  | none => .tuple #[.string s, .bool false]
  | some x => .tuple #[.string x, .bool true]

theorem word_ascii {s : ByteArray} (h : wordOk s = true) (pos : Nat) (hp : pos < s.size) : Utf8.decode s pos = (((s[pos]'hp).toNat), 1) := by
  have ha : (s[pos]'hp).toNat < 128 := by
    unfold wordOk at h
    simp only [Bool.and_eq_true, List.all_eq_true] at h
    have := h.2 (s[pos]'hp) (by
      have hd := drop_data s pos hp
      have : s[pos]'hp ∈ s.data.toList.drop pos := by rw [hd]; simp
      exact List.mem_of_mem_drop this)
    unfold lowB at this
    simp only [Bool.and_eq_true, decide_eq_true_eq] at this
    omega
  rw [decode_ascii s pos hp ha]

set_option maxHeartbeats 4000000 in
set_option maxRecDepth 100000 in
theorem short_any (g : Nat) (cs : List Cl) (hs : List Hd) (h : Nat) (w : World) (hL : IsList w g cs hs) (hv : Valid cs hs) (hh : h < hs.length) :
    Calls Try.prog 62 #[.pointer (some ⟨g, 0, none⟩), .int .i64 h] w fun e w' => e = .returned (shortV (hs.getD h zHd).f0 (shortT hs h)) ∧ Below w.heap.size w w' := by
  have hu2 := Try.underlying26
  have hu3 := Try.underlying81
  have hu4 := Try.underlying39
  have hgd := hv.head h hh
  have HM := fun b W (hW : Below w.heap.size w W) => may_any g cs hs b W (hL.below hW) hv
  have HR : Hid (shortT hs h = shortGo hs (hs.getD h zHd).f0 (hs.getD h zHd).f0.size 0) := rfl
  obtain ⟨R, hR⟩ : ∃ R, shortT hs h = R := ⟨_, rfl⟩
  rw [hR] at HR ⊢
  obtain ⟨A0, c0, A1, c1, A2, c2, A3, c3, hg, l0, l1, r0, r1, r2, r3⟩ := hL.ok
  obtain ⟨g0, g1, g2, g3⟩ := cells4 hg
  obtain ⟨ad, A3', c3', e, h0, h1, h2, h3, h4, h5⟩ := hdAt r1 h hh
  cases e
  obtain ⟨x, hx⟩ : ∃ x, hs.getD h zHd = x := ⟨_, rfl⟩
  rw [hx] at h0 h1 h2 h3 h4 h5 hgd HR ⊢
  have hw := hgd.word
  obtain ⟨s, hse⟩ : ∃ s, x.f0 = s := ⟨_, rfl⟩
  rw [hse] at h0 hw HR ⊢
  have HD := fun pos hp => Lib.hid (word_ascii hw pos hp)
  have hsz : s.size ≤ 12 := by
    unfold wordOk at hw
    simp only [Bool.and_eq_true, decide_eq_true_eq] at hw
    omega
  clear hL hR hgd hx hse hw
  go_enter Try.func62, Try.ntmps62
  go_wp2
  go_loopg [5] s.size (fun gk v wr => ∃ i : Nat, v = .bool false ∧ i + gk = s.size ∧ wr.heap[w.heap.size]? = some (.stringIter s i) ∧ Below w.heap.size w wr ∧ Hid (shortGo hs s gk i = R))
  case atStart => exact ⟨0, rfl, by omega, World.iter_heap w s 0, (Below.refl _ _).alloc (Nat.le_refl _) _, by show _ = _; exact HR.out.symm⟩
  case round =>
    obtain ⟨i, rfl, hi, hit, hbw, HK⟩ := hrel
    by_cases hp : i < s.size
    · obtain ⟨m, rfl⟩ : ∃ m, gk = m + 1 := ⟨gk - 1, by omega⟩
      rw [shortGo_succ] at HK
      have hnx : ∀ ty, (Instr.next (.pointer (some ⟨w.heap.size, 0, none⟩)) true ty).run Try.prog wr = _ := fun ty => Lib.run_next_any_at wr w.heap.size s i ty hit hp
      have hde := (HD i hp).out
      rw [hde] at hnx
      have hit2 := Lib.iterAt_heap wr w.heap.size s i (i + 1) hit
      have hbw2 := Lib.below_iterAt hbw (k := w.heap.size) (Nat.le_refl _) s (i + 1)
      obtain ⟨W1, hW1⟩ : ∃ W1, W1 = wr.iterAt w.heap.size s (i + 1) := ⟨_, rfl⟩
      rw [← hW1] at hnx hit2 hbw2
      have HM := HM (s.extract 0 i) W1 hbw2
      have hile : (i : Int) ≤ s.size := by omega
      have hi0 : (0 : Int) ≤ i := by omega
      clear hW1 hit hbw hde
      obtain ⟨T, hT⟩ : ∃ T, mayT hs (s.extract 0 i) = T := ⟨_, rfl⟩
      rw [hT] at HM HK
      clear hT
      by_cases h1 : T.length = 1
      · rw [if_pos h1] at HK
        have h1a : ((T.length : Int) == 1) = true := beq_iff_eq.mpr (by omega)
        have HV : Hid (shortV s R = .tuple #[.string (s.extract 0 i), .bool true]) := by show _ = _; rw [← HK.out]; rfl
        clear h1 HK
        go_wp2_with (go_at_call 53; (with_reducible refine HM.mono ?_); rintro e w3 ⟨v, rfl, hR3, hb3⟩; obtain ⟨Ar, cr, rfl, -, -⟩ := Kd.R_reads hR3; have HB3 := below_then hbw2 hbw2.size hb3; clear hR3)
        go_ret2
        exact ⟨by rw [HV.out]; rfl, HB3⟩
      · rw [if_neg h1] at HK
        have h1a : ((T.length : Int) == 1) = false := beq_eq_false_iff_ne.mpr (by omega)
        clear h1
        go_wp2_with (go_at_call 53; (with_reducible refine HM.mono ?_); rintro e w3 ⟨v, rfl, hR3, hb3⟩; obtain ⟨Ar, cr, rfl, -, -⟩ := Kd.R_reads hR3; have HB3 := below_then hbw2 hbw2.size hb3; have hit3 := blk_below hit2 hb3; clear hR3)
        go_roundg m
        case measure => omega
        case rel => exact ⟨i + 1, rfl, by omega, hit3, HB3, HK⟩
    · obtain rfl : i = s.size := by omega
      obtain rfl : gk = 0 := by omega
      rw [shortGo_zero] at HK
      have hnx : ∀ ty, (Instr.next (.pointer (some ⟨w.heap.size, 0, none⟩)) true ty).run Try.prog wr = _ := fun ty => Lib.run_next_end_at wr w.heap.size s s.size ty hit hp
      have HM := HM s wr hbw
      obtain ⟨T, hT⟩ : ∃ T, mayT hs s = T := ⟨_, rfl⟩
      rw [hT] at HM HK
      have HV : Hid (shortV s R = .tuple #[.string s, .bool ((T.length : Int) == 1)]) := by
        show _ = _
        rw [← HK.out]
        by_cases h1 : T.length = 1
        · rw [if_pos h1, h1]; rfl
        · have h1a : ((T.length : Int) == 1) = false := beq_eq_false_iff_ne.mpr (by omega)
          rw [if_neg h1, h1a]; rfl
      clear hT HK
      go_wp2_with (go_at_call 53; (with_reducible refine HM.mono ?_); rintro e w3 ⟨v, rfl, hR3, hb3⟩; obtain ⟨Ar, cr, rfl, -, -⟩ := Kd.R_reads hR3; have HB3 := below_then hbw hbw.size hb3; clear hR3)
      go_ret2
      exact ⟨by rw [HV.out]; rfl, HB3⟩

set_option maxHeartbeats 1000000 in
set_option maxRecDepth 100000 in
theorem trade_Short.calls (A0_0 : Option Addr) (c0_0 : Nat) (l0_0 : List (S51)) (A0_1 : Option Addr) (c0_1 : Nat) (l0_1 : List (S39)) (a1 : Int) (r1 : ByteArray) (r2 : Int) (w : World) (hr0_0 : Kd.C k51 w A0_0 l0_0.length l0_0) (hc0_0 : l0_0.length ≤ c0_0) (hr0_1 : Kd.C k39 w A0_1 l0_1.length l0_1) (hc0_1 : l0_1.length ≤ c0_1) (h : trade_Short.f l0_0 l0_1 a1 = some (r1, r2)) :
    Calls Try.prog 27 #[.agg #[.slice A0_0 l0_0.length c0_0, .slice A0_1 l0_1.length c0_1], .int .i64 a1] w fun e w' => e = .returned (.tuple #[.string r1, .int .i64 r2]) ∧ Below w.heap.size w w' := by
  have hu2 := Try.underlying26
  have hB0 := (Below.refl w.heap.size w).alloc (Nat.le_refl _) (.cells #[.slice A0_0 l0_0.length c0_0, .slice A0_1 l0_1.length c0_1] 26)
  have hB1 := hB0.alloc hB0.size (.cells #[.int .i64 a1] 3)
  have hcq := second_cell w (.cells #[.slice A0_0 l0_0.length c0_0, .slice A0_1 l0_1.length c0_1] 26) (.int .i64 a1)
  have h := Option.some.inj h
  by_cases hz : askT l0_0 l0_1 a1 = 0
  · obtain ⟨hv, n, rfl, hn⟩ := askT_zero hz
    have HG := fun W q (hW : Below w.heap.size w W) hq => ask_good A0_0 A0_1 c0_0 c0_1 l0_0 l0_1 q n W (Kd.C_below hr0_0 hW) (Kd.C_below hr0_1 hW) hc0_0 hc0_1 hq hv hn
    have HF := fun W g (hL : IsList W g l0_0 l0_1) => short_any g l0_0 l0_1 n W hL hv hn
    rw [if_neg (by omega)] at h
    obtain ⟨R, hRe⟩ : ∃ R, shortT l0_1 n = R := ⟨_, rfl⟩
    rw [hRe] at h
    simp only [hRe] at HF
    clear hz hRe
    match R, h with
    | none, hR =>
      simp only [shortR, Prod.mk.injEq] at hR
      obtain ⟨rfl, rfl⟩ := hR
      simp only [shortV] at HF
      go_enter Try.func27, Try.ntmps27
      go_wp2_with (first
        | (go_at_call 51; (with_reducible refine (HG _ _ hB1 hcq).mono ?_); rintro e w1 ⟨g, rfl, hL1, hb1⟩; obtain HB1 := below_then hB1 hB1.size hb1; clear hb1)
        | (go_at_call 62; (with_reducible refine (HF _ _ hL1).mono ?_); rintro e w3 ⟨rfl, hb3⟩))
      go_ret2
      exact ⟨rfl, below_then HB1 HB1.size hb3⟩
    | some s, hR =>
      simp only [shortR, Prod.mk.injEq] at hR
      obtain ⟨rfl, rfl⟩ := hR
      simp only [shortV] at HF
      go_enter Try.func27, Try.ntmps27
      go_wp2_with (first
        | (go_at_call 51; (with_reducible refine (HG _ _ hB1 hcq).mono ?_); rintro e w1 ⟨g, rfl, hL1, hb1⟩; obtain HB1 := below_then hB1 hB1.size hb1; clear hb1)
        | (go_at_call 62; (with_reducible refine (HF _ _ hL1).mono ?_); rintro e w3 ⟨rfl, hb3⟩))
      go_ret2
      exact ⟨rfl, below_then HB1 HB1.size hb3⟩
  · have HG := fun W q (hW : Below w.heap.size w W) hq => ask_bad A0_0 A0_1 c0_0 c0_1 l0_0 l0_1 q a1 W (Kd.C_below hr0_0 hW) (Kd.C_below hr0_1 hW) hc0_0 hc0_1 hq hz
    rw [if_pos hz] at h
    obtain ⟨z, hze⟩ : ∃ z, askT l0_0 l0_1 a1 = z := ⟨_, rfl⟩
    rw [hze] at h hz
    simp only [Prod.mk.injEq] at h
    obtain ⟨rfl, rfl⟩ := h
    simp only [hze] at HG
    have hz1 : (z != 0) = true := bne_iff_ne.mpr hz
    clear hz hze
    go_enter Try.func27, Try.ntmps27
    go_wp2_with (go_at_call 51; (with_reducible refine (HG _ _ hB1 hcq).mono ?_); rintro e w1 ⟨rfl, hb1⟩; obtain HB1 := below_then hB1 hB1.size hb1; clear hb1)
    go_ret2
    exact ⟨rfl, HB1⟩
end Go.Proofs.Ytfbimhnlcmdcpaa.Pa
