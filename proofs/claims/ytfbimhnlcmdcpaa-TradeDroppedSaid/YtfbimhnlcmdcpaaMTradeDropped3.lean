/- A part of the proof: After Drop the trades are valid and the heading is not there, each other trade remains, no reference is lost whose two headings remain, and a heading to which none refers goes alone: for all lists of numbers. Without conditions of its own. -/
import Derived.Test.YtfbimhnlcmdcpaaMTradeDropped2
import Derived.Laws.MakeOwn
import Derived.Deep.RegionHeld
import Derived.Lib.SliceRun
import Derived.Deep.RegionLaw
import Derived.BigRegion
/- The contracts of next, trades and nets. -/
namespace Go.Proofs.Ytfbimhnlcmdcpaa.Pa
open Go.RowKit Go.Proofs.YtfbimhnlcmdcpaaW.PrintWords Go.Proofs.YtfbimhnlcmdcpaaW.PrintLast Go.Proofs.YtfbimhnlcmdcpaaW.PrintMore
set_option linter.unusedVariables false
set_option linter.unusedSimpArgs false

/-- to which headings one can go in one step -/
def nextT (x : Hd) : List Int := if x.f2 ≠ -1 then [x.f2] else x.f3

theorem next_art (cl : Int) (A : Option Addr) (n c : Nat) (w : World) :
    Calls Try.prog 140 #[.agg #[.int .i64 cl, .slice A n c]] w fun e w' => e = .returned (.slice A n c) ∧ Below w.heap.size w w' := by
  have hu5 := Try.underlying103
  have hB0 := (Below.refl w.heap.size w).alloc (Nat.le_refl _) (.cells #[.int .i64 cl, .slice A n c] 103)
  go_enter Try.func140, Try.ntmps140
  go_wp2
  go_ret
  exact ⟨rfl, hB0⟩
theorem next_idx (A : Option Addr) (n c : Nat) (w : World) :
    Calls Try.prog 142 #[.agg #[.slice A n c]] w fun e w' => e = .returned (.slice A n c) ∧ Below w.heap.size w w' := by
  have hu5 := Try.underlying115
  have hB0 := (Below.refl w.heap.size w).alloc (Nat.le_refl _) (.cells #[.slice A n c] 115)
  go_enter Try.func142, Try.ntmps142
  go_wp2
  go_ret
  exact ⟨rfl, hB0⟩
theorem C_int1 {w : World} {g : Nat} {x : Int} (h : w.cell? ⟨g, 0, none⟩ = some (.int .i64 x)) : (Kd.int .i64).C w (some ⟨g, 0, none⟩) 1 [x] := by
  refine ⟨rfl, by decide, fun _ => ⟨_, rfl, fun j p hj => ?_⟩⟩
  have hj0 : j = 0 := by
    have := (List.getElem?_eq_some_iff.1 hj).1
    simp at this
    exact this
  subst hj0
  obtain rfl : x = p := by simpa using hj
  refine ⟨[.int .i64 x], rfl, rfl, fun i u hu => ?_⟩
  have hi0 : i = 0 := by
    have := (List.getElem?_eq_some_iff.1 hu).1
    simp at this
    exact this
  subst hi0
  obtain rfl : Value.int .i64 x = u := by simpa using hu
  exact h
theorem next_ptr (s : Int) (w : World) :
    Calls Try.prog 141 #[.agg #[.int .i64 s]] w fun e w' => ∃ g, e = .returned (.slice (some ⟨g, 0, none⟩) 1 1) ∧ w.heap.size ≤ g ∧ g < w'.heap.size ∧ w'.cell? ⟨g, 0, none⟩ = some (.int .i64 s) ∧ Below w.heap.size w w' := by
  have hu5 := Try.underlying113
  have hB0 := (Below.refl w.heap.size w).alloc (Nat.le_refl _) (.cells #[.int .i64 s] 113)
  have hB1 := hB0.alloc hB0.size (.cells #[.int .i64 s] 3)
  have hcq := second_cell w (.cells #[.int .i64 s] 113) (.int .i64 s)
  go_enter Try.func141, Try.ntmps141
  go_wp2
  go_ret
  exact ⟨_, rfl, by omega, by simp, hcq, hB1⟩

theorem meth_ptr (n : Nat) (v : Value) (W : World) : Sem.run Try.prog (method (n + 1) 113 v "wayzgoose/trade.next") W = .ok (141, v) W := by kernel_rfl
theorem meth_art (n : Nat) (v : Value) (W : World) : Sem.run Try.prog (method (n + 1) 103 v "wayzgoose/trade.next") W = .ok (140, v) W := by kernel_rfl
theorem meth_idx (n : Nat) (v : Value) (W : World) : Sem.run Try.prog (method (n + 1) 115 v "wayzgoose/trade.next") W = .ok (142, v) W := by kernel_rfl

/-- a method next, in one word: what is read of its result stays so while block B alone is written -/
def NextOk (w : World) (B : Nat) (L : List Int) (f : FuncId) (pv : Value) : Prop :=
  ∀ W : World, Below w.heap.size w W → B < W.heap.size → Calls Try.prog f #[pv] W fun e w' => ∃ A c, e = .returned (.slice A L.length c) ∧ Below W.heap.size W w' ∧ ∀ W' : World, w'.grownBy W' (some B) → (Kd.int .i64).C W' A L.length L
theorem next_any {w : World} {x : Hd} {v : Value} (h : KindVal w x v) (B : Nat) (hB : w.heap.size ≤ B) :
    (x.f2 ≠ -1 ∧ ∃ pv, v = .iface 113 pv ∧ NextOk w B (nextT x) 141 pv) ∨ (x.f2 = -1 ∧ x.f1 ≠ -1 ∧ ∃ pv, v = .iface 103 pv ∧ NextOk w B (nextT x) 140 pv) ∨ (x.f2 = -1 ∧ x.f1 = -1 ∧ ∃ pv, v = .iface 115 pv ∧ NextOk w B (nextT x) 142 pv) := by
  have keep : ∀ {W w' W' : World}, Below w.heap.size w W → Below W.heap.size W w' → w'.grownBy W' (some B) → Below w.heap.size w W' := fun hW hw hg =>
    (below_then hW hW.size hw).grown hg (below_then hW hW.size hw).size (fun j hj => by cases hj; exact hB)
  rcases h with ⟨k1, rfl⟩ | ⟨k1, k2, B3, d3, rfl, k3, k4⟩ | ⟨k1, k2, B3, d3, rfl, k3, k4⟩
  · refine .inl ⟨k1, _, rfl, fun W hW hBW => (next_ptr x.f2 W).mono ?_⟩
    rintro e w' ⟨g, rfl, hg0, hg1, hgc, hb⟩
    have hL : nextT x = [x.f2] := if_pos k1
    rw [hL]
    refine ⟨_, _, rfl, hb, fun W' hg => C_int1 ((hg.cell_far ⟨g, 0, none⟩ hg1 (fun e => ?_)).trans hgc)⟩
    have e2 : g = B := by simpa using e
    omega
  · refine .inr (.inl ⟨k1, k2, _, rfl, fun W hW hBW => (next_art x.f1 B3 x.f3.length d3 W).mono ?_⟩)
    rintro e w' ⟨rfl, hb⟩
    have hL : nextT x = x.f3 := if_neg (by omega)
    rw [hL]
    exact ⟨_, _, rfl, hb, fun W' hg => Kd.C_below k4 (keep hW hb hg)⟩
  · refine .inr (.inr ⟨k1, k2, _, rfl, fun W hW hBW => (next_idx B3 x.f3.length d3 W).mono ?_⟩)
    rintro e w' ⟨rfl, hb⟩
    have hL : nextT x = x.f3 := if_neg (by omega)
    rw [hL]
    exact ⟨_, _, rfl, hb, fun W' hg => Kd.C_below k4 (keep hW hb hg)⟩
theorem nextT_in {cs : List Cl} {hs : List Hd} (hv : Valid cs hs) (k : Nat) (hk : k < hs.length) (j : Nat) (hj : j < (nextT (hs.getD k zHd)).length) : ∃ p : Nat, (nextT (hs.getD k zHd)).getD j 0 = p ∧ p < hs.length := by
  have hg := hv.head k hk
  obtain ⟨x, hx⟩ : ∃ x, hs.getD k zHd = x := ⟨_, rfl⟩
  rw [hx] at hg hj ⊢
  unfold nextT at hj ⊢
  by_cases h : x.f2 ≠ -1
  · rw [if_pos h] at hj ⊢
    have h0 : j = 0 := by simpa using hj
    subst h0
    have := hg.see
    exact ⟨x.f2.toNat, by simp; omega, by omega⟩
  · rw [if_neg h] at hj ⊢
    have := (hg.also j hj).1
    exact ⟨(x.f3.getD j 0).toNat, by omega, by omega⟩

/-! ### trades -/
def tradesS (hs : List Hd) : Nat → Nat
  | 0 => 0
  | k + 1 => if artB (hs.getD k zHd) = true then tradesS hs k ||| 2 ^ k else tradesS hs k
theorem tradesS_lt (hs : List Hd) : ∀ k, k ≤ 6 → tradesS hs k < 256
  | 0, _ => by show 0 < 256; omega
  | k + 1, hk => by
    have ih := tradesS_lt hs k (by omega)
    show (if _ then _ else _) < 256
    split
    · exact or_lt _ _ ih (by omega)
    · exact ih
set_option maxHeartbeats 1000000 in
set_option maxRecDepth 100000 in
theorem trades_any (g : Nat) (cs : List Cl) (hs : List Hd) (w : World) (hL : IsList w g cs hs) (hv : Valid cs hs) :
    Calls Try.prog 86 #[.pointer (some ⟨g, 0, none⟩)] w fun e w' => e = .returned (.int .u8 (tradesS hs hs.length)) ∧ Below w.heap.size w w' := by
  obtain ⟨m0, m1, -, -⟩ := hv.split
  have hu3 := Try.underlying81
  obtain ⟨A0, c0, A1, c1, A2, c2, A3, c3, hg, l0, l1, r0, r1, r2, r3⟩ := hL.ok
  obtain ⟨g0, g1, g2, g3⟩ := cells4 hg
  have HT := fun (n : Nat) (hn : n < hs.length) W (hW : Below w.heap.size w W) => isTrade_any g cs hs n W (hL.below hW) hn
  clear hL
  go_enter Try.func86, Try.ntmps86
  go_wp2
  go_loopg [3, 10] hs.length (fun gk v3 v wr => ∃ k : Nat, k + gk = hs.length ∧ v = .int .i64 k ∧ v3 = .int .u8 (tradesS hs k : Int) ∧ Below w.heap.size w wr)
  case atStart => exact ⟨0, by omega, rfl, rfl, Below.refl _ _⟩
  case round =>
    obtain ⟨k, hk, rfl, rfl, hb⟩ := hrel
    by_cases hlt : k < hs.length
    · have hSl := tradesS_lt hs k (by omega)
      have HS : Hid (tradesS hs (k + 1) = if artB (hs.getD k zHd) = true then tradesS hs k ||| 2 ^ k else tradesS hs k) := rfl
      have HT := HT k hlt
      have HW := fun W => heads_with (tradesS hs k) k hSl (by omega) W
      obtain ⟨S, hS⟩ : ∃ S, tradesS hs k = S := ⟨_, rfl⟩
      obtain ⟨q, hq⟩ : ∃ q, artB (hs.getD k zHd) = q := ⟨_, rfl⟩
      rw [hS, hq] at HS
      simp only [hS] at HW
      simp only [hq] at HT
      rw [hS]
      clear hS hq
      cases q with
      | true =>
        have HS4 : Hid (tradesS hs (k + 1) = S ||| 2 ^ k) := by show _ = _; rw [HS.out]; rfl
        go_wp2_with (first
          | (go_at_call 63; (with_reducible refine (HT _ hb).mono ?_); rintro e w4 ⟨rfl, hb4⟩; have HB4 := below_then hb hb.size hb4; clear hb4)
          | (go_at_call 74; (with_reducible refine (HW _).mono ?_); rintro e w5 ⟨rfl, rfl⟩))
        go_roundg (hs.length - (k + 1))
        case measure => omega
        case rel => exact ⟨k + 1, by omega, by go_num, by rw [HS4.out], HB4⟩
      | false =>
        have HS4 : Hid (tradesS hs (k + 1) = S) := by show _ = _; rw [HS.out]; rfl
        go_wp2_with (go_at_call 63; (with_reducible refine (HT _ hb).mono ?_); rintro e w4 ⟨rfl, hb4⟩; have HB4 := below_then hb hb.size hb4; clear hb4)
        go_roundg (hs.length - (k + 1))
        case measure => omega
        case rel => exact ⟨k + 1, by omega, by go_num, by rw [HS4.out], HB4⟩
    · obtain rfl : k = hs.length := by omega
      go_wp2
      go_ret
      exact ⟨rfl, hb⟩

/-! ### nets -/
def addAll (s : Nat) (l : List Int) : Nat := l.foldl (fun s n => s ||| 2 ^ n.toNat) s
/-- the nets of the first k headings, and of the first j references of heading k -/
def stN (hs : List Hd) (k j : Nat) (i : Nat) : Nat := if i < k then addAll 0 (nextT (hs.getD i zHd)) else if i = k then addAll 0 ((nextT (hs.getD k zHd)).take j) else 0
def upd (st : Nat → Nat) (h v : Nat) (i : Nat) : Nat := if i = h then v else st i
def netCells (st : Nat → Nat) : Array Value := #[.int .u8 (st 0), .int .u8 (st 1), .int .u8 (st 2), .int .u8 (st 3), .int .u8 (st 4), .int .u8 (st 5)]
theorem addAll_lt (l : List Int) (h : ∀ n, n ∈ l → n < 8) : ∀ s, s < 256 → addAll s l < 256 := by
  induction l with
  | nil => exact fun s hs => hs
  | cons a l ih =>
    intro s hs
    show addAll (s ||| 2 ^ a.toNat) l < 256
    refine ih (fun n hn => h n (List.mem_cons_of_mem _ hn)) _ (or_lt _ _ hs ?_)
    have := h a List.mem_cons_self
    omega
theorem six {P : Nat → Prop} (h0 : P 0) (h1 : P 1) (h2 : P 2) (h3 : P 3) (h4 : P 4) (h5 : P 5) : ∀ h, h < 6 → P h
  | 0, _ => h0 | 1, _ => h1 | 2, _ => h2 | 3, _ => h3 | 4, _ => h4 | 5, _ => h5 | n + 6, h => by omega
theorem netCells_get {w : World} {b : Nat} {st : Nat → Nat} {t : TypeId} (hb : w.heap[b]? = some (.cells (netCells st) t (0, 0))) : ∀ h, h < 6 → w.cell? ⟨b, h, none⟩ = some (.int .u8 (st h)) := by
  apply six <;> (simp [World.cell?, hb, netCells])
theorem netCells_set {w : World} {b : Nat} {st : Nat → Nat} {t : TypeId} (hb : w.heap[b]? = some (.cells (netCells st) t (0, 0))) (v : Nat) : ∀ h, h < 6 → (w.setCell ⟨b, h, none⟩ (.int .u8 v)).heap[b]? = some (.cells (netCells (upd st h v)) t (0, 0)) := by
  apply six <;> (simp [World.setCell, Array.getElem?_modify, hb, netCells, upd])

end Go.Proofs.Ytfbimhnlcmdcpaa.Pa
/- Rows of numbers in blocks of their own; make. -/
namespace Go.Proofs.Ytfbimhnlcmdcpaa.Pa
open Go.RowKit Go.Proofs.YtfbimhnlcmdcpaaW.PrintWords Go.Proofs.YtfbimhnlcmdcpaaW.PrintLast Go.Proofs.YtfbimhnlcmdcpaaW.PrintMore
set_option linter.unusedVariables false
set_option linter.unusedSimpArgs false

theorem made_one (v : Value) (n : Nat) : madeCells #[v] (n * 1) = (List.replicate n v).toArray := by
  apply Array.ext
  · simp [size_madeCells]
  · intro i h1 h2
    simp [madeCells, Nat.mod_one]
theorem mk_ints (n : Nat) (hn : n ≤ 1000) (W : World) : (Instr.makeSlice 22 (.int .i64 n) (.int .i64 n)).run Try.prog W = .ok (.slice (some ⟨W.heap.size, 0, none⟩) n n) (W.alloc (.cells (List.replicate n (.int .i64 0)).toArray 3)) := by
  obtain ⟨i0, hi, hz0, hz1, hz2⟩ := info_parts info3'
  have h := run_make (P := Try.prog) W 22 3 i0 (.int .i64 0) Try.underlying22 hi hz0 .i64 .i64 n n (by omega) (Int.le_refl _) (by rw [hz2]; omega) (by omega)
  rw [hz1] at h
  simp only [Int.toNat_natCast] at h
  rw [h, show (Value.int .i64 0).cells = #[Value.int .i64 0] from rfl, made_one]
def intV (l : List Int) : Array Value := (l.map (Value.int .i64)).toArray
theorem intV_set (l : List Int) (i : Nat) (x : Int) : (intV l).setIfInBounds i (.int .i64 x) = intV (l.set i x) := by simp [intV, List.map_set]
theorem intV_get (l : List Int) (i : Nat) (hi : i < l.length) : (intV l)[i]? = some (.int .i64 (l.getD i 0)) := by simp [intV, hi]
end Go.Proofs.Ytfbimhnlcmdcpaa.Pa
/- Regions that draw their order: loads are taken first under a condition S on the world, shown anew behind each operation but those of a list M, which wait for all that is taken first. -/
namespace Go.Proofs.Ytfbimhnlcmdcpaa.Pa
open Go
section
variable {P : Program} {ops : Array Oper} {Q : Exit → Act → World → Prop} {md : Region.Mode} {S S' : World → Prop} {M : List Nat}

def wpAnyM (P : Program) (md : Region.Mode) (ops : Array Oper) (Q : Exit → Act → World → Prop) (S : World → Prop) (M : List Nat) : Nat → Array Bool → Act → World → Prop
  | 0, listed, a, w => Region.ready md ops listed = [] ∧ Q .normal a w
  | fuel + 1, listed, a, w =>
    (Region.ready md ops listed = [] → Q .normal a w) ∧
    ∀ i ∈ Region.ready md ops listed, wpOp P ops Q i (fun a' w' => (i ∉ M → S w') ∧ wpAnyM P md ops Q S M fuel (listed.setIfInBounds i true) a' w') a w

theorem wpAny_of_M : ∀ (fuel : Nat) (listed : Array Bool) (a : Act) (w : World), wpAnyM P md ops Q S M fuel listed a w → wpAny P md ops Q fuel listed a w
  | 0, _, _, _, h => h
  | fuel + 1, _, _, _, h => ⟨h.1, fun i hi => wpOp_mono (fun a' w' h' => wpAny_of_M fuel _ a' w' h'.2) (h.2 i hi)⟩

/-- More may be said of the world from here on. -/
theorem wpAnyM_more (hS : ∀ w, S' w → S w) : ∀ (fuel : Nat) (listed : Array Bool) (a : Act) (w : World), wpAnyM P md ops Q S' M fuel listed a w → wpAnyM P md ops Q S M fuel listed a w
  | 0, _, _, _, h => h
  | fuel + 1, _, _, _, h => ⟨h.1, fun i hi => wpOp_mono (fun a' w' h' => ⟨fun hne => hS _ (h'.1 hne), wpAnyM_more hS fuel _ a' w' h'.2⟩) (h.2 i hi)⟩

/-- Operation m waits for operation i. -/
def waitsFor (md : Region.Mode) (ops : Array Oper) (m i : Nat) : Bool :=
  match ops[m]? with
  | none => true
  | some o => o.after.any (fun e => Region.binds md e && e.on == i)

theorem not_ready {m i : Nat} (hw : waitsFor md ops m i = true) {listed : Array Bool} (hi : listed.getD i true = false) : m ∉ Region.ready md ops listed := by
  intro hm
  obtain ⟨_, om, hom, hall⟩ := mem_ready.1 hm
  unfold waitsFor at hw
  rw [hom] at hw
  obtain ⟨e, he, hb⟩ := Array.any_eq_true'.1 hw
  simp only [Bool.and_eq_true, beq_iff_eq] at hb
  have h1 := hall e he hb.1
  have h0 := hi
  rw [hb.2] at h1
  rcases Nat.lt_or_ge i listed.size with h' | h'
  · simp [h'] at h0 h1; rw [h0] at h1; cases h1
  · simp [Array.getElem?_eq_none h'] at h1

/-- C waits for i, and what of M has not come up yet is among it. -/
def laterC (md : Region.Mode) (ops : Array Oper) (listed : Array Bool) (i : Nat) (M C : List Nat) : Bool :=
  C.contains i && C.all (fun c => !listed.getD c true && (c == i || C.any (fun c' => waitsFor md ops c c'))) && M.all (fun j => listed.getD j true || C.contains j)
structure Later (md : Region.Mode) (ops : Array Oper) (listed : Array Bool) (i : Nat) (M C : List Nat) : Prop where
  own : i ∈ C
  open_ : ∀ c ∈ C, listed.getD c true = false
  waits : ∀ c ∈ C, c ≠ i → ∃ c' ∈ C, waitsFor md ops c c' = true
  all : ∀ j ∈ M, listed.getD j true = false → j ∈ C
theorem laterC_spec {listed : Array Bool} {i : Nat} {C : List Nat} (h : laterC md ops listed i M C = true) : Later md ops listed i M C := by
  unfold laterC at h
  simp only [Bool.and_eq_true, List.contains_eq_mem, decide_eq_true_eq, List.all_eq_true, Bool.not_eq_true', Bool.or_eq_true, beq_iff_eq, List.any_eq_true] at h
  obtain ⟨⟨h1, h2⟩, h3⟩ := h
  exact ⟨h1, fun c hc => (h2 c hc).1, fun c hc hne => (h2 c hc).2.resolve_left hne, fun j hj hl => (h3 j hj).resolve_left (by rw [hl]; simp)⟩
theorem Later.not {listed : Array Bool} {i j : Nat} {C : List Nat} (h : Later md ops listed i M C) (hj : j ∈ Region.ready md ops listed) (hne : j ≠ i) : j ∉ C ∧ j ∉ M := by
  have h1 : j ∉ C := fun hc => by
    obtain ⟨c', hc', hw⟩ := h.waits j hc hne
    exact not_ready hw (h.open_ c' hc') hj
  exact ⟨h1, fun hm => h1 (h.all j hm (mem_ready.1 hj).1)⟩
theorem Later.step {listed : Array Bool} {i j : Nat} {C : List Nat} (h : Later md ops listed i M C) (hj : j ∉ C) : Later md ops (listed.setIfInBounds j true) i M C := by
  refine ⟨h.own, fun c hc => ?_, h.waits, fun k hk hl => ?_⟩
  · rw [getD_set_ne true (fun e : j = c => hj (by rw [e]; exact hc))]; exact h.open_ c hc
  · by_cases hjk : j = k
    · subst hjk
      exfalso
      rcases Nat.lt_or_ge j listed.size with h' | h'
      · simp [h'] at hl
      · simp at hl
    · rw [getD_set_ne true hjk] at hl
      exact h.all k hk hl

theorem wpAnyM_first {i : Nat} {oi : Oper} {v : Value} (hi : ops[i]? = some oi) (hsel : ∀ (j : Nat) (o : Oper) cs b, ops[j]? = some o → o.op ≠ .select cs b)
    (hQ : ∀ c a w, Q (.panic c) (a.put oi.dst v) w → Q (.panic c) a w) {C : List Nat} :
    ∀ (fuel : Nat) (listed : Array Bool) (a : Act) (w : World), Later md ops listed i M C →
      (∀ j oj, ops[j]? = some oj → j ≠ i → listed.getD j true = false → (∀ e ∈ oj.after, Region.binds md e = true → e.on ≠ i) → oi.apart ops oj = true) →
      i ∈ Region.ready md ops listed → YieldsIf P ops S oi v a → S w →
      wpAnyM P md ops Q S M fuel (listed.setIfInBounds i true) (a.put oi.dst v) w → wpAnyM P md ops Q S M (fuel + 1) listed a w := by
  intro fuel
  induction fuel with
  | zero =>
    intro listed a w _ _ hr hy hS H
    refine ⟨fun h => (by rw [h] at hr; cases hr), fun j hj => ?_⟩
    by_cases hji : j = i
    · subst hji; exact hy.wpOp hi hS ⟨fun _ => hS, H⟩
    · have := ready_mono hj hji
      rw [H.1] at this
      cases this
  | succ fuel ih =>
    intro listed a w hlt hfree hr hy hS H
    refine ⟨fun h => (by rw [h] at hr; cases hr), fun j hj => ?_⟩
    by_cases hji : j = i
    · subst hji; exact hy.wpOp hi hS ⟨fun _ => hS, H⟩
    · obtain ⟨hjC, hjm⟩ := hlt.not hj hji
      have h1 := H.2 j (ready_mono hj hji)
      obtain ⟨hjun, oj, hoj, hall⟩ := mem_ready.1 hj
      have hnot : ∀ e ∈ oj.after, Region.binds md e = true → e.on ≠ i := fun e he hb heq => by
        have h1 := hall e he hb
        have h0 := (mem_ready.1 hr).1
        rw [heq] at h1
        rcases Nat.lt_or_ge i listed.size with h' | h'
        · simp [h'] at h0 h1; rw [h0] at h1; cases h1
        · simp [Array.getElem?_eq_none h'] at h1
      have h2 := wpOp_putIf hoj (hfree j oj hoj hji hjun hnot) (fun cs b => hsel i oi cs b hi) (fun cs b => hsel j oj cs b hoj) hQ hy h1
      have hfree' : ∀ k ok, ops[k]? = some ok → k ≠ i → (listed.setIfInBounds j true).getD k true = false →
          (∀ e ∈ ok.after, Region.binds md e = true → e.on ≠ i) → oi.apart ops ok = true := fun k ok hk hki hun hno => by
        refine hfree k ok hk hki ?_ hno
        by_cases hjk : j = k
        · subst hjk; exact hjun
        · rw [getD_set_ne true hjk] at hun; exact hun
      refine wpOp_mono (fun a' w' h3 => ⟨h3.2.1, ih (listed.setIfInBounds j true) a' w' (hlt.step hjC) hfree' (ready_mono hr (Ne.symm hji)) h3.1 (h3.2.1 hjm) ?_⟩) h2
      rw [Array.setIfInBounds_comm _ _ hji]
      exact h3.2.2

theorem wpAnyM_take (C : List Nat) {i : Nat} {oi : Oper} {v : Value} {fuel : Nat} {listed : Array Bool} {a : Act} {w : World} (hi : ops[i]? = some oi)
    (hs : (Region.noSelect ops && Region.free md ops listed i && (Region.ready md ops listed).contains i && laterC md ops listed i M C) = true)
    (hQ : ∀ c a w, Q (.panic c) (a.put oi.dst v) w → Q (.panic c) a w) (hy : YieldsIf P ops S oi v a) (hS : S w)
    (h : wpAnyM P md ops Q S M fuel (listed.setIfInBounds i true) (a.put oi.dst v) w) : wpAnyM P md ops Q S M (fuel + 1) listed a w := by
  simp only [Bool.and_eq_true] at hs
  obtain ⟨⟨⟨h1, h2⟩, h3⟩, h4⟩ := hs
  exact wpAnyM_first hi (Region.noSelect_spec h1) hQ fuel listed a w (laterC_spec h4) (Region.free_spec hi h2) (by simpa using h3) hy hS h

/-- The one operation that may come up comes up. -/
theorem wpAnyM_one {i : Nat} {o : Oper} {fuel : Nat} {listed : Array Bool} {a : Act} {w : World} (hr : Region.ready md ops listed = [i]) (ho : ops[i]? = some o)
    (h : ∀ K' : Act → World → Prop, Shut (∀ a w, (i ∉ M → S w) → ((i ∉ M → S w) → wpAnyM P md ops Q S M fuel (listed.setIfInBounds i true) a w) → K' a w) → if Region.wanted o (yielded ops a.tmps) = true then Oper.wp P o a w K' Q else K' (a.put o.dst undef) w) : wpAnyM P md ops Q S M (fuel + 1) listed a w := by
  refine ⟨fun h0 => absurd (hr ▸ h0) (by simp), fun j hj => ?_⟩
  rw [hr, List.mem_singleton] at hj
  subst hj
  exact wpOp_step ho (fun K' hK => h K' (fun a w hS hW => hK a w ⟨hS, hW hS⟩))
/-- Two operations may come up. -/
theorem wpAnyM_two {i j : Nat} {o o' : Oper} {fuel : Nat} {listed : Array Bool} {a : Act} {w : World} (hr : Region.ready md ops listed = [i, j]) (ho : ops[i]? = some o) (ho' : ops[j]? = some o')
    (h : ∀ K' : Act → World → Prop, Shut (∀ a w, (i ∉ M → S w) → ((i ∉ M → S w) → wpAnyM P md ops Q S M fuel (listed.setIfInBounds i true) a w) → K' a w) → if Region.wanted o (yielded ops a.tmps) = true then Oper.wp P o a w K' Q else K' (a.put o.dst undef) w)
    (h' : ∀ K' : Act → World → Prop, Shut (∀ a w, (j ∉ M → S w) → ((j ∉ M → S w) → wpAnyM P md ops Q S M fuel (listed.setIfInBounds j true) a w) → K' a w) → if Region.wanted o' (yielded ops a.tmps) = true then Oper.wp P o' a w K' Q else K' (a.put o'.dst undef) w) : wpAnyM P md ops Q S M (fuel + 1) listed a w := by
  refine ⟨fun h0 => absurd (hr ▸ h0) (by simp), fun k hk => ?_⟩
  rw [hr] at hk
  rcases List.mem_cons.1 hk with rfl | hk
  · exact wpOp_step ho (fun K' hK => h K' (fun a w hS hW => hK a w ⟨hS, hW hS⟩))
  · rw [List.mem_singleton] at hk
    subst hk
    exact wpOp_step ho' (fun K' hK => h' K' (fun a w hS hW => hK a w ⟨hS, hW hS⟩))
theorem wpAnyM_done {listed : Array Bool} {a : Act} {w : World} (hr : Region.ready md ops listed = []) (h : Q .normal a w) : ∀ fuel, wpAnyM P md ops Q S M fuel listed a w
  | 0 => ⟨hr, h⟩
  | _ + 1 => ⟨fun _ => h, by rw [hr]; simp⟩
theorem wp_region_M {id : Nat} {a : Act} {w : World} (M : List Nat) (hm : P.follows .mixedOrders = true) (hS : S w.drew)
    (h : S w.drew → wpAnyM P .any ops Q S M ops.size (Array.replicate ops.size false) a w.drew) : (Code.region id ops true).wp P Q a w :=
  wp_region_any hm (wpAny_of_M _ _ _ _ (h hS))
end
end Go.Proofs.Ytfbimhnlcmdcpaa.Pa
/- Parts of drop: the closure, slices.ContainsFunc over it, slices.Clone of classes, its state. -/
namespace Go.Proofs.Ytfbimhnlcmdcpaa.Pa
open Go.RowKit Go.Proofs.YtfbimhnlcmdcpaaW.PrintWords Go.Proofs.YtfbimhnlcmdcpaaW.PrintLast Go.Proofs.YtfbimhnlcmdcpaaW.PrintMore
set_option linter.unusedVariables false
set_option linter.unusedSimpArgs false

/-- 'func(n int) bool { return !gone.has(n) }' -/
theorem notGone (q s n : Nat) (hs : s < 256) (hn : n < 8) (w : World) (hq : w.cell? ⟨q, 0, none⟩ = some (.int .u8 s)) :
    Calls Try.prog 81 #[.int .i64 n, .pointer (some ⟨q, 0, none⟩)] w fun e w' => e = .returned (.bool (!s.testBit n)) ∧ w = w' := by
  have HH := fun W => heads_has s n hs hn W
  obtain ⟨b, hb⟩ : ∃ b, s.testBit n = b := ⟨_, rfl⟩
  rw [hb]
  simp only [hb] at HH
  clear hb
  go_enter Try.func81, Try.ntmps81
  go_wp2_with (go_at_call 75; (with_reducible refine (HH _).mono ?_); rintro e w2 ⟨rfl, rfl⟩)
  go_ret
  exact ⟨rfl, rfl⟩
def outB (s : Nat) (x : Int) : Bool := !s.testBit x.toNat

set_option maxRecDepth 100000 in
theorem indexFunc_out (q s : Nat) (hs : s < 256) (A : Option Addr) (c : Nat) (xs : List Int) (w : World) (hr : (Kd.int .i64).C w A xs.length xs) (hm : xs.length ≤ maxLen) (h8 : ∀ j, j < xs.length → ∃ p : Nat, xs.getD j 0 = p ∧ p < 8) (hq : w.cell? ⟨q, 0, none⟩ = some (.int .u8 s)) :
    Calls Try.prog 104 #[.slice A xs.length c, .func (.func 81) #[] #[.pointer (some ⟨q, 0, none⟩)]] w
      fun e w' => e = .returned (.int .i64 (idxFrom (outB s) xs 0)) ∧ w = w' := by
  unfold maxLen at hm
  go_enter Try.func104, Try.ntmps104
  go_wp2
  go_loopw [8] (fun v wr => ∃ k : Nat, k ≤ xs.length ∧ v = .int .i64 k ∧ w = wr ∧ Hid (idxFrom (outB s) (xs.drop k) k = idxFrom (outB s) xs 0)) (fun v _ => xs.length - (intOf v).toNat)
  case atStart => exact ⟨0, Nat.zero_le _, rfl, rfl, rfl⟩
  case round =>
    obtain ⟨k, hk, rfl, rfl, HS⟩ := hrel
    by_cases hlt : k < xs.length
    · obtain ⟨ad, e, hx⟩ := Kd.at_int hr (k : Int) (by omega) (by omega)
      cases e
      rw [Int.toNat_natCast] at hx
      have HY := Lib.hid (drop_getD 0 xs k hlt)
      obtain ⟨p, hp, hp8⟩ := h8 k hlt
      have hrd : rd xs (k : Int) = (p : Int) := by unfold rd; rw [Int.toNat_natCast]; exact hp
      rw [hrd] at hx
      rw [hp] at HY
      have CL := fun W => notGone q s p hs hp8 W
      clear hrd hp
      by_cases hb : s.testBit p = true
      · have HP : Hid (outB s (p : Int) = false) := by show _ = _; unfold outB; rw [Int.toNat_natCast, hb]; rfl
        rw [hb] at CL
        clear hb
        go_wp2_with (go_at_call 81; (with_reducible refine (CL _ hq).mono ?_); rintro e w' ⟨rfl, rfl⟩)
        go_roundw
        case rel => exact ⟨k + 1, by omega, by go_num, by trivial, by show _ = _; rw [← HS.out, HY.out, idxFrom, if_neg (by rw [HP.out]; simp)]⟩
        case measure => simp [intOf]; omega
      · have hb' : s.testBit p = false := by simpa using hb
        have HP : Hid (outB s (p : Int) = true) := by show _ = _; unfold outB; rw [Int.toNat_natCast, hb']; rfl
        rw [hb'] at CL
        clear hb hb'
        go_wp2_with (go_at_call 81; (with_reducible refine (CL _ hq).mono ?_); rintro e w' ⟨rfl, rfl⟩)
        go_ret
        exact ⟨by rw [← HS.out, HY.out, idxFrom, if_pos HP.out]; rfl, by trivial⟩
    · have HE : Hid (xs.drop k = []) := by show _ = _; exact List.drop_eq_nil_of_le (by omega)
      go_wp2
      go_ret
      exact ⟨by rw [← HS.out, HE.out]; rfl, by trivial⟩
theorem containsFunc_out (q s : Nat) (hs : s < 256) (A : Option Addr) (c : Nat) (xs : List Int) (w : World) (hr : (Kd.int .i64).C w A xs.length xs) (hm : xs.length ≤ maxLen) (h8 : ∀ j, j < xs.length → ∃ p : Nat, xs.getD j 0 = p ∧ p < 8) (hq : w.cell? ⟨q, 0, none⟩ = some (.int .u8 s)) :
    Calls Try.prog 80 #[.slice A xs.length c, .func (.func 81) #[] #[.pointer (some ⟨q, 0, none⟩)]] w
      fun e w' => e = .returned (.bool (xs.any (outB s))) ∧ w = w' := by
  obtain ⟨i, hi⟩ : ∃ i, idxFrom (outB s) xs 0 = i := ⟨_, rfl⟩
  have HC := indexFunc_out q s hs A c xs w hr hm h8 hq
  have HA := Lib.hid (idxFrom_any (outB s) xs 0)
  rw [hi] at HC HA
  clear hi
  go_enter Try.func80, Try.ntmps80
  go_wp2_with (go_at_call 104; (with_reducible refine HC.mono ?_); rintro e w' ⟨rfl, rfl⟩)
  go_ret
  exact ⟨by rw [← HA.out]; rfl, rfl⟩

set_option maxHeartbeats 1000000 in
set_option maxRecDepth 100000 in
theorem cloneC_any (A : Option Addr) (c : Nat) (xs : List Cl) (w : World) (hC : Kd.C k51 w A xs.length xs) (hl : xs.length ≤ 100) :
    Calls Try.prog 82 #[.slice A xs.length c] w fun e w' => ∃ v, e = .returned v ∧ Kd.R k51 51 w' w.heap.size (fun _ => True) v xs ∧ Below w.heap.size w w' := by
  cases A with
  | none =>
    have hq := fun W => Lib.run_eql_slice_nil (P := Try.prog) W 23 _ none 0 c 0 0 Try.underlying23
    have hx : xs = [] := by
      rcases Nat.eq_zero_or_pos xs.length with h | h
      · exact List.eq_nil_of_length_eq_zero h
      · obtain ⟨ad, e, _⟩ := hC.2.2 h
        cases e
    subst hx
    clear hC
    go_enter Try.func82, Try.ntmps82
    go_wp2
    go_ret
    exact ⟨_, rfl, Kd.R_nil _ _ _ _ _, Below.refl _ _⟩
  | some ad =>
    have hq := fun W => Lib.run_eql_slice_nil (P := Try.prog) W 23 _ (some ad) xs.length c 0 0 Try.underlying23
    have hB := (Below.refl w.heap.size w).alloc (Nat.le_refl _) (.cells #[] 51)
    have hC1 := Kd.C_below hC hB
    have hR0 : Kd.R k51 51 (w.alloc (.cells #[] 51)) w.heap.size (fun _ => True) (.slice (some ⟨w.heap.size, 0, none⟩) 0 0) [] :=
      ⟨fun _ _ => trivial, [], ⟨rfl, .inr ⟨w.heap.size, 0, #[], rfl, Nat.le_refl _, heap_alloc_new w _, Nat.le_refl _, by simp [maxLen], rfl, rfl⟩⟩, Reps.none _ _⟩
    clear hC
    go_enter Try.func82, Try.ntmps82
    go_wp2_with (at_builtin; go_loud (refine Kd.R_append_rows k51 (w0 := w) w.heap.size rfl _ _ 23 51 _ 24 rfl Try.underlying23 info51 rfl (by decide) (by decide) _ [] xs (some ad) xs.length c (fun _ => True) (fun k => some k ≠ some w.heap.size) rfl rfl hR0 hC1 (fun _ _ h => h) (fun k hk => ⟨trivial, hk⟩) (fun _ _ => trivial) hB (by simp) (by simp; omega) ?_; intro v1 w1 hv1 hb1 _ _; have HV := Lib.hid hv1; clear hv1))
    go_ret
    exact ⟨_, rfl, HV.out, hb1⟩

theorem goneTo_lt {hs : List Hd} {g : Nat} (hg : g < 256) : ∀ k, k ≤ 8 → goneTo hs g k < 256
  | 0, _ => hg
  | k + 1, hk => by
    have ih := goneTo_lt (hs := hs) hg k (by omega)
    unfold goneTo
    split
    · exact or_lt _ _ ih (by omega)
    · exact ih
theorem goneR_lt {hs : List Hd} {g : Nat} (hg : g < 256) (hl : hs.length ≤ 8) : ∀ r, goneR hs g r < 256
  | 0 => hg
  | r + 1 => goneTo_lt (goneR_lt hg hl r) _ hl
/-- The state of drop: the result's variable at block r, the set of what goes at block q. -/
structure DG (w W : World) (r q s : Nat) : Prop where
  mk ::
  bel : Below w.heap.size w W
  lr : w.heap.size ≤ r
  lq : w.heap.size ≤ q
  rq : r ≠ q
  res : W.heap[r]? = some (.cells #[.slice none 0 0, .slice none 0 0] 26 (0, 0))
  gon : W.heap[q]? = some (.cells #[.int .u8 s] 120 (0, 0))
  s8 : s < 256
section
variable {w W W1 : World} {r q s : Nat}
theorem DG.below (h : DG w W r q s) (hb : Below W.heap.size W W1) : DG w W1 r q s :=
  ⟨below_step h.bel hb, h.lr, h.lq, h.rq, blk_below h.res hb, blk_below h.gon hb, h.s8⟩
theorem DG.alloc (h : DG w W r q s) (o : Obj) : DG w (W.alloc o) r q s := h.below ((Below.refl _ _).alloc (Nat.le_refl _) o)
theorem DG.put (h : DG w W r q s) {s' : Nat} (hs : s' < 256) : DG w (W.setCell ⟨q, 0, none⟩ (.int .u8 s')) r q s' :=
  ⟨below_set h.bel h.lq, h.lr, h.lq, h.rq, blk_far h.res h.rq _, blk_put h.gon 0 _ rfl, hs⟩
end
/-- How a heading is looked at. -/
theorem goneTo_succ (hs : List Hd) (g k : Nat) {b : Bool} (hb : goneB (goneTo hs g k) (hs.getD k zHd) = b) : goneTo hs g (k + 1) = if b = true then goneTo hs g k ||| 2 ^ k else goneTo hs g k := by
  rw [goneTo, hb]
theorem ta_idx (v : Value) (W : World) : (Instr.typeAssert (.iface 115 v) 101 115 true).run Try.prog W = .ok (.tuple #[v, .bool true]) W := by kernel_rfl
theorem ta_idx_art (v : Value) (W : World) : (Instr.typeAssert (.iface 103 v) 101 115 true).run Try.prog W = .ok (.tuple #[.agg #[.slice none 0 0], .bool false]) W := by kernel_rfl
end Go.Proofs.Ytfbimhnlcmdcpaa.Pa
/- The contract of drop: what stays without a heading. -/
namespace Go.Proofs.Ytfbimhnlcmdcpaa.Pa
open Go.RowKit Go.Proofs.YtfbimhnlcmdcpaaW.PrintWords Go.Proofs.YtfbimhnlcmdcpaaW.PrintLast Go.Proofs.YtfbimhnlcmdcpaaW.PrintMore
set_option linter.unusedVariables false
set_option linter.unusedSimpArgs false

/-- The numbers of what stays, for the headings below k. -/
def numL (g n k : Nat) : List Int := (List.range n).map (fun i => if i < k then (numT g i : Int) else 0)
theorem numL_len (g n k : Nat) : (numL g n k).length = n := by simp [numL]
theorem numL_zero (g n : Nat) : numL g n 0 = List.replicate n 0 := by
  refine List.ext_getElem (by simp [numL]) (fun i h1 h2 => ?_)
  simp [numL]
theorem numL_get (g n k i : Nat) (hi : i < n) : (numL g n k).getD i 0 = if i < k then (numT g i : Int) else 0 := by
  unfold numL
  rw [List.getD_eq_getElem?_getD, List.getElem?_map, List.getElem?_range hi]
  rfl
theorem numL_set (g n k : Nat) (hk : k < n) : (numL g n k).set k (numT g k : Int) = numL g n (k + 1) := by
  refine List.ext_getElem (by simp [numL]) (fun i h1 h2 => ?_)
  rw [List.getElem_set]
  simp only [numL, List.getElem_map, List.getElem_range]
  by_cases e : k = i
  · subst e
    rw [if_pos rfl, if_pos (by omega)]
  · rw [if_neg e]
    by_cases c : i < k
    · rw [if_pos c, if_pos (by omega)]
    · rw [if_neg c, if_neg (by omega)]
theorem numT_le' (g : Nat) : ∀ k, numT g k ≤ k
  | 0 => Nat.le_refl _
  | k + 1 => by have := numT_le' g k; unfold numT; split <;> omega
/-- The state behind: numbers at block b. -/
structure DN (w W : World) (r q s b : Nat) (N : List Int) : Prop where
  mk ::
  dg : DG w W r q s
  lb : w.heap.size ≤ b
  br : b ≠ r
  bq : b ≠ q
  num : W.heap[b]? = some (.cells (intV N) 3 (0, 0))
theorem DN.below {w W W1 : World} {r q s b : Nat} {N : List Int} (h : DN w W r q s b N) (hb : Below W.heap.size W W1) : DN w W1 r q s b N :=
  ⟨h.dg.below hb, h.lb, h.br, h.bq, blk_below h.num hb⟩
theorem DN.put {w W : World} {r q s b : Nat} {N : List Int} (h : DN w W r q s b N) (i : Nat) (x : Int) : DN w (W.setCell ⟨b, i, none⟩ (.int .i64 x)) r q s b (N.set i x) :=
  ⟨⟨below_set h.dg.bel h.lb, h.dg.lr, h.dg.lq, h.dg.rq, blk_far h.dg.res (fun e => h.br e.symm) _, blk_far h.dg.gon (fun e => h.bq e.symm) _, h.dg.s8⟩, h.lb, h.br, h.bq, blk_put h.num i _ (intV_set N i x)⟩

/-- The state of drop's last loop: what is being made at block o (classes vc, headings vh), all of it below block n. -/
structure DO (w W : World) (r q s b o : Nat) (N : List Int) (vc vh : Value) (cs : List Cl) (out : List Hd) (n : Nat) : Prop where
  mk ::
  dn : DN w W r q s b N
  lo : w.heap.size ≤ o
  ro : r ≠ o
  qo : q ≠ o
  bo : b ≠ o
  rn : r < n
  qn : q < n
  bn : b < n
  on : o < n
  nW : n ≤ W.heap.size
  ob : W.heap[o]? = some (.cells #[vc, vh] 26 (0, 0))
  hc : Kd.R k51 51 W w.heap.size (fun k => k < n) vc cs
  hh : Kd.S k39 39 W w.heap.size (fun k => k < n) vh out
section
variable {w W W1 : World} {r q s b o n : Nat} {N : List Int} {vc vh : Value} {cs : List Cl} {out : List Hd}
theorem DO.wn (h : DO w W r q s b o N vc vh cs out n) : w.heap.size ≤ n := Nat.le_trans h.lo (Nat.le_of_lt h.on)
theorem DO.below (h : DO w W r q s b o N vc vh cs out n) (hb : Below n W W1) : DO w W1 r q s b o N vc vh cs out n :=
  ⟨⟨⟨below_weaken h.dn.dg.bel h.wn hb, h.dn.dg.lr, h.dn.dg.lq, h.dn.dg.rq, (hb.block r h.rn).trans h.dn.dg.res, (hb.block q h.qn).trans h.dn.dg.gon, h.dn.dg.s8⟩, h.dn.lb, h.dn.br, h.dn.bq, (hb.block b h.bn).trans h.dn.num⟩,
    h.lo, h.ro, h.qo, h.bo, h.rn, h.qn, h.bn, h.on, Nat.le_trans h.nW hb.size, (hb.block o h.on).trans h.ob, Kd.R_step h.hc (fun k hk _ => hb.block k hk), Kd.S_step h.hh (fun k hk _ => hb.block k hk)⟩
theorem DO.all (h : DO w W r q s b o N vc vh cs out n) (hb : Below W.heap.size W W1) : DO w W1 r q s b o N vc vh cs out n := h.below (hb.mono h.nW)
theorem DO.renew {m : Nat} (h : DO w W r q s b o N vc vh cs out n) (hm : n ≤ m) (hW : m ≤ W.heap.size) : DO w W r q s b o N vc vh cs out m :=
  ⟨h.dn, h.lo, h.ro, h.qo, h.bo, Nat.lt_of_lt_of_le h.rn hm, Nat.lt_of_lt_of_le h.qn hm, Nat.lt_of_lt_of_le h.bn hm, Nat.lt_of_lt_of_le h.on hm, hW, h.ob, Kd.R_mono h.hc (fun k hk => Nat.lt_of_lt_of_le hk hm), Kd.S_mono h.hh (fun k hk => Nat.lt_of_lt_of_le hk hm)⟩
theorem DO.put (h : DO w W r q s b o N vc vh cs out n) {y : Nat} (hy : n ≤ y) (j : Nat) (v : Value) : DO w (W.setCell ⟨y, j, none⟩ v) r q s b o N vc vh cs out n := h.below ((Below.refl n W).setCell (p := ⟨y, j, none⟩) hy v)
/-- A heading more: the row grows (W1), then it is stored. -/
theorem DO.heads {vh' : Value} {out' : List Hd} (h : DO w W r q s b o N vc vh cs out n) (hR : Kd.S k39 39 W1 w.heap.size (fun _ => True) vh' out') (hb : Below w.heap.size W W1) (hg : W.grownBy W1 vh.ownBlock) :
    W1.cell? ⟨o, 1, none⟩ = some vh ∧ W1.frozen? ⟨o, 1, none⟩ = false ∧ DO w (W1.setCell ⟨o, 1, none⟩ vh') r q s b o N vc vh' cs out' W1.heap.size := by
  have hne : ∀ k t cells, W.heap[k]? = some (.cells cells t (0, 0)) → t ≠ 39 → some k ≠ vh.ownBlock := fun k t cells hk ht => Kd.S_ne h.hh hk (Ne.symm ht)
  have htt : W1.heap[o]? = some (.cells #[vc, vh] 26 (0, 0)) := blk_grown h.ob hg (hne o _ _ h.ob (by decide))
  have hres := blk_grown h.dn.dg.res hg (hne r _ _ h.dn.dg.res (by decide))
  have hgon := blk_grown h.dn.dg.gon hg (hne q _ _ h.dn.dg.gon (by decide))
  have hnum := blk_grown h.dn.num hg (hne b _ _ h.dn.num (by decide))
  have hc1 := Kd.R_over' h.hc (Kd.S_typed h.hh) (by decide) hg
  have hz : W.heap.size ≤ W1.heap.size := hb.size
  have hS : (W1.setCell ⟨o, 1, none⟩ vh').heap.size = W1.heap.size := by simp [World.setCell]
  have hW := h.nW
  have hon := h.on
  have hrn := h.rn
  have hqn := h.qn
  have hbn := h.bn
  refine ⟨(blk_cell htt 1).trans rfl, blk_frozen htt 1, ⟨⟨⟨below_set (below_weaken h.dn.dg.bel (Nat.le_refl _) hb) h.lo, h.dn.dg.lr, h.dn.dg.lq, h.dn.dg.rq, blk_far hres h.ro _, blk_far hgon h.qo _, h.dn.dg.s8⟩, h.dn.lb, h.dn.br, h.dn.bq, blk_far hnum h.bo _⟩, h.lo, h.ro, h.qo, h.bo, by omega, by omega, by omega, by omega, by rw [hS]; exact Nat.le_refl _, blk_put htt 1 vh' rfl, ?_, ?_⟩⟩
  · have h2 := Kd.R_types hc1 htt (by decide)
    exact Kd.R_mono (Kd.R_far (p := ⟨o, 1, none⟩) h2 (fun k hk => hk.2) vh') (fun k hk => by have := hk.1; omega)
  · have h2 := Kd.S_types (Kd.S_bound hR) htt (by decide)
    exact Kd.S_mono (Kd.S_far (p := ⟨o, 1, none⟩) h2 (fun k hk => hk.2) vh') (fun k hk => hk.1.2.2.1)
/-- What is left when the result is stored. -/
theorem DO.final (h : DO w W r q s b o N vc vh cs out n) :
    ((W.setCell ⟨r, 0, none⟩ vc).setCell ⟨r, 1, none⟩ vh).heap[r]? = some (.cells #[vc, vh] 26 (0, 0)) ∧ Kd.R k51 51 ((W.setCell ⟨r, 0, none⟩ vc).setCell ⟨r, 1, none⟩ vh) w.heap.size (fun _ => True) vc cs ∧ Kd.S k39 39 ((W.setCell ⟨r, 0, none⟩ vc).setCell ⟨r, 1, none⟩ vh) w.heap.size (fun _ => True) vh out ∧ Below w.heap.size w ((W.setCell ⟨r, 0, none⟩ vc).setCell ⟨r, 1, none⟩ vh) := by
  have hb1 := blk_put h.dn.dg.res 0 vc (cs' := #[vc, .slice none 0 0]) rfl
  have h0 := Kd.R_far (p := ⟨r, 0, none⟩) (Kd.R_types h.hc h.dn.dg.res (by decide)) (fun k hk => hk.2) vc
  have h1 := Kd.S_far (p := ⟨r, 0, none⟩) (Kd.S_types h.hh h.dn.dg.res (by decide)) (fun k hk => hk.2) vc
  exact ⟨blk_put hb1 1 vh rfl, Kd.R_mono (Kd.R_far (p := ⟨r, 1, none⟩) h0 (fun k hk => hk.2) vh) (fun _ _ => trivial), Kd.S_mono (Kd.S_far (p := ⟨r, 1, none⟩) h1 (fun k hk => hk.2) vh) (fun _ _ => trivial), below_set (below_set h.dn.dg.bel h.dn.dg.lr) h.dn.dg.lr⟩
end
theorem keptL_snoc (g : Nat) (l : List Int) (x : Int) : keptL g (l ++ [x]) = keptL g l ++ (if g.testBit x.toNat = true then [] else [(numT g x.toNat : Int)]) := by
  unfold keptL
  rw [List.filter_append, List.map_append]
  cases h : g.testBit x.toNat <;> simp [h]
theorem keptL_len (g : Nat) (l : List Int) : (keptL g l).length ≤ l.length := by
  unfold keptL
  rw [List.length_map]
  exact List.length_filter_le _ _
theorem take_succD (l : List Int) (j : Nat) (hj : j < l.length) : l.take (j + 1) = l.take j ++ [l.getD j 0] := by
  rw [List.take_succ_eq_append_getElem hj, List.getD_eq_getElem?_getD, List.getElem?_eq_getElem hj]
  rfl

theorem dropTo_len' (hs : List Hd) (g : Nat) : ∀ k, (dropTo hs g k).length ≤ k
  | 0 => Nat.le_refl _
  | k + 1 => by
    have := dropTo_len' hs g k
    show (dropTo hs g k ++ _).length ≤ k + 1
    rw [List.length_append]
    split <;> simp <;> omega
theorem few_also {n i : Nat} {l : List Int} (h : ∀ j, j < l.length → (0 ≤ l.getD j 0 ∧ l.getD j 0 < (n : Int)) ∧ l.getD j 0 ≠ (i : Int) ∧ (0 < j → l.getD (j - 1) 0 < l.getD j 0)) : l.length ≤ n := by
  have key : ∀ j, j < l.length → (j : Int) ≤ l.getD j 0 := by
    intro j
    induction j with
    | zero => intro hj; exact (h 0 hj).1.1
    | succ j ih =>
      intro hj
      have h1 := (h (j + 1) hj).2.2 (by omega)
      have h2 := ih (by omega)
      rw [show j + 1 - 1 = j by omega] at h1
      omega
  rcases Nat.eq_zero_or_pos l.length with h0 | h0
  · omega
  · have h1 := key (l.length - 1) (by omega)
    have h2 := (h (l.length - 1) (by omega)).1.2
    omega
theorem also_put' {W : World} {hb base : Nat} {ok : Nat → Prop} {x0 x1 x2 x3 v : Value} {l : List Int} (hk : W.heap[hb]? = some (.cells #[x0, x1, x2, x3] 39 (0, 0))) (hR : Kd.R (Kd.int .i64) 3 W base ok v l) :
    (W.setCell ⟨hb, 3, none⟩ v).heap[hb]? = some (.cells #[x0, x1, x2, v] 39 (0, 0)) ∧ Kd.R (Kd.int .i64) 3 (W.setCell ⟨hb, 3, none⟩ v) base ok v l :=
  ⟨blk_put hk 3 v rfl, Kd.R_mono (Kd.R_far (p := ⟨hb, 3, none⟩) (Kd.R_types hR hk (by decide)) (fun _ h => h.2) v) (fun _ h => h.1)⟩
theorem drop_f2_none {x : Hd} (g : Nat) (h : x.f2 = -1) : (dropHd g x).f2 = x.f2 := by
  show (if x.f2 ≥ 0 then _ else _) = _
  rw [if_neg (by omega)]
theorem drop_f2_some {x : Hd} (g p : Nat) (h : x.f2 = p) : (dropHd g x).f2 = (numT g p : Int) := by
  show (if x.f2 ≥ 0 then _ else _) = _
  rw [if_pos (by omega), h, Int.toNat_natCast]

set_option maxHeartbeats 8000000 in
set_option maxRecDepth 100000 in
theorem drop_any (g : Nat) (cs : List Cl) (hs : List Hd) (h : Nat) (w : World) (hL : IsList w g cs hs) (hv : Valid cs hs) (hh : h < hs.length) :
    Calls Try.prog 65 #[.pointer (some ⟨g, 0, none⟩), .int .i64 h] w fun e w' => ∃ v0_ v1_ : Value, e = .returned (.agg #[v0_, v1_]) ∧ Kd.R k51 51 w' w.heap.size (fun _ => True) v0_ cs ∧ Kd.S k39 39 w' w.heap.size (fun _ => True) v1_ (dropT hs h) ∧ Below w.heap.size w w' := by
  have hu1 := Try.underlying26
  have hu3 := Try.underlying81
  have hu5 := Try.underlying113
  have hu6 := Try.underlying115
  have hu7 := Try.underlying39
  obtain ⟨m0, m1, -, -⟩ := hv.split
  obtain ⟨A0, c0, A1, c1, A2, c2, A3, c3, hg, l0, l1, r0, r1, r2, r3⟩ := hL.ok
  obtain ⟨g0, g1, g2, g3⟩ := cells4 hg
  have HW0 := fun W => heads_with0 h (by omega) W
  have hp := pow_lt h (show h < 8 by omega)
  have HR : Hid (dropT hs h = dropTo hs (goneT hs h) hs.length) := rfl
  have HT : Hid (goneT hs h = goneR hs (2 ^ h) hs.length) := rfl
  obtain ⟨R, hR⟩ : ∃ R, dropT hs h = R := ⟨_, rfl⟩
  obtain ⟨z, hz⟩ : ∃ z, 2 ^ h = z := ⟨_, rfl⟩
  obtain ⟨G, hG⟩ : ∃ G, goneT hs h = G := ⟨_, rfl⟩
  rw [hR] at HR ⊢
  rw [hz] at hp HT
  rw [hG] at HT HR
  simp only [hz] at HW0
  clear hL hR hz hG
  go_enter Try.func65, Try.ntmps65
  go_upto_region 2 with (go_at_call 74; (with_reducible refine (HW0 _).mono ?_); rintro e w2 ⟨rfl, rfl⟩)
  obtain ⟨w1, hw1⟩ : ∃ W, W = (w.alloc (.cells #[.slice none 0 0, .slice none 0 0] 26)).alloc (.cells #[.int .u8 (z : Int)] 120) := ⟨_, rfl⟩
  have hD1 : DG w w1 w.heap.size (w.heap.size + 1) z := by
    have hb1 := ((Below.refl w.heap.size w).alloc (Nat.le_refl _) (.cells #[.slice none 0 0, .slice none 0 0] 26)).alloc (by simp) (.cells #[.int .u8 (z : Int)] 120)
    rw [← hw1] at hb1
    refine ⟨hb1, Nat.le_refl _, by omega, by omega, ?_, ?_, hp⟩
    · rw [hw1]; exact blk_alloc (heap_alloc_new w _) _
    · have := heap_alloc_new (w.alloc (.cells #[.slice none 0 0, .slice none 0 0] 26)) (.cells #[.int .u8 (z : Int)] 120)
      rw [World.size_alloc] at this
      rw [hw1]; exact this
  rw [← hw1]
  clear hw1 HW0
  have q1 := pw_cell_below hD1.bel g1
  have HGL := fun k => goneR_lt (hs := hs) hp (by omega) k
  go_wp2
  go_loopg [27] hs.length (fun gk v27 wr => ∃ k : Nat, k + gk = hs.length ∧ v27 = .int .i64 k ∧ DG w wr w.heap.size (w.heap.size + 1) (goneR hs z k))
  case atStart => exact ⟨0, by omega, rfl, hD1⟩
  case round =>
    clear q1 hD1
    obtain ⟨k, hk, rfl, hD⟩ := hrel
    by_cases hlt : k < hs.length
    · have q3 := pw_cell_below hD.bel g3
      obtain ⟨G0, hG0⟩ : ∃ G0, goneR hs z k = G0 := ⟨_, rfl⟩
      have HN : Hid (goneR hs z (k + 1) = goneTo hs G0 hs.length) := by show _ = _; rw [← hG0]; rfl
      rw [hG0] at hD
      have h256 := hD.s8
      clear hG0
      go_wp2
      go_loopg [34] hs.length (fun gk v34 wr => ∃ j : Nat, j + gk = hs.length ∧ v34 = .int .i64 j ∧ DG w wr w.heap.size (w.heap.size + 1) (goneTo hs G0 j))
      case atStart => exact ⟨0, by omega, rfl, hD⟩
      case round =>
        clear q3 hD
        obtain ⟨j, hj, rfl, hD⟩ := hrel
        by_cases hjt : j < hs.length
        · have q3 := pw_cell_below hD.bel g3
          have hgd := hv.head j hjt
          obtain ⟨s, hs0⟩ : ∃ s, goneTo hs G0 j = s := ⟨_, rfl⟩
          have HS := fun b => goneTo_succ hs G0 j (b := b)
          rw [hs0] at hD
          simp only [hs0] at HS
          have hs8 := hD.s8
          have hor := or_lt s j hs8 (by omega)
          have HH := fun n (hn : n < 8) W => heads_has s n hs8 hn W
          have HWi := fun W => heads_with s j hs8 (by omega) W
          obtain ⟨ad, v, e, hcv, hkv⟩ := kindAt (Kd.C_below r3 hD.bel) j hjt
          cases e
          obtain ⟨x, hx⟩ : ∃ x, hs.getD j zHd = x := ⟨_, rfl⟩
          rw [hx] at hkv hgd
          simp only [hx] at HS
          clear hx hs0
          rcases hkv with ⟨k1, rfl⟩ | ⟨k1, k2, B3, d3, rfl, k3, k4⟩ | ⟨k1, k2, B3, d3, rfl, k3, k4⟩
          · have hta := ta_ptr (.agg #[.int .i64 x.f2])
            obtain ⟨p, hp⟩ : ∃ p : Nat, x.f2 = p := ⟨x.f2.toNat, by have := hgd.see; omega⟩
            have hp8 : p < 8 := by have := hgd.see; omega
            have hb : goneB s x = s.testBit p := by unfold goneB; rw [if_pos k1, hp, Int.toNat_natCast]
            rw [hp] at hcv hta
            have HH := fun W => HH p hp8 W
            obtain ⟨b, hbt⟩ : ∃ b, s.testBit p = b := ⟨_, rfl⟩
            rw [hbt] at hb
            simp only [hbt] at HH
            have HS := Lib.hid (HS b hb)
            have HDa := hD.alloc (.cells #[.int .i64 (p : Int)] 113)
            have hc0 := (blk_cell HDa.gon 0).trans rfl
            have hf0 := blk_frozen HDa.gon 0
            clear hgd k1 hp hb hbt
            cases b with
            | true =>
              have HDp := HDa.put hor
              have HE : Hid (goneTo hs G0 (j + 1) = s ||| 2 ^ j) := by show _ = _; rw [HS.out]; rfl
              clear HS
              go_wp2_with (first
                | (go_at_call 75; (with_reducible refine (HH _).mono ?_); rintro e w2 ⟨rfl, rfl⟩)
                | (go_at_call 74; (with_reducible refine (HWi _).mono ?_); rintro e w2 ⟨rfl, rfl⟩))
              go_roundg (hs.length - (j + 1))
              case measure => omega
              case rel => exact ⟨j + 1, by omega, by go_num, by rw [HE.out]; exact HDp⟩
            | false =>
              have HE : Hid (goneTo hs G0 (j + 1) = s) := by show _ = _; rw [HS.out]; rfl
              clear HS
              go_wp2_with (go_at_call 75; (with_reducible refine (HH _).mono ?_); rintro e w2 ⟨rfl, rfl⟩)
              go_roundg (hs.length - (j + 1))
              case measure => omega
              case rel => exact ⟨j + 1, by omega, by go_num, by rw [HE.out]; exact HDa⟩
          · have hta := ta_ptr_art (.agg #[.int .i64 x.f1, .slice B3 x.f3.length d3])
            have hta2 := ta_idx_art (.agg #[.int .i64 x.f1, .slice B3 x.f3.length d3])
            have hb : goneB s x = false := by unfold goneB; rw [if_neg (by omega), if_pos k2]
            have HE : Hid (goneTo hs G0 (j + 1) = s) := by show _ = _; rw [HS _ hb]; rfl
            clear HS HH HWi hgd k1 k2 hb k3 k4
            go_wp2
            all_goals
              go_roundg (hs.length - (j + 1))
              case measure => omega
              case rel => exact ⟨j + 1, by omega, by go_num, by rw [HE.out]; first | exact hD | exact hD.alloc _ | exact (hD.alloc _).alloc _⟩
          · have hta := ta_ptr_idx (.agg #[.slice B3 x.f3.length d3])
            have hta2 := ta_idx (.agg #[.slice B3 x.f3.length d3])
            have hb : goneB s x = !(x.f3.any (outB s)) := by
              unfold goneB
              rw [if_neg (by omega), if_neg (by omega), List.not_any_eq_all_not]
              congr 1
              funext n
              unfold outB
              rw [Bool.not_not]
            have h8 : ∀ i, i < x.f3.length → ∃ p : Nat, x.f3.getD i 0 = p ∧ p < 8 := fun i hi => by
              have := (hgd.also i hi).1
              exact ⟨(x.f3.getD i 0).toNat, by omega, by omega⟩
            have HDa := hD.alloc (.cells #[.slice B3 x.f3.length d3] 115)
            have k5 := Kd.C_below k4 ((Below.refl wr.heap.size wr).alloc (Nat.le_refl _) (.cells #[.slice B3 x.f3.length d3] 115))
            have hc0 := (blk_cell HDa.gon 0).trans rfl
            have hf0 := blk_frozen HDa.gon 0
            have HC := containsFunc_out (w.heap.size + 1) s hs8 B3 d3 x.f3 _ k5 (by have := k4.2.1; simp only [maxLen]; omega) h8 hc0
            obtain ⟨b, hbt⟩ : ∃ b, x.f3.any (outB s) = b := ⟨_, rfl⟩
            rw [hbt] at hb HC
            have HS := Lib.hid (HS _ hb)
            clear hgd k1 k2 hb hbt k4 k5 h8
            cases b with
            | false =>
              have HDp := HDa.put hor
              have HE : Hid (goneTo hs G0 (j + 1) = s ||| 2 ^ j) := by show _ = _; rw [HS.out]; rfl
              clear HS
              go_wp2_with (first
                | (go_at_call 80; (with_reducible refine HC.mono ?_); rintro e w2 ⟨rfl, rfl⟩)
                | (go_at_call 74; (with_reducible refine (HWi _).mono ?_); rintro e w2 ⟨rfl, rfl⟩))
              go_roundg (hs.length - (j + 1))
              case measure => omega
              case rel => exact ⟨j + 1, by omega, by go_num, by rw [HE.out]; exact HDp⟩
            | true =>
              have HE : Hid (goneTo hs G0 (j + 1) = s) := by show _ = _; rw [HS.out]; rfl
              clear HS
              go_wp2_with (go_at_call 80; (with_reducible refine HC.mono ?_); rintro e w2 ⟨rfl, rfl⟩)
              go_roundg (hs.length - (j + 1))
              case measure => omega
              case rel => exact ⟨j + 1, by omega, by go_num, by rw [HE.out]; exact HDa⟩
        · obtain rfl : j = hs.length := by omega
          go_wp2
          go_roundg (hs.length - (k + 1))
          case measure => omega
          case rel => exact ⟨k + 1, by omega, by go_num, by rw [HN.out]; exact hD⟩
    · obtain rfl : k = hs.length := by omega
      rw [← HT.out] at hD
      clear HGL HT
      have HB := hD.bel
      have q1 := pw_cell_below HB g1
      have hmk := mk_ints hs.length (by omega)
      go_upto_region 20 with (fail)
      have hDN : DN w (wr.alloc (.cells (List.replicate hs.length (.int .i64 0)).toArray 3)) w.heap.size (w.heap.size + 1) G wr.heap.size (numL G hs.length 0) := by
        have hq := blk_lt hD.gon
        have hz := HB.size
        refine ⟨hD.alloc _, by omega, by omega, by omega, ?_⟩
        rw [numL_zero, heap_alloc_new, show intV (List.replicate hs.length 0) = (List.replicate hs.length (.int .i64 0)).toArray from by simp [intV]]
      have hnb := HB.size
      obtain ⟨nb, hnbe⟩ : ∃ nb, wr.heap.size = nb := ⟨_, rfl⟩
      rw [show (List.replicate hs.length (Value.int .i64 0)).toArray = Array.replicate hs.length (Value.int .i64 0) from by simp] at hDN
      obtain ⟨w2, hw2⟩ : ∃ W, W = wr.alloc (.cells (Array.replicate hs.length (.int .i64 0)) 3) := ⟨_, rfl⟩
      rw [← hw2, hnbe] at hDN
      rw [hnbe] at hnb
      rw [← hw2, hnbe]
      clear hw2 hnbe hD HB q1 hmk
      have q1 := pw_cell_below hDN.dg.bel g1
      go_wp2
      go_loopg [11, 76] hs.length (fun gk v11 v76 wr => ∃ j : Nat, j + gk = hs.length ∧ v11 = .int .i64 (numT G j) ∧ v76 = .int .i64 j ∧ DN w wr w.heap.size (w.heap.size + 1) G nb (numL G hs.length j))
      case atStart => exact ⟨0, by omega, rfl, rfl, hDN⟩
      case round =>
        clear q1 hDN
        obtain ⟨j, hj, rfl, rfl, hD⟩ := hrel
        by_cases hjt : j < hs.length
        · have hG8 := hD.dg.s8
          have hnl := numL_len G hs.length j
          have HH := fun W => heads_has G j hG8 (by omega) W
          have hc := (blk_cell hD.num j).trans (intV_get _ j (by omega))
          have hfz := blk_frozen hD.num j
          have hDp := hD.put j (numT G j : Int)
          rw [numL_set G hs.length j hjt] at hDp
          have hgc := (blk_cell hDp.dg.gon 0).trans rfl
          have hle := numT_le' G j
          have HN : Hid (numT G (j + 1) = numT G j + (if G.testBit j = true then 0 else 1)) := rfl
          obtain ⟨d, hd⟩ : ∃ d, (numL G hs.length j).getD j 0 = d := ⟨_, rfl⟩
          obtain ⟨m, hm⟩ : ∃ m, numT G j = m := ⟨_, rfl⟩
          obtain ⟨b, hbt⟩ : ∃ b, G.testBit j = b := ⟨_, rfl⟩
          rw [hd] at hc
          rw [hm, hbt] at HN
          rw [hm] at hle hDp hgc ⊢
          rw [hbt] at HH
          have hjt2 : (j : Int) < hs.length := by omega
          clear hd hm hbt hD hnl
          cases b with
          | true =>
            have HN2 : Hid (numT G (j + 1) = m) := HN.out
            clear HN
            go_wp2_with (go_at_call 75; (with_reducible refine (HH _).mono ?_); rintro e w2 ⟨rfl, rfl⟩)
            go_roundg (hs.length - (j + 1))
            case measure => omega
            case rel => exact ⟨j + 1, by omega, by rw [HN2.out], by go_num, hDp⟩
          | false =>
            have HN2 : Hid (numT G (j + 1) = m + 1) := HN.out
            clear HN
            go_wp2_with (go_at_call 75; (with_reducible refine (HH _).mono ?_); rintro e w2 ⟨rfl, rfl⟩)
            go_roundg (hs.length - (j + 1))
            case measure => omega
            case rel => exact ⟨j + 1, by omega, by rw [HN2.out]; go_num, by go_num, hDp⟩
        · obtain rfl : j = hs.length := by omega
          have q0 := pw_cell_below hD.dg.bel g0
          have HC := cloneC_any A0 c0 cs wr (Kd.C_below r0 hD.dg.bel) (by omega)
          go_upto_region 28 with (go_at_call 82; (with_reducible refine HC.mono ?_); rintro e w3 ⟨vc, rfl, hvc, hb3⟩; obtain ⟨Ac, cc, rfl⟩ := Kd.R_slice hvc)
          have hO : DO w (w3.alloc (.cells #[.slice Ac cs.length cc, .slice none 0 0] 26)) w.heap.size (w.heap.size + 1) G nb w3.heap.size (numL G hs.length hs.length) (.slice Ac cs.length cc) (.slice none 0 0) cs (dropTo hs G 0) (w3.heap.size + 1) := by
            have hD3 := hD.below hb3
            have e1 := blk_lt hD3.dg.res
            have e2 := blk_lt hD3.dg.gon
            have e3 := blk_lt hD3.num
            have e4 := hD3.dg.bel.size
            refine ⟨hD3.below ((Below.refl _ _).alloc (Nat.le_refl _) _), e4, by omega, by omega, by omega, by omega, by omega, by omega, by omega, by simp, heap_alloc_new _ _, ?_, Kd.S_nil _ _ _ _ _⟩
            exact Kd.R_below (Kd.R_lower (Kd.R_mono (Kd.R_bound hvc) (fun k hk => by have := hk.2.2.1; omega)) hD.dg.bel.size) ((Below.refl _ _).alloc (Nat.le_refl _) _)
          have e4 := (hD.below hb3).dg.bel.size
          obtain ⟨ob, hobe⟩ : ∃ ob, w3.heap.size = ob := ⟨_, rfl⟩
          obtain ⟨w4, hw4⟩ : ∃ W, W = w3.alloc (.cells #[.slice Ac cs.length cc, .slice none 0 0] 26) := ⟨_, rfl⟩
          rw [← hw4, hobe] at hO
          rw [hobe] at e4
          rw [← hw4, hobe]
          clear hw4 hobe hD hvc hb3 q0 HC
          have q1 := pw_cell_below hO.dn.dg.bel g1
          go_wp2
          go_loopg [103] hs.length (fun gk v103 wr => ∃ (j n : Nat) (vh : Value), j + gk = hs.length ∧ v103 = .int .i64 j ∧ DO w wr w.heap.size (w.heap.size + 1) G nb ob (numL G hs.length hs.length) (.slice Ac cs.length cc) vh cs (dropTo hs G j) n)
          case atStart => exact ⟨0, _, _, by omega, rfl, hO⟩
          case round =>
            clear q1 hO
            obtain ⟨j, n, vh, hj, rfl, hO⟩ := hrel
            by_cases hjt : j < hs.length
            · have HB := hO.dn.dg.bel
              obtain ⟨ad, A3', c3', e, h0, h1, h2, h3, h4, h5⟩ := hdAt r1 j hjt
              cases e
              have hgd := hv.head j hjt
              have HS : Hid (dropTo hs G (j + 1) = dropTo hs G j ++ (if G.testBit j = true then [] else [dropHd G (hs.getD j zHd)])) := rfl
              obtain ⟨x, hx⟩ : ∃ x, hs.getD j zHd = x := ⟨_, rfl⟩
              obtain ⟨D, hDe⟩ : ∃ D, dropTo hs G j = D := ⟨_, rfl⟩
              have hdl := dropTo_len' hs G j
              have hG8 := hO.dn.dg.s8
              have HH := fun n (hn : n < 8) W => heads_has G n hG8 hn W
              have HHj := fun W => HH j (by omega) W
              obtain ⟨b, hbt⟩ : ∃ b, G.testBit j = b := ⟨_, rfl⟩
              rw [hx] at h0 h1 h2 h3 h4 h5 hgd HS
              rw [hDe] at hO HS hdl
              rw [hbt] at HS
              simp only [hbt] at HHj
              obtain ⟨Ah, ch, rfl, hlh, -⟩ := Kd.S_reads hO.hh
              have hOa := hO.all ((Below.refl wr.heap.size wr).alloc (Nat.le_refl _) (.cells #[.string x.f0, .int .i64 x.f1, .int .i64 x.f2, .slice A3' x.f3.length c3'] 39))
              have hga := (blk_cell hOa.dn.dg.gon 0).trans rfl
              replace h0 := pw_cell_below HB h0
              replace h1 := pw_cell_below HB h1
              replace h2 := pw_cell_below HB h2
              replace h3 := pw_cell_below HB h3
              have H5 := fun W (hW : Below w.heap.size w W) => Kd.C_below h5 hW
              clear hx hDe hbt
              cases b with
              | true =>
                have HS2 : Hid (dropTo hs G (j + 1) = D) := by show _ = _; rw [HS.out]; exact List.append_nil _
                clear HS
                go_wp2_with (go_at_call 75; (with_reducible refine (HHj _).mono ?_); rintro e w2 ⟨rfl, rfl⟩)
                go_roundg (hs.length - (j + 1))
                case measure => omega
                case rel => exact ⟨j + 1, n, _, by omega, by go_num, by rw [HS2.out]; exact hOa⟩
              | false =>
                have HS2 : Hid (dropTo hs G (j + 1) = D ++ [dropHd G x]) := HS.out
                clear HS
                go_upto_region 32 with (go_at_call 75; (with_reducible refine (HHj _).mono ?_); rintro e w2 ⟨rfl, rfl⟩)
                have hX := heap_alloc_new wr (.cells #[.string x.f0, .int .i64 x.f1, .int .i64 x.f2, .slice A3' x.f3.length c3'] 39)
                have hnx := hO.nW
                obtain ⟨xb, hxb⟩ : ∃ b, wr.heap.size = b := ⟨_, rfl⟩
                obtain ⟨wx, hwx⟩ : ∃ W, W = wr.alloc (.cells #[.string x.f0, .int .i64 x.f1, .int .i64 x.f2, .slice A3' x.f3.length c3'] 39) := ⟨_, rfl⟩
                have hbx := (Below.refl wr.heap.size wr).alloc (Nat.le_refl _) (.cells #[.string x.f0, .int .i64 x.f1, .int .i64 x.f2, .slice A3' x.f3.length c3'] 39)
                rw [← hwx] at hbx
                rw [← hwx, hxb] at hX
                rw [← hwx] at hOa hga
                rw [hxb] at hnx
                rw [← hwx, hxb]
                clear hwx h0 h1 h2 h3 h5 HHj hO hbx HB
                obtain ⟨x0, x1, x2, x3⟩ := cells4 hX
                go_upto_region 33 with (fail)
                have hY := heap_alloc_new wx (.cells #[.string x.f0, .int .i64 x.f1, .int .i64 x.f2, .slice none 0 0] 39)
                have hby := (Below.refl wx.heap.size wx).alloc (Nat.le_refl _) (.cells #[.string x.f0, .int .i64 x.f1, .int .i64 x.f2, .slice none 0 0] 39)
                have hny := hOa.nW
                obtain ⟨yb, hyb⟩ : ∃ b, wx.heap.size = b := ⟨_, rfl⟩
                obtain ⟨wy, hwy⟩ : ∃ W, W = wx.alloc (.cells #[.string x.f0, .int .i64 x.f1, .int .i64 x.f2, .slice none 0 0] 39) := ⟨_, rfl⟩
                rw [← hwy] at hY hby
                have hXy := blk_below hX hby
                have hOy := hOa.all hby
                have hxy : xb ≠ yb := by have := blk_lt hX; omega
                rw [hyb] at hY hny
                rw [← hwy, hyb]
                clear hwy hX hOa hby hyb hxb hga
                obtain ⟨x0, x1, x2, x3⟩ := cells4 hXy
                obtain ⟨y0, y1, y2, y3⟩ := cells4 hY
                have fy2 := blk_frozen hY 2
                go_upto_if 120 with (fail)
                go_cut [120] (fun v120 wc => wc.heap[yb]? = some (.cells #[.string x.f0, .int .i64 x.f1, .int .i64 (dropHd G x).f2, .slice none 0 0] 39 (0, 0)) ∧ wc.heap[xb]? = some (.cells #[.string x.f0, .int .i64 x.f1, .int .i64 x.f2, .slice A3' x.f3.length c3'] 39 (0, 0)) ∧ DO w wc w.heap.size (w.heap.size + 1) G nb ob (numL G hs.length hs.length) (.slice Ac cs.length cc) (.slice Ah D.length ch) cs D n)
                case first =>
                  clear y0 y1 y3
                  by_cases c : x.f2 = -1
                  · have hE := Lib.hid (drop_f2_none G c)
                    have hn0 : ¬ 0 ≤ x.f2 := by omega
                    have hs0 : decide (0 ≤ x.f2) = false := decide_eq_false hn0
                    clear c
                    go_wp2
                    go_meet
                    case rel => exact ⟨by rw [hE.out]; exact hY, hXy, hOy⟩
                  · obtain ⟨p, hp⟩ : ∃ p : Nat, x.f2 = p := ⟨x.f2.toNat, by have := hgd.see; omega⟩
                    have hpn : p < hs.length := by have := hgd.see; omega
                    have hE := Lib.hid (drop_f2_some G p hp)
                    have hnp := (blk_cell hOy.dn.num p).trans (intV_get _ p (by rw [numL_len]; omega))
                    rw [numL_get _ _ _ _ hpn, if_pos hpn] at hnp
                    have hY2 := blk_put hY 2 (.int .i64 (numT G p : Int)) (cs' := #[.string x.f0, .int .i64 x.f1, .int .i64 (numT G p : Int), .slice none 0 0]) rfl
                    have hX2 := blk_far hXy (p := ⟨yb, 2, none⟩) hxy (.int .i64 (numT G p : Int))
                    have hO2 := hOy.put hny 2 (.int .i64 (numT G p : Int))
                    have hpn2 : (p : Int) < hs.length := by omega
                    have hs0 : decide (0 ≤ x.f2) = true := decide_eq_true (by omega)
                    rw [hp] at x2 y2 hs0 ⊢
                    clear hp hgd c
                    go_wp2
                    go_meet
                    case rel => exact ⟨by rw [hE.out]; exact hY2, hX2, hO2⟩
                case rest =>
                  clear hY hXy hOy x0 x1 x2 x3 y0 y1 y2 y3 fy2
                  obtain ⟨hY, hX, hO⟩ := hcut
                  obtain ⟨s2, hs2⟩ : ∃ s, (dropHd G x).f2 = s := ⟨_, rfl⟩
                  have HD : Hid (dropHd G x = ⟨x.f0, x.f1, s2, keptL G x.f3⟩) := by show _ = _; rw [← hs2]; rfl
                  rw [hs2] at hY
                  obtain ⟨x0, x1, x2, x3⟩ := cells4 hX
                  have h32 := h4
                  have hm3 : x.f3.length ≤ 9223372036854775807 := (H5 _ hO.dn.dg.bel).2.1
                  have hm6 := few_also hgd.also
                  clear hs2
                  go_wp2
                  go_loopg [130] x.f3.length (fun gk v130 wr => ∃ (i : Nat) (vu : Value), i + gk = x.f3.length ∧ v130 = .int .i64 i ∧ wr.heap[yb]? = some (.cells #[.string x.f0, .int .i64 x.f1, .int .i64 s2, vu] 39 (0, 0)) ∧ wr.heap[xb]? = some (.cells #[.string x.f0, .int .i64 x.f1, .int .i64 x.f2, .slice A3' x.f3.length c3'] 39 (0, 0)) ∧ Kd.R (Kd.int .i64) 3 wr w.heap.size (fun k => n ≤ k) vu (keptL G (x.f3.take i)) ∧ DO w wr w.heap.size (w.heap.size + 1) G nb ob (numL G hs.length hs.length) (.slice Ac cs.length cc) (.slice Ah D.length ch) cs D n)
                  case atStart => exact ⟨0, _, by omega, rfl, hY, hX, Kd.R_nil _ _ _ _ _, hO⟩
                  case round =>
                    clear hY hX hO x0 x1 x2 x3
                    obtain ⟨i, vu, hi, rfl, hY, hX, hu, hO⟩ := hrel
                    by_cases hit : i < x.f3.length
                    · obtain ⟨p, hp⟩ : ∃ p : Nat, x.f3.getD i 0 = p := ⟨(x.f3.getD i 0).toNat, by have := (hgd.also i hit).1; omega⟩
                      have hpn : p < hs.length := by have := (hgd.also i hit).1; omega
                      obtain ⟨ad3, e, hx3⟩ := Kd.at_int (H5 _ hO.dn.dg.bel) (i : Int) (by omega) (by omega)
                      cases e
                      rw [Int.toNat_natCast, show rd x.f3 (i : Int) = (p : Int) from by unfold rd; rw [Int.toNat_natCast]; exact hp] at hx3
                      have HK := keptL_snoc G (x.f3.take i) (p : Int)
                      have hkl := keptL_len G (x.f3.take i)
                      have htl : (x.f3.take i).length ≤ i := List.length_take_le _ _
                      rw [← hp, ← take_succD x.f3 i hit, hp, Int.toNat_natCast] at HK
                      obtain ⟨KL, hKe⟩ : ∃ KL, keptL G (x.f3.take i) = KL := ⟨_, rfl⟩
                      have HHp := fun W => HH p (by omega) W
                      obtain ⟨b, hbt⟩ : ∃ b, G.testBit p = b := ⟨_, rfl⟩
                      rw [hKe] at HK hkl hu
                      rw [hbt] at HK
                      simp only [hbt] at HHp
                      have hg0 := (blk_cell hO.dn.dg.gon 0).trans rfl
                      have HK := Lib.hid HK
                      clear hp hKe hbt
                      cases b with
                      | true =>
                        have HK2 : Hid (keptL G (x.f3.take (i + 1)) = KL) := by show _ = _; rw [HK.out]; exact List.append_nil _
                        clear HK
                        go_wp2_with (go_at_call 75; (with_reducible refine (HHp _).mono ?_); rintro e w2 ⟨rfl, rfl⟩)
                        go_roundg (x.f3.length - (i + 1))
                        case measure => omega
                        case rel => exact ⟨i + 1, _, by omega, by go_num, hY, hX, by rw [HK2.out]; exact hu, hO⟩
                      | false =>
                        have HK2 : Hid (keptL G (x.f3.take (i + 1)) = KL ++ [(numT G p : Int)]) := HK.out
                        obtain ⟨Au, cu, rfl, hlu, -⟩ := Kd.R_reads hu
                        have hy3 := (blk_cell hY 3).trans rfl
                        have hnget := intV_get (numL G hs.length hs.length) p (by rw [numL_len]; omega)
                        rw [numL_get _ _ _ _ hpn, if_pos hpn] at hnget
                        obtain ⟨m, hm⟩ : ∃ m, (numT G p : Int) = m := ⟨_, rfl⟩
                        rw [hm] at hnget HK2
                        have hnp := (blk_cell hO.dn.num p).trans hnget
                        have hpn2 : (p : Int) < hs.length := by omega
                        clear HK hm
                        go_upto_region 39 with (go_at_call 75; (with_reducible refine (HHp _).mono ?_); rintro e w2 ⟨rfl, rfl⟩)
                        have hbd := below_drew (Below.refl wr.heap.size wr)
                        replace hY := blk_below hY hbd
                        replace hX := blk_below hX hbd
                        replace hu := Kd.R_below hu hbd
                        replace hO := hO.all hbd
                        obtain ⟨wd, hwd⟩ : ∃ W, W = wr.drew := ⟨_, rfl⟩
                        rw [← hwd] at hY hX hu hO
                        clear hbd
                        have hy3 : wd.cell? ⟨yb, 3, none⟩ = some (.slice Au KL.length cu) := (blk_cell hY 3).trans rfl
                        have hnp : wd.cell? ⟨nb, p, none⟩ = some (.int .i64 m) := (blk_cell hO.dn.num p).trans hnget
                        refine wp_region_M (S := fun W => W.cell? ⟨yb, 3, none⟩ = some (.slice Au KL.length cu) ∧ W.cell? ⟨nb, p, none⟩ = some (.int .i64 m)) [9] (by kernel_rfl) (by rw [← hwd]; exact ⟨hy3, hnp⟩) (fun hHeld => ?_)
                        replace hHeld := And.intro hy3 hnp
                        rw [← hwd]
                        clear hwd
                        refine wpAnyM_take [0, 1, 7, 8, 9] (i := 0) (oi := _) (v := ?hv0) rfl (by kernel_rfl) (fun _ _ _ h => h) (Or.inl ⟨by rfl, ?hy0⟩) (by assumption) ?re0
                        case hy0 => intro W hSw; (try dsimp only at hSw); go_simp; try with_reducible rfl
                        try simp only [Act.put, List.setIfInBounds_toArray, List.set_cons_zero, List.set_cons_succ]
                        refine wpAnyM_take [1, 7, 8, 9] (i := 1) (oi := _) (v := ?hv1) rfl (by kernel_rfl) (fun _ _ _ h => h) (Or.inl ⟨by rfl, ?hy1⟩) (by assumption) ?re1
                        case hy1 => intro W hSw; (try dsimp only at hSw); go_simp; try with_reducible rfl
                        try simp only [Act.put, List.setIfInBounds_toArray, List.set_cons_zero, List.set_cons_succ]
                        refine wpAnyM_take [2, 4, 5, 6, 7, 8, 9] (i := 2) (oi := _) (v := ?hv2) rfl (by kernel_rfl) (fun _ _ _ h => h) (Or.inl ⟨by rfl, ?hy2⟩) (by assumption) ?re2
                        case hy2 => intro W hSw; (try dsimp only at hSw); go_simp; try with_reducible rfl
                        try simp only [Act.put, List.setIfInBounds_toArray, List.set_cons_zero, List.set_cons_succ]
                        refine wpAnyM_take [3, 4, 5, 6, 7, 8, 9] (i := 3) (oi := _) (v := ?hv3) rfl (by kernel_rfl) (fun _ _ _ h => h) (Or.inl ⟨by rfl, ?hy3⟩) (by assumption) ?re3
                        case hy3 => intro W hSw; (try dsimp only at hSw); go_simp; try with_reducible rfl
                        try simp only [Act.put, List.setIfInBounds_toArray, List.set_cons_zero, List.set_cons_succ]
                        refine wpAnyM_take [4, 5, 6, 7, 8, 9] (i := 4) (oi := _) (v := ?hv4) rfl (by kernel_rfl) (fun _ _ _ h => h) (Or.inl ⟨by rfl, ?hy4⟩) (by assumption) ?re4
                        case hy4 => intro W hSw; (try dsimp only at hSw); go_simp; try with_reducible rfl
                        try simp only [Act.put, List.setIfInBounds_toArray, List.set_cons_zero, List.set_cons_succ]
                        refine wpAnyM_take [5, 6, 7, 8, 9] (i := 5) (oi := _) (v := ?hv5) rfl (by kernel_rfl) (fun _ _ _ h => h) (Or.inl ⟨by rfl, ?hy5⟩) (by assumption) ?re5
                        case hy5 => intro W hSw; (try dsimp only at hSw); go_simp; try with_reducible rfl
                        try simp only [Act.put, List.setIfInBounds_toArray, List.set_cons_zero, List.set_cons_succ]
                        have hba := (Below.refl wd.heap.size wd).alloc (Nat.le_refl _) (.cells #[.int .i64 m] 3)
                        refine wpAnyM_one (i := 6) (o := _) (by kernel_rfl) rfl (fun K hK => ?_)
                        go_simp
                        refine hK.out _ _ (fun _ => ⟨pw_cell_below hba hy3, pw_cell_below hba hnp⟩) (fun hHeld => ?_)
                        replace hHeld := hHeld (by decide)
                        clear hK
                        clear K
                        try simp only [Act.put, List.setIfInBounds_toArray, List.set_cons_zero, List.set_cons_succ]
                        refine wpAnyM_one (i := 7) (o := _) (by kernel_rfl) rfl (fun K hK => ?_)
                        refine Kd.R_append_step (Kd.int .i64) (w0 := wd) (W := wd) w.heap.size (by rfl) _ _ 22 3 (.int .i64 0) 8 (by rfl) Try.underlying22 info3' (by rfl) (by decide) (by decide) (.slice Au KL.length cu) KL m [.int .i64 m] (fun k => n ≤ k) (fun _ => False) (by rfl) (by rfl) rfl (fun _ h => h.elim) (fun k hk => Nat.le_trans hO.nW hk) hu (Below.refl _ _) hO.dn.dg.bel.size (by omega) ?_
                        intro v8 w8 hv8 hb8 hg8 hat8
                        have hO8 := hO.below ((Below.refl n wd).grown hg8 hO.nW (fun k hk => hu.1 k hk))
                        have hY8 := blk_grown hY hg8 (Kd.R_ne hu hY (by decide))
                        have hX8 := blk_grown hX hg8 (Kd.R_ne hu hX (by decide))
                        have hy38 := (blk_cell hY8 3).trans rfl
                        have hf8 := blk_frozen hY8 3
                        have hnp8 := (blk_cell hO8.dn.num p).trans hnget
                        refine hK.out _ _ (fun _ => ⟨hy38, hnp8⟩) (fun hHeld => ?_)
                        replace hHeld := hHeld (by decide)
                        clear hK
                        clear K
                        try simp only [Act.put, List.setIfInBounds_toArray, List.set_cons_zero, List.set_cons_succ]
                        refine wpAnyM_take [8, 9] (i := 8) (oi := _) (v := ?hv8x) rfl (by kernel_rfl) (fun _ _ _ h => h) (Or.inl ⟨by rfl, ?hy8x⟩) (by assumption) ?re8x
                        case hy8x => intro W hSw; (try dsimp only at hSw); go_simp; try with_reducible rfl
                        try simp only [Act.put, List.setIfInBounds_toArray, List.set_cons_zero, List.set_cons_succ]
                        obtain ⟨A8, n8, rfl⟩ := Kd.R_slice hv8
                        refine wpAnyM_one (i := 9) (o := _) (by kernel_rfl) rfl (fun K hK => ?_)
                        go_simp
                        refine hK.out _ _ (fun h => absurd (by decide) h) (fun _ => ?_)
                        clear hK
                        clear K
                        try simp only [Act.put, List.setIfInBounds_toArray, List.set_cons_zero, List.set_cons_succ]
                        refine wpAnyM_done (by kernel_rfl) ?_ _
                        try simp only [Act.put, List.setIfInBounds_toArray, List.set_cons_zero, List.set_cons_succ]
                        obtain ⟨hY9, hu9⟩ := also_put' hY8 hv8
                        have hO9 := hO8.put hny 3 (.slice A8 (KL ++ [m]).length n8)
                        have hX9 := blk_far hX8 (p := ⟨yb, 3, none⟩) hxy (.slice A8 (KL ++ [m]).length n8)
                        go_wp2
                        go_roundg (x.f3.length - (i + 1))
                        case measure => omega
                        case rel =>
                          simp only [List.length_append, List.length_singleton] at hY9 hu9 hX9 hO9
                          exact ⟨i + 1, _, by omega, by go_num, hY9, hX9, by rw [HK2.out]; exact hu9, hO9⟩
                    · obtain rfl : i = x.f3.length := by omega
                      rw [List.take_length] at hu
                      have hkl := keptL_len G x.f3
                      obtain ⟨K, hKe⟩ : ∃ K, keptL G x.f3 = K := ⟨_, rfl⟩
                      rw [hKe] at hu HD hkl
                      have HD2 := Lib.hid HD.out
                      clear hKe HD
                      obtain ⟨Au, cu, rfl, hlu, -⟩ := Kd.R_reads hu
                      have t0 := (blk_cell hO.ob 0).trans rfl
                      have t1 := (blk_cell hO.ob 1).trans rfl
                      have q0 := (blk_cell hY 0).trans rfl
                      have q1 := (blk_cell hY 1).trans rfl
                      have q2 := (blk_cell hY 2).trans rfl
                      have q3 := (blk_cell hY 3).trans rfl
                      go_wp2_with (at_builtin; go_loud (refine Kd.S_append k39 (w0 := wr) (W := wr) w.heap.size (by rfl) _ _ 24 39 _ 56 (by rfl) Try.underlying24 info39 (by rfl) (by decide) (by decide) (.slice Ah D.length ch) D ⟨x.f0, x.f1, s2, K⟩ [.string x.f0, .int .i64 x.f1, .int .i64 s2, .slice Au K.length cu] (fun _ => True) (fun k => n ≤ k) (by rfl) (by rfl) (k39_mkM _ _ _ _ hu) (fun k hk => ⟨trivial, fun e => by have := ((Kd.S_R hO.hh).1 k e.symm); omega⟩) (fun _ _ => trivial) (Kd.S_mono hO.hh (fun k hk => ⟨trivial, by omega⟩)) (Below.refl _ _) hO.dn.dg.bel.size (by omega) ?_); intro v8 w8 hv8 hb8 hg8 hat8; obtain ⟨A8, n8, rfl⟩ := Kd.S_slice hv8; obtain ⟨hq8, hf8, hO8⟩ := hO.heads hv8 hb8 hg8)
                      go_roundg (hs.length - (j + 1))
                      case measure => omega
                      case rel =>
                        simp only [List.length_append, List.length_singleton] at hO8
                        exact ⟨j + 1, _, _, by omega, by go_num, by rw [HS2.out, HD2.out]; exact hO8⟩
            · obtain rfl : j = hs.length := by omega
              rw [← HR.out] at hO
              obtain ⟨Ah, ch, rfl, hlh, -⟩ := Kd.S_reads hO.hh
              have hc0 := (blk_cell hO.ob 0).trans rfl
              have hc1 := (blk_cell hO.ob 1).trans rfl
              have hb0 := (blk_cell hO.dn.dg.res 0).trans rfl
              have hb1 := (blk_cell hO.dn.dg.res 1).trans rfl
              have hf0 := blk_frozen hO.dn.dg.res 0
              have hf1 := blk_frozen hO.dn.dg.res 1
              obtain ⟨hq, hRq, hSq, hBq⟩ := hO.final
              go_wp2
              refine bodyPost_ret (results_cell_row rfl _ _ w.heap.size 26 #[.slice Ac cs.length cc, .slice Ah R.length ch] (0, 0) _ rfl hq Try.underlying26 rfl (by kernel_rfl)) rfl ?_
              exact ⟨_, _, rfl, hRq, hSq, hBq⟩
end Go.Proofs.Ytfbimhnlcmdcpaa.Pa
/- The contract of Drop. -/
namespace Go.Proofs.Ytfbimhnlcmdcpaa.Pa
open Go.RowKit Go.Proofs.YtfbimhnlcmdcpaaW.PrintWords Go.Proofs.YtfbimhnlcmdcpaaW.PrintLast Go.Proofs.YtfbimhnlcmdcpaaW.PrintMore
set_option linter.unusedVariables false
set_option linter.unusedSimpArgs false

theorem drop_store {w W : World} {r base : Nat} {v0 v1 : Value} {cs : List Cl} {out : List Hd} (hr : W.heap[r]? = some (.cells #[.slice none 0 0, .slice none 0 0] 26 (0, 0))) (h0 : Kd.R k51 51 W base (fun _ => True) v0 cs) (h1 : Kd.S k39 39 W base (fun _ => True) v1 out) (hb : Below w.heap.size w W) (hw : w.heap.size ≤ r) :
    ((W.setCell ⟨r, 0, none⟩ v0).setCell ⟨r, 1, none⟩ v1).heap[r]? = some (.cells #[v0, v1] 26 (0, 0)) ∧ Kd.R k51 51 ((W.setCell ⟨r, 0, none⟩ v0).setCell ⟨r, 1, none⟩ v1) base (fun _ => True) v0 cs ∧ Kd.S k39 39 ((W.setCell ⟨r, 0, none⟩ v0).setCell ⟨r, 1, none⟩ v1) base (fun _ => True) v1 out ∧ Below w.heap.size w ((W.setCell ⟨r, 0, none⟩ v0).setCell ⟨r, 1, none⟩ v1) := by
  have hb1 := blk_put hr 0 v0 (cs' := #[v0, .slice none 0 0]) rfl
  have g0 := Kd.R_far (p := ⟨r, 0, none⟩) (Kd.R_types h0 hr (by decide)) (fun k hk => hk.2) v0
  have g1 := Kd.S_far (p := ⟨r, 0, none⟩) (Kd.S_types h1 hr (by decide)) (fun k hk => hk.2) v0
  exact ⟨blk_put hb1 1 v1 rfl, Kd.R_mono (Kd.R_far (p := ⟨r, 1, none⟩) g0 (fun k hk => hk.2) v1) (fun _ _ => trivial), Kd.S_mono (Kd.S_far (p := ⟨r, 1, none⟩) g1 (fun k hk => hk.2) v1) (fun _ _ => trivial), below_set (below_set hb hw) hw⟩

set_option maxHeartbeats 1000000 in
set_option maxRecDepth 100000 in
theorem trade_Drop.calls (A0_0 : Option Addr) (c0_0 : Nat) (l0_0 : List (S51)) (A0_1 : Option Addr) (c0_1 : Nat) (l0_1 : List (S39)) (a1 : Int) (r1 : List (S51)) (r2 : List (S39)) (r3 : Int) (w : World) (hr0_0 : Kd.C k51 w A0_0 l0_0.length l0_0) (hc0_0 : l0_0.length ≤ c0_0) (hr0_1 : Kd.C k39 w A0_1 l0_1.length l0_1) (hc0_1 : l0_1.length ≤ c0_1) (h : trade_Drop.f l0_0 l0_1 a1 = some (r1, r2, r3)) :
    Calls Try.prog 29 #[.agg #[.slice A0_0 l0_0.length c0_0, .slice A0_1 l0_1.length c0_1], .int .i64 a1] w fun e w' => ∃ v0_ v1_ : Value, e = .returned (.tuple #[.agg #[v0_, v1_], .int .i64 r3]) ∧ Kd.R k51 51 w' w.heap.size (fun _ => True) v0_ r1 ∧ Kd.S k39 39 w' w.heap.size (fun _ => True) v1_ r2 ∧ Below w.heap.size w w' := by
  have hu2 := Try.underlying26
  obtain ⟨wa, hwa⟩ : ∃ W, W = w.alloc (.cells #[.slice A0_0 l0_0.length c0_0, .slice A0_1 l0_1.length c0_1] 26) := ⟨_, rfl⟩
  have hB0 := (Below.refl w.heap.size w).alloc (Nat.le_refl _) (.cells #[.slice A0_0 l0_0.length c0_0, .slice A0_1 l0_1.length c0_1] 26)
  have hza : wa.heap.size = w.heap.size + 1 := by rw [hwa, World.size_alloc]
  rw [← hwa] at hB0
  have hB1 := hB0.alloc hB0.size (.cells #[.slice none 0 0, .slice none 0 0] 26)
  have hB2 := hB1.alloc hB1.size (.cells #[.int .i64 a1] 3)
  have hcq := second_cell wa (.cells #[.slice none 0 0, .slice none 0 0] 26) (.int .i64 a1)
  have hrr := blk_alloc (heap_alloc_new wa (.cells #[.slice none 0 0, .slice none 0 0] 26)) (.cells #[.int .i64 a1] 3)
  have hbb := blk_alloc (blk_alloc (heap_alloc_new w (.cells #[.slice A0_0 l0_0.length c0_0, .slice A0_1 l0_1.length c0_1] 26)) (.cells #[.slice none 0 0, .slice none 0 0] 26)) (.cells #[.int .i64 a1] 3)
  rw [← hwa] at hbb
  rw [hza] at hcq hrr
  clear hza
  subst hwa
  have h := Option.some.inj h
  by_cases hz : askT l0_0 l0_1 a1 = 0
  · obtain ⟨hv, n, rfl, hn⟩ := askT_zero hz
    have HG := fun W q (hW : Below w.heap.size w W) hq => ask_good A0_0 A0_1 c0_0 c0_1 l0_0 l0_1 q n W (Kd.C_below hr0_0 hW) (Kd.C_below hr0_1 hW) hc0_0 hc0_1 hq hv hn
    have HF := fun W g (hL : IsList W g l0_0 l0_1) => drop_any g l0_0 l0_1 n W hL hv hn
    rw [if_neg (by omega), Int.toNat_natCast] at h
    simp only [Prod.mk.injEq] at h
    obtain ⟨h1, h2, rfl⟩ := h
    subst h1
    simp only [h2] at HF
    clear hz h2
    go_enter Try.func29, Try.ntmps29
    go_upto_region 4 with (go_at_call 51; go_loud ((with_reducible refine (HG _ _ hB2 hcq).mono ?_); rintro e w1 ⟨g, rfl, hL1, hb1⟩))
    have HB1 := below_then hB2 hB2.size hb1
    have hr1 := blk_below hrr hb1
    clear hb1 hB2 hB1 hcq hrr hbb hB0
    go_upto_region 5 with (go_at_call 65; (with_reducible refine (HF _ _ hL1).mono ?_); rintro e w3 ⟨v0, v1, rfl, hR3, hS3, hb3⟩; obtain ⟨A3, c3, rfl⟩ := Kd.R_slice hR3; obtain ⟨A4, c4, rfl⟩ := Kd.S_slice hS3; have hr3 := blk_below hr1 hb3; have q0 := (blk_cell hr3 0).trans rfl; have q1 := (blk_cell hr3 1).trans rfl; have f0 := blk_frozen hr3 0; have f1 := blk_frozen hr3 1)
    obtain ⟨hq, hRq, hSq, hBq⟩ := drop_store (w := w) hr3 hR3 hS3 (below_then HB1 HB1.size hb3) (by omega)
    clear q0 q1 f0 f1
    go_wp2
    refine bodyPost_ret (results_ct rfl _ _ (w.heap.size + 1) 26 #[.slice A3 l0_0.length c3, .slice A4 r2.length c4] (0, 0) _ rfl hq Try.underlying26 rfl (by kernel_rfl)) rfl ?_
    exact ⟨_, _, rfl, Kd.R_lower hRq HB1.size, Kd.S_lower hSq HB1.size, hBq⟩
  · have HG := fun W q (hW : Below w.heap.size w W) hq => ask_bad A0_0 A0_1 c0_0 c0_1 l0_0 l0_1 q a1 W (Kd.C_below hr0_0 hW) (Kd.C_below hr0_1 hW) hc0_0 hc0_1 hq hz
    rw [if_pos hz] at h
    obtain ⟨z, hze⟩ : ∃ z, askT l0_0 l0_1 a1 = z := ⟨_, rfl⟩
    rw [hze] at h hz
    simp only [Prod.mk.injEq] at h
    obtain ⟨rfl, rfl, rfl⟩ := h
    simp only [hze] at HG
    have hz1 : (z != 0) = true := bne_iff_ne.mpr hz
    clear hz hze
    go_enter Try.func29, Try.ntmps29
    go_upto_region 2 with (go_at_call 51; go_loud ((with_reducible refine (HG _ _ hB2 hcq).mono ?_); rintro e w1 ⟨rfl, hb1⟩))
    have HB1 := below_then hB2 hB2.size hb1
    have hr1 := blk_below hrr hb1
    clear hb1 hB2 hB1 hcq hrr hbb hB0
    have q0 := (blk_cell hr1 0).trans rfl
    have q1 := (blk_cell hr1 1).trans rfl
    have f0 := blk_frozen hr1 0
    have f1 := blk_frozen hr1 1
    obtain ⟨hq, hRq, hSq, hBq⟩ := drop_store (w := w) hr1 (Kd.R_nil _ _ _ _ _) (Kd.S_nil _ _ _ _ _) HB1 (by omega)
    go_wp2
    refine bodyPost_ret (results_ct rfl _ _ (w.heap.size + 1) 26 #[.slice none 0 0, .slice none 0 0] (0, 0) _ rfl hq Try.underlying26 rfl (by kernel_rfl)) rfl ?_
    exact ⟨_, _, rfl, hRq, hSq, hBq⟩
end Go.Proofs.Ytfbimhnlcmdcpaa.Pa
namespace Go.Proofs.Ytfbimhnlcmdcpaa.Pa
open Go.RowKit Go.Proofs.YtfbimhnlcmdcpaaW.PrintWords Go.Proofs.YtfbimhnlcmdcpaaW.PrintLast Go.Proofs.YtfbimhnlcmdcpaaW.PrintMore
attribute [local go_sem] max2_int min2_int max_two min_two max_three min_three max_four min_four   -- for this text's walks alone
set_option linter.unusedVariables false
set_option linter.unusedSimpArgs false


/-- A state of type 72 at block g of W; what its slices lead to came in by w0. -/
def IsS72 (w0 W : World) (g : Nat) (f0 : List Int) (f1 : Int) (f2 : Int) : Prop := ∃ A0 c0, W.heap[g]? = some (.cells #[.slice A0 f0.length c0, .int .i64 f1, .int .u64 f2] 72 (0, 0)) ∧ w0.heap.size ≤ g ∧ Kd.C (Kd.int .i64) w0 A0 f0.length f0
theorem IsS72.grown {w0 W : World} {g : Nat} {f0 : List Int} {f1 : Int} {f2 : Int} {W1 : World} {row : Option Nat} (h : IsS72 w0 W g f0 f1 f2) (hw : W.grownBy W1 row) (hne : some g ≠ row) : IsS72 w0 W1 g f0 f1 f2 := by
  obtain ⟨A0, c0, hb, hg, hr0⟩ := h
  exact ⟨A0, c0, blk_grown hb hw hne, hg, hr0⟩
theorem IsS72.fresh {w0 W : World} {g : Nat} {f0 : List Int} {f1 : Int} {f2 : Int} (h : IsS72 w0 W g f0 f1 f2) : ∀ k, W.heap.size ≤ k → k ≠ g := by
  obtain ⟨A0, c0, hb, hg, hr0⟩ := h
  exact Kd.freshB hb
theorem IsS72.kept {w0 W : World} {g : Nat} {f0 : List Int} {f1 : Int} {f2 : Int} {W1 : World} {S : Nat → Prop} (h : IsS72 w0 W g f0 f1 f2) (hk : Kept W W1 S) (hne : ¬ S g) : IsS72 w0 W1 g f0 f1 f2 := by
  obtain ⟨A0, c0, hb, hg, hr0⟩ := h
  exact ⟨A0, c0, blk_kept hb hk hne, hg, hr0⟩
theorem IsS72.below {w0 W : World} {g : Nat} {f0 : List Int} {f1 : Int} {f2 : Int} {W1 : World} (h : IsS72 w0 W g f0 f1 f2) (hw : Below W.heap.size W W1) : IsS72 w0 W1 g f0 f1 f2 := h.grown (grown_of_below hw none) (by simp)
theorem IsS72.alloc {w0 W : World} {g : Nat} {f0 : List Int} {f1 : Int} {f2 : Int} (h : IsS72 w0 W g f0 f1 f2) (o : Obj) : IsS72 w0 (W.alloc o) g f0 f1 f2 := h.below (below_alloc (Below.refl _ _) o)
theorem IsS72.drewN {w0 W : World} {g : Nat} {f0 : List Int} {f1 : Int} {f2 : Int} (h : IsS72 w0 W g f0 f1 f2) (m : Nat) : IsS72 w0 (W.drewN m) g f0 f1 f2 := h
theorem IsS72.drew {w0 W : World} {g : Nat} {f0 : List Int} {f1 : Int} {f2 : Int} (h : IsS72 w0 W g f0 f1 f2) : IsS72 w0 W.drew g f0 f1 f2 := h
theorem IsS72.apart {w0 W : World} {g : Nat} {f0 : List Int} {f1 : Int} {f2 : Int} {α : Type} {d : Kd α} {e : Nat} {base : Nat} {ok : Nat → Prop} {v : Value} {xs : List α} (h : IsS72 w0 W g f0 f1 f2) (ho : d.R e W base ok v xs) (ht : ∀ q, q ∈ e :: d.E → q ≠ 72) : d.R e W base (fun k => ok k ∧ k ≠ g) v xs := by
  obtain ⟨A0, c0, hb, hg, hr0⟩ := h
  exact Kd.R_types ho hb ht
theorem IsS72.own_ne {w0 W : World} {g : Nat} {f0 : List Int} {f1 : Int} {f2 : Int} {α : Type} {d : Kd α} {e : Nat} {base : Nat} {ok : Nat → Prop} {v : Value} {xs : List α} (h : IsS72 w0 W g f0 f1 f2) (ho : d.R e W base ok v xs) (ht : e ≠ 72) : some g ≠ v.ownBlock := by
  obtain ⟨A0, c0, hb, hg, hr0⟩ := h
  exact Kd.R_ne ho hb ht
theorem IsS72.apartS {w0 W : World} {g : Nat} {f0 : List Int} {f1 : Int} {f2 : Int} {α : Type} {d : Kd α} {e : Nat} {base : Nat} {ok : Nat → Prop} {v : Value} {xs : List α} (h : IsS72 w0 W g f0 f1 f2) (ho : d.S e W base ok v xs) (ht : ∀ q, q ∈ e :: d.E → q ≠ 72) : d.S e W base (fun k => ok k ∧ k ≠ g) v xs := by
  obtain ⟨A0, c0, hb, hg, hr0⟩ := h
  exact Kd.S_types ho hb ht
theorem IsS72.own_neS {w0 W : World} {g : Nat} {f0 : List Int} {f1 : Int} {f2 : Int} {α : Type} {d : Kd α} {e : Nat} {base : Nat} {ok : Nat → Prop} {v : Value} {xs : List α} (h : IsS72 w0 W g f0 f1 f2) (ho : d.S e W base ok v xs) (ht : e ≠ 72) : some g ≠ v.ownBlock := by
  obtain ⟨A0, c0, hb, hg, hr0⟩ := h
  exact Kd.S_ne ho hb ht
theorem IsS72.lt {w0 W : World} {g : Nat} {f0 : List Int} {f1 : Int} {f2 : Int} (h : IsS72 w0 W g f0 f1 f2) : g < W.heap.size := by
  obtain ⟨A0, c0, hb, hg, hr0⟩ := h
  exact blk_lt hb
theorem IsS72.ge {w0 W : World} {g : Nat} {f0 : List Int} {f1 : Int} {f2 : Int} (h : IsS72 w0 W g f0 f1 f2) : w0.heap.size ≤ g := by
  obtain ⟨A0, c0, hb, hg, hr0⟩ := h
  exact hg
theorem IsS72.far {w0 W : World} {g : Nat} {f0 : List Int} {f1 : Int} {f2 : Int} {p : Addr} (h : IsS72 w0 W g f0 f1 f2) (hne : g ≠ p.block) (u : Value) : IsS72 w0 (W.setCell p u) g f0 f1 f2 := by
  obtain ⟨A0, c0, hb, hg, hr0⟩ := h
  exact ⟨A0, c0, blk_far hb hne u, hg, hr0⟩
theorem cellS72_0 {W : World} {g : Nat} {A0 : Option Addr} {c0 : Nat} {f0 : List Int} {f1 : Int} {f2 : Int} (h : W.heap[g]? = some (.cells #[.slice A0 f0.length c0, .int .i64 f1, .int .u64 f2] 72 (0, 0))) : W.cell? ⟨g, 0, none⟩ = some (.slice A0 f0.length c0) := (blk_cell h 0).trans rfl
theorem cellS72_1 {W : World} {g : Nat} {A0 : Option Addr} {c0 : Nat} {f0 : List Int} {f1 : Int} {f2 : Int} (h : W.heap[g]? = some (.cells #[.slice A0 f0.length c0, .int .i64 f1, .int .u64 f2] 72 (0, 0))) : W.cell? ⟨g, 1, none⟩ = some (.int .i64 f1) := (blk_cell h 1).trans rfl
theorem IsS72.set_1 {w0 W : World} {g : Nat} {f0 : List Int} {f1 : Int} {f2 : Int} (h : IsS72 w0 W g f0 f1 f2) (x : Int) : IsS72 w0 (W.setCell ⟨g, 1, none⟩ (.int .i64 x)) g f0 x f2 := by
  obtain ⟨A0, c0, hb, hg, hr0⟩ := h
  exact ⟨A0, c0, by simpa using blk_set hb 1 (.int .i64 x), hg, hr0⟩
theorem cellS72_2 {W : World} {g : Nat} {A0 : Option Addr} {c0 : Nat} {f0 : List Int} {f1 : Int} {f2 : Int} (h : W.heap[g]? = some (.cells #[.slice A0 f0.length c0, .int .i64 f1, .int .u64 f2] 72 (0, 0))) : W.cell? ⟨g, 2, none⟩ = some (.int .u64 f2) := (blk_cell h 2).trans rfl
theorem IsS72.set_2 {w0 W : World} {g : Nat} {f0 : List Int} {f1 : Int} {f2 : Int} (h : IsS72 w0 W g f0 f1 f2) (x : Int) : IsS72 w0 (W.setCell ⟨g, 2, none⟩ (.int .u64 x)) g f0 f1 x := by
  obtain ⟨A0, c0, hb, hg, hr0⟩ := h
  exact ⟨A0, c0, by simpa using blk_set hb 2 (.int .u64 x), hg, hr0⟩
theorem IsS72.new (w0 W : World) (A0 : Option Addr) (c0 : Nat) (f0 : List Int) (f1 : Int) (f2 : Int) (hB : Below w0.heap.size w0 W) (hr0 : Kd.C (Kd.int .i64) w0 A0 f0.length f0) : IsS72 w0 (W.alloc (.cells #[.slice A0 f0.length c0, .int .i64 f1, .int .u64 f2] 72)) W.heap.size f0 f1 f2 := ⟨A0, c0, by simpa using heap_alloc_new W _, hB.size, hr0⟩

/-! ### wayzgoosekit_Dice_raw: function 67 -/
def wayzgoosekit_Dice_raw.f (s0_0 : List Int) (s0_1 : Int) (s0_2 : Int) : Option (Int × Int × Int) := if s0_1 < (s0_0.length : Int) then (if 0 ≤ s0_1 then (some (Go.bits .xor .u64 (IntKind.u64.wrap ((Go.bits .xor .u64 (IntKind.u64.wrap ((Go.bits .xor .u64 (Go.bits .xor .u64 (Go.bits .xor .u64 s0_2 (IntKind.u64.wrap (s0_2 * 8192))) ((Go.bits .xor .u64 s0_2 (IntKind.u64.wrap (s0_2 * 8192))) / 128)) (IntKind.u64.wrap ((Go.bits .xor .u64 (Go.bits .xor .u64 s0_2 (IntKind.u64.wrap (s0_2 * 8192))) ((Go.bits .xor .u64 s0_2 (IntKind.u64.wrap (s0_2 * 8192))) / 128)) * 131072))) + (IntKind.u64.wrap ((IntKind.u64.wrap (rd s0_0 s0_1)) * 13787848793156543929)))) ((IntKind.u64.wrap ((Go.bits .xor .u64 (Go.bits .xor .u64 (Go.bits .xor .u64 s0_2 (IntKind.u64.wrap (s0_2 * 8192))) ((Go.bits .xor .u64 s0_2 (IntKind.u64.wrap (s0_2 * 8192))) / 128)) (IntKind.u64.wrap ((Go.bits .xor .u64 (Go.bits .xor .u64 s0_2 (IntKind.u64.wrap (s0_2 * 8192))) ((Go.bits .xor .u64 s0_2 (IntKind.u64.wrap (s0_2 * 8192))) / 128)) * 131072))) + (IntKind.u64.wrap ((IntKind.u64.wrap (rd s0_0 s0_1)) * 13787848793156543929)))) / 1073741824)) * 10723151780598845931)) ((IntKind.u64.wrap ((Go.bits .xor .u64 (IntKind.u64.wrap ((Go.bits .xor .u64 (Go.bits .xor .u64 (Go.bits .xor .u64 s0_2 (IntKind.u64.wrap (s0_2 * 8192))) ((Go.bits .xor .u64 s0_2 (IntKind.u64.wrap (s0_2 * 8192))) / 128)) (IntKind.u64.wrap ((Go.bits .xor .u64 (Go.bits .xor .u64 s0_2 (IntKind.u64.wrap (s0_2 * 8192))) ((Go.bits .xor .u64 s0_2 (IntKind.u64.wrap (s0_2 * 8192))) / 128)) * 131072))) + (IntKind.u64.wrap ((IntKind.u64.wrap (rd s0_0 s0_1)) * 13787848793156543929)))) ((IntKind.u64.wrap ((Go.bits .xor .u64 (Go.bits .xor .u64 (Go.bits .xor .u64 s0_2 (IntKind.u64.wrap (s0_2 * 8192))) ((Go.bits .xor .u64 s0_2 (IntKind.u64.wrap (s0_2 * 8192))) / 128)) (IntKind.u64.wrap ((Go.bits .xor .u64 (Go.bits .xor .u64 s0_2 (IntKind.u64.wrap (s0_2 * 8192))) ((Go.bits .xor .u64 s0_2 (IntKind.u64.wrap (s0_2 * 8192))) / 128)) * 131072))) + (IntKind.u64.wrap ((IntKind.u64.wrap (rd s0_0 s0_1)) * 13787848793156543929)))) / 1073741824)) * 10723151780598845931)) / 2147483648), wrap64 (s0_1 + 1), IntKind.u64.wrap ((Go.bits .xor .u64 (Go.bits .xor .u64 (Go.bits .xor .u64 s0_2 (IntKind.u64.wrap (s0_2 * 8192))) ((Go.bits .xor .u64 s0_2 (IntKind.u64.wrap (s0_2 * 8192))) / 128)) (IntKind.u64.wrap ((Go.bits .xor .u64 (Go.bits .xor .u64 s0_2 (IntKind.u64.wrap (s0_2 * 8192))) ((Go.bits .xor .u64 s0_2 (IntKind.u64.wrap (s0_2 * 8192))) / 128)) * 131072))) + (IntKind.u64.wrap ((IntKind.u64.wrap (rd s0_0 s0_1)) * 13787848793156543929))))) else (none)) else (some (Go.bits .xor .u64 (IntKind.u64.wrap ((Go.bits .xor .u64 (Go.bits .xor .u64 (Go.bits .xor .u64 (Go.bits .xor .u64 s0_2 (IntKind.u64.wrap (s0_2 * 8192))) ((Go.bits .xor .u64 s0_2 (IntKind.u64.wrap (s0_2 * 8192))) / 128)) (IntKind.u64.wrap ((Go.bits .xor .u64 (Go.bits .xor .u64 s0_2 (IntKind.u64.wrap (s0_2 * 8192))) ((Go.bits .xor .u64 s0_2 (IntKind.u64.wrap (s0_2 * 8192))) / 128)) * 131072))) ((Go.bits .xor .u64 (Go.bits .xor .u64 (Go.bits .xor .u64 s0_2 (IntKind.u64.wrap (s0_2 * 8192))) ((Go.bits .xor .u64 s0_2 (IntKind.u64.wrap (s0_2 * 8192))) / 128)) (IntKind.u64.wrap ((Go.bits .xor .u64 (Go.bits .xor .u64 s0_2 (IntKind.u64.wrap (s0_2 * 8192))) ((Go.bits .xor .u64 s0_2 (IntKind.u64.wrap (s0_2 * 8192))) / 128)) * 131072))) / 1073741824)) * 10723151780598845931)) ((IntKind.u64.wrap ((Go.bits .xor .u64 (Go.bits .xor .u64 (Go.bits .xor .u64 (Go.bits .xor .u64 s0_2 (IntKind.u64.wrap (s0_2 * 8192))) ((Go.bits .xor .u64 s0_2 (IntKind.u64.wrap (s0_2 * 8192))) / 128)) (IntKind.u64.wrap ((Go.bits .xor .u64 (Go.bits .xor .u64 s0_2 (IntKind.u64.wrap (s0_2 * 8192))) ((Go.bits .xor .u64 s0_2 (IntKind.u64.wrap (s0_2 * 8192))) / 128)) * 131072))) ((Go.bits .xor .u64 (Go.bits .xor .u64 (Go.bits .xor .u64 s0_2 (IntKind.u64.wrap (s0_2 * 8192))) ((Go.bits .xor .u64 s0_2 (IntKind.u64.wrap (s0_2 * 8192))) / 128)) (IntKind.u64.wrap ((Go.bits .xor .u64 (Go.bits .xor .u64 s0_2 (IntKind.u64.wrap (s0_2 * 8192))) ((Go.bits .xor .u64 s0_2 (IntKind.u64.wrap (s0_2 * 8192))) / 128)) * 131072))) / 1073741824)) * 10723151780598845931)) / 2147483648), s0_1, Go.bits .xor .u64 (Go.bits .xor .u64 (Go.bits .xor .u64 s0_2 (IntKind.u64.wrap (s0_2 * 8192))) ((Go.bits .xor .u64 s0_2 (IntKind.u64.wrap (s0_2 * 8192))) / 128)) (IntKind.u64.wrap ((Go.bits .xor .u64 (Go.bits .xor .u64 s0_2 (IntKind.u64.wrap (s0_2 * 8192))) ((Go.bits .xor .u64 s0_2 (IntKind.u64.wrap (s0_2 * 8192))) / 128)) * 131072))))
end Go.Proofs.Ytfbimhnlcmdcpaa.Pa
/- The contract of Dice.raw: the next number. -/
namespace Go.Proofs.Ytfbimhnlcmdcpaa.Pa
open Go.RowKit Go.Proofs.YtfbimhnlcmdcpaaW.PrintWords Go.Proofs.YtfbimhnlcmdcpaaW.PrintLast Go.Proofs.YtfbimhnlcmdcpaaW.PrintMore
attribute [local go_sem] max2_int min2_int max_two min_two max_three min_three max_four min_four
set_option linter.unusedVariables false
set_option linter.unusedSimpArgs false

set_option maxHeartbeats 8000000 in
set_option maxRecDepth 100000 in
theorem wayzgoosekit_Dice_raw.calls (g : Nat) (s0_0 : List Int) (s0_1 : Int) (s0_2 : Int) (r1 : Int) (r2 : Int) (r3 : Int) (w0 w : World) (hI : IsS72 w0 w g s0_0 s0_1 s0_2) (hB : Below w0.heap.size w0 w) (h : wayzgoosekit_Dice_raw.f s0_0 s0_1 s0_2 = some (r1, r2, r3)) :
    Calls Try.prog 67 #[.pointer (some ⟨g, 0, none⟩)] w fun e w' => e = .returned (.int .u64 r1) ∧ IsS72 w0 w' g s0_0 r2 r3 ∧ Below w0.heap.size w0 w' ∧ KeepBut w w' g none := by
  have hK := KeepBut.refl w g none
  have hge := hI.ge
  unfold wayzgoosekit_Dice_raw.f at h
  obtain ⟨v1, hv1⟩ : ∃ v, Go.bits .xor .u64 s0_2 (IntKind.u64.wrap (s0_2 * 8192)) = v := ⟨_, rfl⟩
  rw [hv1] at h
  obtain ⟨v2, hv2⟩ : ∃ v, Go.bits .xor .u64 v1 (v1 / 128) = v := ⟨_, rfl⟩
  rw [hv2] at h
  obtain ⟨v3, hv3⟩ : ∃ v, Go.bits .xor .u64 v2 (IntKind.u64.wrap (v2 * 131072)) = v := ⟨_, rfl⟩
  rw [hv3] at h
  have hI0 := hI
  obtain ⟨A0, c0, HG, -, HS⟩ := hI
  have hc0 := cellS72_0 HG
  have hc1 := cellS72_1 HG
  have hc2 := cellS72_2 HG
  have hf1 := blk_frozen HG 1
  have hf2 := blk_frozen HG 2
  go_enter Try.func67, Try.ntmps67
  go_upto_region 1 with (fail)
  go_region
  obtain ⟨w1, hw1⟩ : ∃ W, W = (w.setCell ⟨g, 2, none⟩ (.int .u64 v1)).drew := ⟨_, rfl⟩
  have hI : IsS72 w0 w1 g s0_0 s0_1 v1 := by rw [hw1]; exact (IsS72.set_2 ⟨A0, c0, HG, hge, HS⟩ v1).drew
  replace hB : Below w0.heap.size w0 w1 := by rw [hw1]; exact below_drew1 (below_set hB hge)
  replace hK : KeepBut w w1 g none := by rw [hw1]; exact keep_drew (KeepBut.set_ hK _ _)
  rw [← hw1]
  clear hw1 hc0 hc1 hc2 hf1 hf2 HG HS hv1
  clear A0 c0 hI0
  have hI0 := hI
  obtain ⟨A0, c0, HG, -, HS⟩ := hI
  have hc0 := cellS72_0 HG
  have hc1 := cellS72_1 HG
  have hc2 := cellS72_2 HG
  have hf1 := blk_frozen HG 1
  have hf2 := blk_frozen HG 2
  go_upto_region 2 with (fail)
  go_region
  obtain ⟨w2, hw2⟩ : ∃ W, W = (w1.setCell ⟨g, 2, none⟩ (.int .u64 v2)).drew := ⟨_, rfl⟩
  have hI : IsS72 w0 w2 g s0_0 s0_1 v2 := by rw [hw2]; exact (IsS72.set_2 ⟨A0, c0, HG, hge, HS⟩ v2).drew
  replace hB : Below w0.heap.size w0 w2 := by rw [hw2]; exact below_drew1 (below_set hB hge)
  replace hK : KeepBut w w2 g none := by rw [hw2]; exact keep_drew (KeepBut.set_ hK _ _)
  rw [← hw2]
  clear hw2 hc0 hc1 hc2 hf1 hf2 HG HS hv2
  clear A0 c0 hI0
  have hI0 := hI
  obtain ⟨A0, c0, HG, -, HS⟩ := hI
  have hc0 := cellS72_0 HG
  have hc1 := cellS72_1 HG
  have hc2 := cellS72_2 HG
  have hf1 := blk_frozen HG 1
  have hf2 := blk_frozen HG 2
  go_upto_region 3 with (fail)
  go_region
  obtain ⟨w3, hw3⟩ : ∃ W, W = (w2.setCell ⟨g, 2, none⟩ (.int .u64 v3)).drew := ⟨_, rfl⟩
  have hI : IsS72 w0 w3 g s0_0 s0_1 v3 := by rw [hw3]; exact (IsS72.set_2 ⟨A0, c0, HG, hge, HS⟩ v3).drew
  replace hB : Below w0.heap.size w0 w3 := by rw [hw3]; exact below_drew1 (below_set hB hge)
  replace hK : KeepBut w w3 g none := by rw [hw3]; exact keep_drew (KeepBut.set_ hK _ _)
  rw [← hw3]
  clear hw3 hc0 hc1 hc2 hf1 hf2 HG HS hv3
  clear A0 c0 hI0
  have hI0 := hI
  obtain ⟨A0, c0, HG, -, HS⟩ := hI
  have hc0 := cellS72_0 HG
  have hc1 := cellS72_1 HG
  have hc2 := cellS72_2 HG
  have hf1 := blk_frozen HG 1
  have hf2 := blk_frozen HG 2
  go_upto_region 4 with (fail)
  by_cases c2 : s0_1 < (s0_0.length : Int)
  · rw [if_pos c2] at h
    by_cases c3 : 0 ≤ s0_1
    · rw [if_pos c3] at h
      obtain ⟨v4, hv4⟩ : ∃ v, IntKind.u64.wrap (v3 + (IntKind.u64.wrap ((IntKind.u64.wrap (rd s0_0 s0_1)) * 13787848793156543929))) = v := ⟨_, rfl⟩
      rw [hv4] at h
      obtain ⟨rfl, rfl, rfl⟩ : _ = r1 ∧ _ = r2 ∧ _ = r3 := by simpa only [Option.some.injEq, Prod.mk.injEq] using h
      clear h
      obtain ⟨ad, rfl, hx⟩ := Kd.at_int HS s0_1 c3 c2
      have hx3 := pw_cell_below hB hx
      have p1 := eq_true c3
      have q1 := eq_true c2
      have c2b : decide (s0_1 < (s0_0.length : Int)) = true := decide_eq_true c2
      clear c2 c3
      go_region
      go_upto_region 5 with (fail)
      go_region
      go_wp2
      go_ret
      exact ⟨rfl, ((hI0.set_2 v4).set_1 (wrap64 (s0_1 + 1))).drew.drew, below_drew1 (below_drew1 (below_set (below_set hB hge) hge)), keep_drew (keep_drew (KeepBut.set_ (KeepBut.set_ hK _ _) _ _))⟩
    · rw [if_neg c3] at h
      cases h
  · rw [if_neg c2] at h
    have c2b : decide (s0_1 < (s0_0.length : Int)) = false := decide_eq_false c2
    obtain ⟨rfl, rfl, rfl⟩ : _ = r1 ∧ _ = r2 ∧ _ = r3 := by simpa only [Option.some.injEq, Prod.mk.injEq] using h
    clear h
    go_region
    go_wp2
    go_ret
    exact ⟨rfl, hI0.drewN _, pw_below_drewN hB _, keep_drewN hK _⟩
end Go.Proofs.Ytfbimhnlcmdcpaa.Pa
namespace Go.Proofs.Ytfbimhnlcmdcpaa.Pa
open Go.RowKit Go.Proofs.YtfbimhnlcmdcpaaW.PrintWords Go.Proofs.YtfbimhnlcmdcpaaW.PrintLast Go.Proofs.YtfbimhnlcmdcpaaW.PrintMore
attribute [local go_sem] max2_int min2_int max_two min_two max_three min_three max_four min_four   -- for this text's walks alone
set_option linter.unusedVariables false
set_option linter.unusedSimpArgs false

/-! ### wayzgoosekit_Dice_To: function 32 -/
def wayzgoosekit_Dice_To.f (s0_0 : List Int) (s0_1 : Int) (s0_2 : Int) (a1 : Int) : Option (Int × Int × Int) := if a1 < 1 then (some (0, s0_1, s0_2)) else ((wayzgoosekit_Dice_raw.f s0_0 s0_1 s0_2).bind fun bt102 => (if (IntKind.u64.wrap (wrap64 (a1 + 1))) = 0 then (none) else (some (wrap64 (Int.tmod (bt102.1 / 65536) (IntKind.u64.wrap (wrap64 (a1 + 1)))), bt102.2.1, bt102.2.2))))
set_option maxHeartbeats 8000000 in
set_option maxRecDepth 100000 in
theorem wayzgoosekit_Dice_To.calls (g : Nat) (s0_0 : List Int) (s0_1 : Int) (s0_2 : Int) (a1 : Int) (r1 : Int) (r2 : Int) (r3 : Int) (w0 w : World) (hI : IsS72 w0 w g s0_0 s0_1 s0_2) (hB : Below w0.heap.size w0 w) (h : wayzgoosekit_Dice_To.f s0_0 s0_1 s0_2 a1 = some (r1, r2, r3)) :
    Calls Try.prog 32 #[.pointer (some ⟨g, 0, none⟩), .int .i64 a1] w fun e w' => e = .returned (.int .i64 r1) ∧ IsS72 w0 w' g s0_0 r2 r3 ∧ Below w0.heap.size w0 w' ∧ KeepBut w w' g none := by
  have HI0 := Aside0.mk hI
  have HK := Aside0.mk (KeepBut.refl w g none)
  have HL := Aside0.mk hB.size
  clear hI
  have HW0 := Aside0.mk hB.size
  have HB := Aside0.mk hB
  clear hB
  have H : (if a1 < 1 then (some (0, s0_1, s0_2)) else ((wayzgoosekit_Dice_raw.f s0_0 s0_1 s0_2).bind fun bt102 => (if (IntKind.u64.wrap (wrap64 (a1 + 1))) = 0 then (none) else (some (wrap64 (Int.tmod (bt102.1 / 65536) (IntKind.u64.wrap (wrap64 (a1 + 1)))), bt102.2.1, bt102.2.2))))) = some (r1, r2, r3) := h
  clear h
  by_cases c3 : a1 < 1
  · rw [if_pos c3] at H
    have c3b0 : decide (a1 < 1) = true := decide_eq_true c3
    clear c3
    simp only [Option.some.injEq, Prod.mk.injEq] at H
    obtain ⟨rfl, rfl, rfl⟩ := H
    go_enter Try.func32, Try.ntmps32
    go_wp2
    go_ret
    exact ⟨by first | rfl | (simp [errW_none, errW_some] <;> rfl) | (simp [*, errW_none, errW_some] <;> rfl), by repeat (first | (with_reducible first | exact HI0.out | apply IsS72.alloc | apply IsS72.drewN | apply IsS72.drew | apply IsS72.set_1 | apply IsS72.set_2) | exact HI0.out), by repeat (first | (with_reducible first | exact HB.out | apply below_alloc | apply pw_below_drewN | apply below_drew1 | refine below_set ?_ (IsS72.ge HI0.out)) | exact HB.out), by repeat (first | (with_reducible first | exact HK.out | apply KeepBut.set_ | apply keep_drewN | apply keep_drew | apply keep_alloc) | exact HK.out)⟩
  · rw [if_neg c3] at H
    have c3b0 : decide (a1 < 1) = false := decide_eq_false c3
    clear c3
    replace H := Option.bind_eq_some_iff.mp H
    obtain ⟨⟨t102, t103, t104⟩, A40, H⟩ := H
    replace H : (if (IntKind.u64.wrap (wrap64 (a1 + 1))) = 0 then (none) else (some (wrap64 (Int.tmod (t102 / 65536) (IntKind.u64.wrap (wrap64 (a1 + 1)))), t103, t104))) = some (r1, r2, r3) := H
    have A4 := Aside0.mk A40
    clear A40
    by_cases c5 : (IntKind.u64.wrap (wrap64 (a1 + 1))) = 0
    · rw [if_pos c5] at H
      exact absurd H (by simp)
    · rw [if_neg c5] at H
      have c5b0 : ((IntKind.u64.wrap (wrap64 (a1 + 1))) == 0) = false := beq_eq_false_iff_ne.mpr c5
      have c5b1 : ((IntKind.u64.wrap (wrap64 (a1 + 1))) != 0) = true := bne_iff_ne.mpr c5
      simp only [Option.some.injEq, Prod.mk.injEq] at H
      obtain ⟨rfl, rfl, rfl⟩ := H
      go_enter Try.func32, Try.ntmps32
      go_wp2_with (first | ((with_reducible refine gate_callee (f := 67) rfl ?_); refine goesL_ (some 8) rfl rfl Try.func67 (by kernel_rfl) rfl #[.pointer (some ⟨g, 0, none⟩)] rfl (by (try simp only [List.map_toArray, List.map_cons, List.map_nil]); first | done | rfl | (simp only [List.length_drop, List.length_take]; rfl)) ?_; (with_reducible refine (wayzgoosekit_Dice_raw.calls g s0_0 s0_1 s0_2 t102 t103 t104 w0 _ ?side1 ?side2 A4.out).mono ?_); (case side1 => repeat (first | (with_reducible first | exact HI0.out | apply IsS72.alloc | apply IsS72.drewN | apply IsS72.drew | apply IsS72.set_1 | apply IsS72.set_2) | exact HI0.out)); (case side2 => repeat (first | (with_reducible first | exact HB.out | apply below_alloc | apply pw_below_drewN | apply below_drew1 | refine below_set ?_ (IsS72.ge HI0.out)) | exact HB.out)); rintro e w6 ⟨rfl, hi, hb, hk⟩; refine ⟨_, rfl, ?_⟩; have n0_ := Aside0.mk (KeepBut.trans (by repeat (first | (with_reducible first | exact HK.out | apply KeepBut.set_ | apply keep_drewN | apply keep_drew | apply keep_alloc) | exact HK.out)) hk (.inl rfl)); have n1_ := Aside0.mk (hb); have n2_ := Aside0.mk (hi); clear HK; clear HB; clear HI0; have HK := n0_; have HB := n1_; have HI0 := n2_; clear n0_ n1_ n2_; (try clear hb); (try clear hb2); (try clear hk); (try clear hi)))
      go_ret
      exact ⟨by first | rfl | (simp [errW_none, errW_some] <;> rfl) | (simp [*, errW_none, errW_some] <;> rfl), by repeat (first | (with_reducible first | exact HI0.out | apply IsS72.alloc | apply IsS72.drewN | apply IsS72.drew | apply IsS72.set_1 | apply IsS72.set_2) | exact HI0.out), by repeat (first | (with_reducible first | exact HB.out | apply below_alloc | apply pw_below_drewN | apply below_drew1 | refine below_set ?_ (IsS72.ge HI0.out)) | exact HB.out), by repeat (first | (with_reducible first | exact HK.out | apply KeepBut.set_ | apply keep_drewN | apply keep_drew | apply keep_alloc) | exact HK.out)⟩

/-! ### wayzgoosekit_Dice_Order: function 23 -/
mutual
def wayzgoosekit_Dice_Order.l0 : Nat → Int → List Int → Int → List Int → Int → Int → Option (List Int × Int × Int)
  | 0, _, _, _, _, _, _ => none
  | k + 1, x1, x5, x6, x1000, x1001, x1002 => if x6 < x1 then (if x5.length < 17592186044416 then (wayzgoosekit_Dice_Order.l0 k x1 (x5 ++ [x6]) (wrap64 (x6 + 1)) x1000 x1001 x1002) else (none)) else (wayzgoosekit_Dice_Order.l1 k x5 (wrap64 (x1 - 1)) x1000 x1001 x1002)
def wayzgoosekit_Dice_Order.l1 : Nat → List Int → Int → List Int → Int → Int → Option (List Int × Int × Int)
  | 0, _, _, _, _, _ => none
  | k + 1, x5, x7, x1000, x1001, x1002 => if x7 > 0 then ((wayzgoosekit_Dice_To.f x1000 x1001 x1002 x7).bind fun bt108 => (if 0 ≤ x7 then (if x7 < (x5.length : Int) then (if 0 ≤ bt108.1 then (if bt108.1 < (x5.length : Int) then (wayzgoosekit_Dice_Order.l1 k ((x5.set (x7 : Int).toNat (rd x5 bt108.1)).set (bt108.1 : Int).toNat (rd x5 x7)) (wrap64 (x7 - 1)) x1000 bt108.2.1 bt108.2.2) else (none)) else (none)) else (none)) else (none))) else (some (x5, x1001, x1002))
end
def wayzgoosekit_Dice_Order.f (k : Nat) (s0_0 : List Int) (s0_1 : Int) (s0_2 : Int) (a1 : Int) : Option (List Int × Int × Int) := wayzgoosekit_Dice_Order.l0 k a1 ([] : List Int) 0 s0_0 s0_1 s0_2
set_option maxHeartbeats 8000000 in
set_option maxRecDepth 100000 in
theorem wayzgoosekit_Dice_Order.calls (k : Nat) (g : Nat) (s0_0 : List Int) (s0_1 : Int) (s0_2 : Int) (a1 : Int) (r1 : List Int) (r2 : Int) (r3 : Int) (w0 w : World) (hI : IsS72 w0 w g s0_0 s0_1 s0_2) (hB : Below w0.heap.size w0 w) (h : wayzgoosekit_Dice_Order.f k s0_0 s0_1 s0_2 a1 = some (r1, r2, r3)) :
    Calls Try.prog 23 #[.pointer (some ⟨g, 0, none⟩), .int .i64 a1] w fun e w' => ∃ v0_ : Value, e = .returned (v0_) ∧ Kd.R (Kd.int .i64) 3 w' w.heap.size (fun _ => True) v0_ r1 ∧ IsS72 w0 w' g s0_0 r2 r3 ∧ Below w0.heap.size w0 w' ∧ KeepBut w w' g none := by
  have HI0 := Aside0.mk hI
  have HK := Aside0.mk (KeepBut.refl w g none)
  have HL := Aside0.mk hB.size
  clear hI
  have HW0 := Aside0.mk hB.size
  have HB := Aside0.mk hB
  clear hB
  have H : (wayzgoosekit_Dice_Order.l0 k a1 ([] : List Int) 0 s0_0 s0_1 s0_2) = some (r1, r2, r3) := h
  clear h
  have H' := Aside0.mk H
  clear H
  go_enter Try.func23, Try.ntmps23
  go_wp2
  go_loopg [5, 6] k (fun kq v5 v6 w' => ∃ (x5_1 : List Int) (x6_1 : Int), v6 = .int .i64 x6_1 ∧ Aside0 (wayzgoosekit_Dice_Order.l0 kq a1 x5_1 x6_1 s0_0 s0_1 s0_2 = some (r1, r2, r3)) ∧ Aside0 (kq ≤ k) ∧ Aside0 (Kd.R (Kd.int .i64) 3 w' w.heap.size (fun _ => True) v5 x5_1) ∧ Aside0 (IsS72 w0 w' g s0_0 s0_1 s0_2) ∧ Aside0 (KeepBut w w' g none) ∧ Aside0 (Below w0.heap.size w0 w'))
  case atStart => exact ⟨(([] : List Int)), (0), (by first | rfl | (simp; done) | (simp [*]; done)), H', ⟨Nat.le_refl _⟩, ⟨by first | exact Kd.R_nil _ _ _ _ _ | exact Kd.N_nil _ _ _ _ _ | exact Kd.V_nil _ _ _ _ _ | exact Kd.Q_nil _ _ _ _ _ | exact Kd.S_nil _ _ _ _ _⟩, ⟨by repeat (first | (with_reducible first | exact HI0.out | apply IsS72.alloc | apply IsS72.drewN | apply IsS72.drew | apply IsS72.set_1 | apply IsS72.set_2) | exact HI0.out)⟩, ⟨by repeat (first | (with_reducible first | exact HK.out | apply KeepBut.set_ | apply keep_drewN | apply keep_drew | apply keep_alloc) | exact HK.out)⟩, ⟨by repeat (first | (with_reducible first | exact HB.out | apply below_alloc | apply pw_below_drewN | apply below_drew1 | refine below_set ?_ (IsS72.ge HI0.out)) | exact HB.out)⟩⟩
  case round =>
    clear H'
    try clear c2
    try clear p2
    obtain ⟨x5_1, x6_1, rfl, HA, HK1, HO_5, HI0, HK, HB⟩ := hrel
    cases gk with
    | zero => exact absurd HA.out (by simp [wayzgoosekit_Dice_Order.l0])
    | succ k1 =>
      have H := HA.out
      clear HA
      simp only [wayzgoosekit_Dice_Order.l0] at H
      by_cases c3 : x6_1 < a1
      · rw [if_pos c3] at H
        have c3b0 : decide (x6_1 < a1) = true := decide_eq_true c3
        clear c3
        by_cases c4 : x5_1.length < 17592186044416
        · rw [if_pos c4] at H
          have LMc4 := Aside0.mk c4
          clear c4
          obtain ⟨y105, hy105⟩ : ∃ y_ : List Int, y_ = (x5_1 ++ [x6_1]) := ⟨_, rfl⟩
          replace H : (wayzgoosekit_Dice_Order.l0 k1 a1 y105 (wrap64 (x6_1 + 1)) s0_0 s0_1 s0_2) = some (r1, r2, r3) := by first | (rw [hy105]; with_reducible exact H) | (have H2_ := (Option.bind_some _ _).symm.trans H; rw [hy105]; with_reducible exact H2_) | (have H2_ := (Option.bind_some _ _).symm.trans H; with_reducible exact H2_) | with_reducible exact H | (rw [hy105]; exact H) | exact H
          have Ny105 := Aside0.mk hy105
          clear hy105
          have H' := Aside0.mk H
          clear H
          go_wp2_with (first | ((with_reducible refine gate_builtin (b := .append) (xs := #[.tmp 15, .tmp 17]) rfl ?_); at_builtin; refine Kd.R_append (Kd.int .i64) w.heap.size rfl (.tmp 15) (.tmp 17) 22 3 (.int .i64 0) 8 rfl Try.underlying22 info3 rfl (by decide) (by omega) u5 x5_1 x6_1 [.int .i64 x6_1] (fun _ => True) (fun _ => False) rfl rfl ?aP (fun _ hk => hk.elim) ?aF ?aO (Below.refl _ _) ?aS ?aL ?_; (case aP => exact rfl); (case aF => exact (fun _ _ => trivial)); (case aO => exact (by (with_reducible repeat (first | apply Kd.R_alloc | apply Kd.R_drewN | apply Kd.R_drew)); exact HO_5.out)); (case aS => exact (keep_size (w := w) (g := g) (row := none) (by repeat (first | (with_reducible first | exact HK.out | apply KeepBut.set_ | apply keep_drewN | apply keep_drew | apply keep_alloc) | exact HK.out)))); (case aL => have := LMc4.out; omega); intro v106 w5 ho hb hg hat; rw [← Ny105.out] at ho; have n0_ := Aside0.mk (IsS72.grown (by repeat (first | (with_reducible first | exact HI0.out | apply IsS72.alloc | apply IsS72.drewN | apply IsS72.drew | apply IsS72.set_1 | apply IsS72.set_2) | exact HI0.out)) hg (IsS72.own_ne HI0.out HO_5.out (by decide))); have n1_ := Aside0.mk (below_weaken (by repeat (first | (with_reducible first | exact HB.out | apply below_alloc | apply pw_below_drewN | apply below_drew1 | refine below_set ?_ (IsS72.ge HI0.out)) | exact HB.out)) HL.out hb); have n2_ := Aside0.mk (KeepBut.trans (by repeat (first | (with_reducible first | exact HK.out | apply KeepBut.set_ | apply keep_drewN | apply keep_drew | apply keep_alloc) | exact HK.out)) (KeepBut.of_grown hg g) (Kd.R_base2 HO_5.out)); have n3_ := Aside0.mk (ho); clear HI0; clear HB; clear HK; clear HO_5; have HI0 := n0_; have HB := n1_; have HK := n2_; have HO107 := n3_; clear n0_ n1_ n2_ n3_; clear ho hb hg hat))
          go_roundg k1
          case measure => have := HK1.out; omega
          case rel => exact ⟨(y105), (wrap64 (x6_1 + 1)), (by first | rfl | (simp; done) | (simp [*]; done)), H', ⟨by have := HK1.out; omega⟩, ⟨by (with_reducible repeat (first | apply Kd.R_alloc | apply Kd.R_drewN | apply Kd.R_drew)); exact HO107.out⟩, ⟨by repeat (first | (with_reducible first | exact HI0.out | apply IsS72.alloc | apply IsS72.drewN | apply IsS72.drew | apply IsS72.set_1 | apply IsS72.set_2) | exact HI0.out)⟩, ⟨by repeat (first | (with_reducible first | exact HK.out | apply KeepBut.set_ | apply keep_drewN | apply keep_drew | apply keep_alloc) | exact HK.out)⟩, ⟨by repeat (first | (with_reducible first | exact HB.out | apply below_alloc | apply pw_below_drewN | apply below_drew1 | refine below_set ?_ (IsS72.ge HI0.out)) | exact HB.out)⟩⟩
        · rw [if_neg c4] at H
          exact absurd H (by simp)
      · rw [if_neg c3] at H
        have c3b0 : decide (x6_1 < a1) = false := decide_eq_false c3
        clear c3
        have H' := Aside0.mk H
        clear H
        go_wp2
        go_loopg [7] k1 (fun kq v7 w' => ∃ (x5_2 : List Int) (x7_2 : Int) (x1001_2 : Int) (x1002_2 : Int), v7 = .int .i64 x7_2 ∧ Aside0 (wayzgoosekit_Dice_Order.l1 kq x5_2 x7_2 s0_0 x1001_2 x1002_2 = some (r1, r2, r3)) ∧ Aside0 (kq ≤ k1) ∧ Aside0 (Kd.R (Kd.int .i64) 3 w' w.heap.size (fun _ => True) u5 x5_2) ∧ Aside0 (IsS72 w0 w' g s0_0 x1001_2 x1002_2) ∧ Aside0 (KeepBut w w' g none) ∧ Aside0 (Below w0.heap.size w0 w'))
        case atStart => exact ⟨(x5_1), (wrap64 (a1 - 1)), (s0_1), (s0_2), (by first | rfl | (simp; done) | (simp [*]; done)), H', ⟨Nat.le_refl _⟩, ⟨by (with_reducible repeat (first | apply Kd.R_alloc | apply Kd.R_drewN | apply Kd.R_drew)); exact HO_5.out⟩, ⟨by repeat (first | (with_reducible first | exact HI0.out | apply IsS72.alloc | apply IsS72.drewN | apply IsS72.drew | apply IsS72.set_1 | apply IsS72.set_2) | exact HI0.out)⟩, ⟨by repeat (first | (with_reducible first | exact HK.out | apply KeepBut.set_ | apply keep_drewN | apply keep_drew | apply keep_alloc) | exact HK.out)⟩, ⟨by repeat (first | (with_reducible first | exact HB.out | apply below_alloc | apply pw_below_drewN | apply below_drew1 | refine below_set ?_ (IsS72.ge HI0.out)) | exact HB.out)⟩⟩
        case round =>
          clear H'
          try clear c2
          try clear p2
          try clear c3
          try clear c3b0
          try clear c4
          try clear p2
          obtain ⟨x5_2, x7_2, x1001_2, x1002_2, rfl, HA, HK2, HO_5, HI0, HK, HB⟩ := hrel
          cases gk with
          | zero => exact absurd HA.out (by simp [wayzgoosekit_Dice_Order.l1])
          | succ k2 =>
            have H := HA.out
            clear HA
            simp only [wayzgoosekit_Dice_Order.l1] at H
            by_cases c6 : x7_2 > 0
            · rw [if_pos c6] at H
              have c6b0 : decide (0 < x7_2) = true := decide_eq_true c6
              clear c6
              replace H := Option.bind_eq_some_iff.mp H
              obtain ⟨⟨t108, t109, t110⟩, A70, H⟩ := H
              replace H : (if 0 ≤ x7_2 then (if x7_2 < (x5_2.length : Int) then (if 0 ≤ t108 then (if t108 < (x5_2.length : Int) then (wayzgoosekit_Dice_Order.l1 k2 ((x5_2.set (x7_2 : Int).toNat (rd x5_2 t108)).set (t108 : Int).toNat (rd x5_2 x7_2)) (wrap64 (x7_2 - 1)) s0_0 t109 t110) else (none)) else (none)) else (none)) else (none)) = some (r1, r2, r3) := H
              have A7 := Aside0.mk A70
              clear A70
              by_cases c8 : 0 ≤ x7_2
              · rw [if_pos c8] at H
                have c8b0 : decide (0 ≤ x7_2) = true := decide_eq_true c8
                clear c8
                by_cases c9 : x7_2 < (x5_2.length : Int)
                · rw [if_pos c9] at H
                  have c9b0 : decide (x7_2 < (x5_2.length : Int)) = true := decide_eq_true c9
                  clear c9
                  by_cases c10 : 0 ≤ t108
                  · rw [if_pos c10] at H
                    have c10b0 : decide (0 ≤ t108) = true := decide_eq_true c10
                    clear c10
                    by_cases c11 : t108 < (x5_2.length : Int)
                    · rw [if_pos c11] at H
                      have c11b0 : decide (t108 < (x5_2.length : Int)) = true := decide_eq_true c11
                      clear c11
                      obtain ⟨y113, hy113⟩ : ∃ y_ : List Int, y_ = (x5_2.set (x7_2 : Int).toNat (rd x5_2 t108)) := ⟨_, rfl⟩
                      replace H : (wayzgoosekit_Dice_Order.l1 k2 (y113.set (t108 : Int).toNat (rd x5_2 x7_2)) (wrap64 (x7_2 - 1)) s0_0 t109 t110) = some (r1, r2, r3) := by first | (rw [hy113]; with_reducible exact H) | (have H2_ := (Option.bind_some _ _).symm.trans H; rw [hy113]; with_reducible exact H2_) | (have H2_ := (Option.bind_some _ _).symm.trans H; with_reducible exact H2_) | with_reducible exact H | (rw [hy113]; exact H) | exact H
                      have Ny113 := Aside0.mk hy113
                      clear hy113
                      obtain ⟨y114, hy114⟩ : ∃ y_ : List Int, y_ = (y113.set (t108 : Int).toNat (rd x5_2 x7_2)) := ⟨_, rfl⟩
                      replace H : (wayzgoosekit_Dice_Order.l1 k2 y114 (wrap64 (x7_2 - 1)) s0_0 t109 t110) = some (r1, r2, r3) := by first | (rw [hy114]; with_reducible exact H) | (have H2_ := (Option.bind_some _ _).symm.trans H; rw [hy114]; with_reducible exact H2_) | (have H2_ := (Option.bind_some _ _).symm.trans H; with_reducible exact H2_) | with_reducible exact H | (rw [hy114]; exact H) | exact H
                      have Ny114 := Aside0.mk hy114
                      clear hy114
                      have H' := Aside0.mk H
                      clear H
                      go_wp2_with (first | ((with_reducible refine gate_callee (f := 32) rfl ?_); refine goesL_ (some 27) rfl rfl Try.func32 (by kernel_rfl) rfl #[.pointer (some ⟨g, 0, none⟩), .int .i64 x7_2] rfl (by (try simp only [List.map_toArray, List.map_cons, List.map_nil]); first | done | rfl | (simp only [List.length_drop, List.length_take]; rfl)) ?_; (with_reducible refine (wayzgoosekit_Dice_To.calls g s0_0 x1001_2 x1002_2 x7_2 t108 t109 t110 w0 _ ?side1 ?side2 A7.out).mono ?_); (case side1 => repeat (first | (with_reducible first | exact HI0.out | apply IsS72.alloc | apply IsS72.drewN | apply IsS72.drew | apply IsS72.set_1 | apply IsS72.set_2) | exact HI0.out)); (case side2 => repeat (first | (with_reducible first | exact HB.out | apply below_alloc | apply pw_below_drewN | apply below_drew1 | refine below_set ?_ (IsS72.ge HI0.out)) | exact HB.out)); rintro e w14 ⟨rfl, hi, hb, hk⟩; refine ⟨_, rfl, ?_⟩; have n0_ := Aside0.mk (Kd.R_mono (Kd.R_keep (IsS72.apart (show IsS72 w0 _ g s0_0 x1001_2 x1002_2 from by repeat (first | (with_reducible first | exact HI0.out | apply IsS72.alloc | apply IsS72.drewN | apply IsS72.drew | apply IsS72.set_1 | apply IsS72.set_2) | exact HI0.out)) (by (with_reducible repeat (first | apply Kd.R_alloc | apply Kd.R_drewN | apply Kd.R_drew)); exact HO_5.out) (by decide)) hk (fun _ h => h.2)) (fun _ h => h.1)); have n1_ := Aside0.mk (KeepBut.trans (by repeat (first | (with_reducible first | exact HK.out | apply KeepBut.set_ | apply keep_drewN | apply keep_drew | apply keep_alloc) | exact HK.out)) hk (.inl rfl)); have n2_ := Aside0.mk (hb); have n3_ := Aside0.mk (hi); clear HO_5; clear HK; clear HB; clear HI0; have HO_5 := n0_; have HK := n1_; have HB := n2_; have HI0 := n3_; clear n0_ n1_ n2_ n3_; (try clear hb); (try clear hb2); (try clear hk); (try clear hi); obtain ⟨Ao15, co15, eo15⟩ := Kd.R_slice HO_5.out; subst eo15; have p111 : 0 ≤ (x7_2 : Int) := of_decide_eq_true (by first | (with_reducible assumption) | assumption); have q111 : x7_2 < (x5_2.length : Int) := of_decide_eq_true (by first | (with_reducible assumption) | assumption); obtain ⟨ad111, e111, hx111_0⟩ := Kd.at_int (Kd.R_reads' HO_5.out).2.2 x7_2 p111 q111; cases e111; replace p111 := eq_true p111; replace q111 := eq_true q111; have p112 : 0 ≤ (t108 : Int) := of_decide_eq_true (by first | (with_reducible assumption) | assumption); have q112 : t108 < (x5_2.length : Int) := of_decide_eq_true (by first | (with_reducible assumption) | assumption); obtain ⟨ad112, e112, hx112_0⟩ := Kd.at_int (Kd.R_reads' HO_5.out).2.2 t108 p112 q112; obtain rfl : ad111 = ad112 := (by injection e112); replace p112 := eq_true p112; replace q112 := eq_true q112; have p12 : 0 ≤ (x7_2 : Int) := of_decide_eq_true (by first | (with_reducible assumption) | assumption); have q12 : (x7_2 : Int) < ((x5_2.length : Int) : Int) := of_decide_eq_true (by first | (with_reducible assumption) | assumption); obtain ⟨go12, co12, eo12, gb12, gl12, cl12, HG12⟩ := Kd.R_form HO_5.out (by omega); (first | cases eo12 | (injection eo12 with ea_ en_ ec_; (first | subst ea_ | (injection ea_ with ea_; subst ea_)); subst ec_; clear en_)); have GB12 := Aside0.mk gb12; have GG12 := Aside0.mk HG12; clear gb12 gl12 HG12; (first | simp only [add_plain] at hx111_0 | skip); (first | simp only [add_plain] at hx112_0 | skip); obtain ⟨hx12_0, hf12_0⟩ := Kd.R_celln 0 HO_5.out (x7_2 : Int) p12 q12; replace p12 := eq_true p12; replace q12 := eq_true q12; obtain ⟨hy16_, hz16_⟩ := Kd.R_celln 0 HO_5.out (x7_2 : Int) (of_decide_eq_true (by first | (with_reducible assumption) | assumption)) (of_decide_eq_true (by first | (with_reducible assumption) | assumption)); have HP16 := Kd.R_putg HO_5.out (x7_2 : Int) (rd x5_2 t108)) | ((with_reducible refine gate_store (t := 3) (p := 38) rfl ?_); refine store_event (t := 3) (p := 38) (v := ?vo_w17) (w1 := (w14.setCell ⟨go12, (x7_2 : Int).toNat, none⟩ (.int .i64 (rd x5_2 t108)))) ?hg ?ho ?hn ?hr ?_; (case ho => rfl); (case hg => rfl); (case hn => rfl); (case hr => first | (go_simp; done) | (go_simp; rfl)); intro w17 hw; have hg : w14.grownBy w17 (some go12) := (by rw [hw]; exact HP16.2); have hp_ : Kd.R (Kd.int .i64) 3 w17 w.heap.size (fun _ => True) (.slice (some ⟨go12, 0, none⟩) x5_2.length co15) y113 := (by rw [hw, Ny113.out]; exact HP16.1); clear HP16; have n0_ := Aside0.mk (hp_); have n1_ := Aside0.mk (IsS72.grown (by repeat (first | (with_reducible first | exact HI0.out | apply IsS72.alloc | apply IsS72.drewN | apply IsS72.drew | apply IsS72.set_1 | apply IsS72.set_2) | exact HI0.out)) hg (IsS72.own_ne HI0.out HO_5.out (by decide))); have n2_ := Aside0.mk ((by rw [hw]; exact below_set (HB.out) (Nat.le_trans HL.out GB12.out) : Below w0.heap.size w0 w17)); have n3_ := Aside0.mk (KeepBut.trans (by repeat (first | (with_reducible first | exact HK.out | apply KeepBut.set_ | apply keep_drewN | apply keep_drew | apply keep_alloc) | exact HK.out)) (KeepBut.of_grown hg g) (Kd.R_base2 HO_5.out)); clear HO_5; clear HI0; clear HB; clear HK; have HO_5 := n0_; have HI0 := n1_; have HB := n2_; have HK := n3_; clear n0_ n1_ n2_ n3_; clear hg hw hp_; have p13 : 0 ≤ (t108 : Int) := of_decide_eq_true (by first | (with_reducible assumption) | assumption); have q13 : (t108 : Int) < ((x5_2.length : Int) : Int) := of_decide_eq_true (by first | (with_reducible assumption) | assumption); obtain ⟨hx13_0, hf13_0⟩ := Kd.R_celln 0 HO_5.out (t108 : Int) p13 q13; replace p13 := eq_true p13; replace q13 := eq_true q13; obtain ⟨hy18_, hz18_⟩ := Kd.R_celln 0 HO_5.out (t108 : Int) (of_decide_eq_true (by first | (with_reducible assumption) | assumption)) (of_decide_eq_true (by first | (with_reducible assumption) | assumption)); have HP18 := Kd.R_putg HO_5.out (t108 : Int) (rd x5_2 x7_2)) | ((with_reducible refine gate_store (t := 3) (p := 42) rfl ?_); refine store_event (t := 3) (p := 42) (v := ?vo_w19) (w1 := (w17.setCell ⟨go12, (t108 : Int).toNat, none⟩ (.int .i64 (rd x5_2 x7_2)))) ?hg ?ho ?hn ?hr ?_; (case ho => rfl); (case hg => rfl); (case hn => rfl); (case hr => first | (go_simp; done) | (go_simp; rfl)); intro w19 hw; have hg : w17.grownBy w19 (some go12) := (by rw [hw]; exact HP18.2); have hp_ : Kd.R (Kd.int .i64) 3 w19 w.heap.size (fun _ => True) (.slice (some ⟨go12, 0, none⟩) x5_2.length co15) y114 := (by rw [hw, Ny114.out]; exact HP18.1); clear HP18; have n0_ := Aside0.mk (hp_); have n1_ := Aside0.mk (IsS72.grown (by repeat (first | (with_reducible first | exact HI0.out | apply IsS72.alloc | apply IsS72.drewN | apply IsS72.drew | apply IsS72.set_1 | apply IsS72.set_2) | exact HI0.out)) hg (IsS72.own_ne HI0.out HO_5.out (by decide))); have n2_ := Aside0.mk ((by rw [hw]; exact below_set (HB.out) (Nat.le_trans HL.out GB12.out) : Below w0.heap.size w0 w19)); have n3_ := Aside0.mk (KeepBut.trans (by repeat (first | (with_reducible first | exact HK.out | apply KeepBut.set_ | apply keep_drewN | apply keep_drew | apply keep_alloc) | exact HK.out)) (KeepBut.of_grown hg g) (Kd.R_base2 HO_5.out)); clear HO_5; clear HI0; clear HB; clear HK; have HO_5 := n0_; have HI0 := n1_; have HB := n2_; have HK := n3_; clear n0_ n1_ n2_ n3_; clear hg hw hp_))
                      go_roundg k2
                      case measure => have := HK1.out; have := HK2.out; omega
                      case rel => exact ⟨(y114), (wrap64 (x7_2 - 1)), (t109), (t110), (by first | rfl | (simp; done) | (simp [*]; done)), H', ⟨by have := HK1.out; have := HK2.out; omega⟩, ⟨by (with_reducible repeat (first | apply Kd.R_alloc | apply Kd.R_drewN | apply Kd.R_drew)); exact HO_5.out⟩, ⟨by repeat (first | (with_reducible first | exact HI0.out | apply IsS72.alloc | apply IsS72.drewN | apply IsS72.drew | apply IsS72.set_1 | apply IsS72.set_2) | exact HI0.out)⟩, ⟨by repeat (first | (with_reducible first | exact HK.out | apply KeepBut.set_ | apply keep_drewN | apply keep_drew | apply keep_alloc) | exact HK.out)⟩, ⟨by repeat (first | (with_reducible first | exact HB.out | apply below_alloc | apply pw_below_drewN | apply below_drew1 | refine below_set ?_ (IsS72.ge HI0.out)) | exact HB.out)⟩⟩
                    · rw [if_neg c11] at H
                      exact absurd H (by simp)
                  · rw [if_neg c10] at H
                    exact absurd H (by simp)
                · rw [if_neg c9] at H
                  exact absurd H (by simp)
              · rw [if_neg c8] at H
                exact absurd H (by simp)
            · rw [if_neg c6] at H
              have c6b0 : decide (0 < x7_2) = false := decide_eq_false c6
              clear c6
              simp only [Option.some.injEq, Prod.mk.injEq] at H
              obtain ⟨rfl, rfl, rfl⟩ := H
              go_wp2
              go_ret
              exact ⟨_, by first | rfl | (simp [errW_none, errW_some] <;> rfl) | (simp [*, errW_none, errW_some] <;> rfl), by (with_reducible repeat (first | apply Kd.R_alloc | apply Kd.R_drewN | apply Kd.R_drew)); exact HO_5.out, by repeat (first | (with_reducible first | exact HI0.out | apply IsS72.alloc | apply IsS72.drewN | apply IsS72.drew | apply IsS72.set_1 | apply IsS72.set_2) | exact HI0.out), by repeat (first | (with_reducible first | exact HB.out | apply below_alloc | apply pw_below_drewN | apply below_drew1 | refine below_set ?_ (IsS72.ge HI0.out)) | exact HB.out), by repeat (first | (with_reducible first | exact HK.out | apply KeepBut.set_ | apply keep_drewN | apply keep_drew | apply keep_alloc) | exact HK.out)⟩

/-! ### wayzgoosekit_sorts: function 37 -/
def wayzgoosekit_sorts.f  : Option (List ByteArray) := some (([(⟨#[102, 111, 111, 100]⟩ : ByteArray), (⟨#[98, 114, 101, 97, 100]⟩ : ByteArray), (⟨#[99, 108, 111, 116, 104]⟩ : ByteArray), (⟨#[104, 97, 116, 115]⟩ : ByteArray), (⟨#[119, 111, 111, 100]⟩ : ByteArray), (⟨#[105, 114, 111, 110]⟩ : ByteArray), (⟨#[98, 101, 101, 114]⟩ : ByteArray), (⟨#[105, 110]⟩ : ByteArray), (⟨#[115, 101, 101]⟩ : ByteArray)] : List ByteArray))
set_option maxHeartbeats 8000000 in
set_option maxRecDepth 100000 in
theorem wayzgoosekit_sorts.calls  (r : List ByteArray) (w : World) (h : wayzgoosekit_sorts.f  = some r) :
    Calls Try.prog 37 #[] w fun e w' => ∃ v0_ : Value, e = .returned (v0_) ∧ Kd.R Kd.string 9 w' w.heap.size (fun _ => True) v0_ r ∧ Below w.heap.size w w' := by
  have HB := Aside0.mk (Below.refl w.heap.size w)
  have H : (some (([(⟨#[102, 111, 111, 100]⟩ : ByteArray), (⟨#[98, 114, 101, 97, 100]⟩ : ByteArray), (⟨#[99, 108, 111, 116, 104]⟩ : ByteArray), (⟨#[104, 97, 116, 115]⟩ : ByteArray), (⟨#[119, 111, 111, 100]⟩ : ByteArray), (⟨#[105, 114, 111, 110]⟩ : ByteArray), (⟨#[98, 101, 101, 114]⟩ : ByteArray), (⟨#[105, 110]⟩ : ByteArray), (⟨#[115, 101, 101]⟩ : ByteArray)] : List ByteArray))) = some r := h
  clear h
  obtain ⟨y115, hy115⟩ : ∃ y_ : List ByteArray, y_ = (([(⟨#[102, 111, 111, 100]⟩ : ByteArray), (⟨#[98, 114, 101, 97, 100]⟩ : ByteArray), (⟨#[99, 108, 111, 116, 104]⟩ : ByteArray), (⟨#[104, 97, 116, 115]⟩ : ByteArray), (⟨#[119, 111, 111, 100]⟩ : ByteArray), (⟨#[105, 114, 111, 110]⟩ : ByteArray), (⟨#[98, 101, 101, 114]⟩ : ByteArray), (⟨#[105, 110]⟩ : ByteArray), (⟨#[115, 101, 101]⟩ : ByteArray)] : List ByteArray)) := ⟨_, rfl⟩
  replace H : (some y115) = some r := by first | (rw [hy115]; with_reducible exact H) | (have H2_ := (Option.bind_some _ _).symm.trans H; rw [hy115]; with_reducible exact H2_) | (have H2_ := (Option.bind_some _ _).symm.trans H; with_reducible exact H2_) | with_reducible exact H | (rw [hy115]; exact H) | exact H
  have Ny115 := Aside0.mk hy115
  clear hy115
  obtain rfl := Option.some.inj H
  go_enter Try.func37, Try.ntmps37
  go_wp2_with (first | ((with_reducible refine gate_dst (N := 1) rfl ?_); refine Kd.R_lit Kd.string _ 9 ?hg (N := 1) ?hd (xs := ([(⟨#[102, 111, 111, 100]⟩ : ByteArray), (⟨#[98, 114, 101, 97, 100]⟩ : ByteArray), (⟨#[99, 108, 111, 116, 104]⟩ : ByteArray), (⟨#[104, 97, 116, 115]⟩ : ByteArray), (⟨#[119, 111, 111, 100]⟩ : ByteArray), (⟨#[105, 114, 111, 110]⟩ : ByteArray), (⟨#[98, 101, 101, 114]⟩ : ByteArray), (⟨#[105, 110]⟩ : ByteArray), (⟨#[115, 101, 101]⟩ : ByteArray)] : List ByteArray)) (inner := [.string (⟨#[102, 111, 111, 100]⟩ : ByteArray), .string (⟨#[98, 114, 101, 97, 100]⟩ : ByteArray), .string (⟨#[99, 108, 111, 116, 104]⟩ : ByteArray), .string (⟨#[104, 97, 116, 115]⟩ : ByteArray), .string (⟨#[119, 111, 111, 100]⟩ : ByteArray), .string (⟨#[105, 114, 111, 110]⟩ : ByteArray), .string (⟨#[98, 101, 101, 114]⟩ : ByteArray), .string (⟨#[105, 110]⟩ : ByteArray), .string (⟨#[115, 101, 101]⟩ : ByteArray)]) (ok := fun _ => True) (okp := fun _ => True) ?hr ?hp (fun _ hk => hk) trivial (Below.refl _ _) (Nat.le_refl _) (by simp) ?_; (case hd => rfl); (case hg => rfl); (case hr => first | (go_simp; done) | (go_simp; rfl)); (case hp => exact (Reps.one (show Kd.M Kd.string _ _ _ (⟨#[102, 111, 111, 100]⟩ : ByteArray) [.string (⟨#[102, 111, 111, 100]⟩ : ByteArray)] from rfl) (Reps.one (show Kd.M Kd.string _ _ _ (⟨#[98, 114, 101, 97, 100]⟩ : ByteArray) [.string (⟨#[98, 114, 101, 97, 100]⟩ : ByteArray)] from rfl) (Reps.one (show Kd.M Kd.string _ _ _ (⟨#[99, 108, 111, 116, 104]⟩ : ByteArray) [.string (⟨#[99, 108, 111, 116, 104]⟩ : ByteArray)] from rfl) (Reps.one (show Kd.M Kd.string _ _ _ (⟨#[104, 97, 116, 115]⟩ : ByteArray) [.string (⟨#[104, 97, 116, 115]⟩ : ByteArray)] from rfl) (Reps.one (show Kd.M Kd.string _ _ _ (⟨#[119, 111, 111, 100]⟩ : ByteArray) [.string (⟨#[119, 111, 111, 100]⟩ : ByteArray)] from rfl) (Reps.one (show Kd.M Kd.string _ _ _ (⟨#[105, 114, 111, 110]⟩ : ByteArray) [.string (⟨#[105, 114, 111, 110]⟩ : ByteArray)] from rfl) (Reps.one (show Kd.M Kd.string _ _ _ (⟨#[98, 101, 101, 114]⟩ : ByteArray) [.string (⟨#[98, 101, 101, 114]⟩ : ByteArray)] from rfl) (Reps.one (show Kd.M Kd.string _ _ _ (⟨#[105, 110]⟩ : ByteArray) [.string (⟨#[105, 110]⟩ : ByteArray)] from rfl) (Reps.one (show Kd.M Kd.string _ _ _ (⟨#[115, 101, 101]⟩ : ByteArray) [.string (⟨#[115, 101, 101]⟩ : ByteArray)] from rfl) (Reps.none _ _))))))))))); intro v116 w1 ho2 hb hg_ hnew_; clear hg_ hnew_; (first | rw [← Ny115.out] at ho2 | (simp only [Int.reduceToNat] at ho2; rw [← Ny115.out] at ho2)); have n0_ := Aside0.mk (Kd.R_lower ho2 (below_size (by repeat (first | (with_reducible first | exact HB.out | apply below_alloc | apply pw_below_drewN | apply below_drew1) | exact HB.out)))); have n1_ := Aside0.mk (below_step (by repeat (first | (with_reducible first | exact HB.out | apply below_alloc | apply pw_below_drewN | apply below_drew1) | exact HB.out)) hb); clear HB; have HO117 := n0_; have HB := n1_; clear n0_ n1_; clear hb ho2))
  go_ret
  exact ⟨_, by first | rfl | (simp [errW_none, errW_some] <;> rfl) | (simp [*, errW_none, errW_some] <;> rfl), by (with_reducible repeat (first | apply Kd.R_alloc | apply Kd.R_drewN | apply Kd.R_drew)); exact HO117.out, by repeat (first | (with_reducible first | exact HB.out | apply below_alloc | apply pw_below_drewN | apply below_drew1) | exact HB.out)⟩

/-! ### wayzgoosekit_Dice_From: function 38 -/
def wayzgoosekit_Dice_From.f (s0_0 : List Int) (s0_1 : Int) (s0_2 : Int) (a1 : Int) (a2 : Int) : Option (Int × Int × Int) := (wayzgoosekit_Dice_To.f s0_0 s0_1 s0_2 (wrap64 (a2 - a1))).bind fun bt118 => (some (wrap64 (a1 + bt118.1), bt118.2.1, bt118.2.2))
set_option maxHeartbeats 8000000 in
set_option maxRecDepth 100000 in
theorem wayzgoosekit_Dice_From.calls (g : Nat) (s0_0 : List Int) (s0_1 : Int) (s0_2 : Int) (a1 : Int) (a2 : Int) (r1 : Int) (r2 : Int) (r3 : Int) (w0 w : World) (hI : IsS72 w0 w g s0_0 s0_1 s0_2) (hB : Below w0.heap.size w0 w) (h : wayzgoosekit_Dice_From.f s0_0 s0_1 s0_2 a1 a2 = some (r1, r2, r3)) :
    Calls Try.prog 38 #[.pointer (some ⟨g, 0, none⟩), .int .i64 a1, .int .i64 a2] w fun e w' => e = .returned (.int .i64 r1) ∧ IsS72 w0 w' g s0_0 r2 r3 ∧ Below w0.heap.size w0 w' ∧ KeepBut w w' g none := by
  have HI0 := Aside0.mk hI
  have HK := Aside0.mk (KeepBut.refl w g none)
  have HL := Aside0.mk hB.size
  clear hI
  have HW0 := Aside0.mk hB.size
  have HB := Aside0.mk hB
  clear hB
  have H : ((wayzgoosekit_Dice_To.f s0_0 s0_1 s0_2 (wrap64 (a2 - a1))).bind fun bt118 => (some (wrap64 (a1 + bt118.1), bt118.2.1, bt118.2.2))) = some (r1, r2, r3) := h
  clear h
  replace H := Option.bind_eq_some_iff.mp H
  obtain ⟨⟨t118, t119, t120⟩, A40, H⟩ := H
  replace H : (some (wrap64 (a1 + t118), t119, t120)) = some (r1, r2, r3) := H
  have A4 := Aside0.mk A40
  clear A40
  simp only [Option.some.injEq, Prod.mk.injEq] at H
  obtain ⟨rfl, rfl, rfl⟩ := H
  go_enter Try.func38, Try.ntmps38
  go_wp2_with (first | ((with_reducible refine gate_callee (f := 32) rfl ?_); refine goesL_ (some 12) rfl rfl Try.func32 (by kernel_rfl) rfl #[.pointer (some ⟨g, 0, none⟩), .int .i64 (wrap64 (a2 - a1))] rfl (by (try simp only [List.map_toArray, List.map_cons, List.map_nil]); first | done | rfl | (simp only [List.length_drop, List.length_take]; rfl)) ?_; (with_reducible refine (wayzgoosekit_Dice_To.calls g s0_0 s0_1 s0_2 (wrap64 (a2 - a1)) t118 t119 t120 w0 _ ?side1 ?side2 A4.out).mono ?_); (case side1 => repeat (first | (with_reducible first | exact HI0.out | apply IsS72.alloc | apply IsS72.drewN | apply IsS72.drew | apply IsS72.set_1 | apply IsS72.set_2) | exact HI0.out)); (case side2 => repeat (first | (with_reducible first | exact HB.out | apply below_alloc | apply pw_below_drewN | apply below_drew1 | refine below_set ?_ (IsS72.ge HI0.out)) | exact HB.out)); rintro e w5 ⟨rfl, hi, hb, hk⟩; refine ⟨_, rfl, ?_⟩; have n0_ := Aside0.mk (KeepBut.trans (by repeat (first | (with_reducible first | exact HK.out | apply KeepBut.set_ | apply keep_drewN | apply keep_drew | apply keep_alloc) | exact HK.out)) hk (.inl rfl)); have n1_ := Aside0.mk (hb); have n2_ := Aside0.mk (hi); clear HK; clear HB; clear HI0; have HK := n0_; have HB := n1_; have HI0 := n2_; clear n0_ n1_ n2_; (try clear hb); (try clear hb2); (try clear hk); (try clear hi)))
  go_ret
  exact ⟨by first | rfl | (simp [errW_none, errW_some] <;> rfl) | (simp [*, errW_none, errW_some] <;> rfl), by repeat (first | (with_reducible first | exact HI0.out | apply IsS72.alloc | apply IsS72.drewN | apply IsS72.drew | apply IsS72.set_1 | apply IsS72.set_2) | exact HI0.out), by repeat (first | (with_reducible first | exact HB.out | apply below_alloc | apply pw_below_drewN | apply below_drew1 | refine below_set ?_ (IsS72.ge HI0.out)) | exact HB.out), by repeat (first | (with_reducible first | exact HK.out | apply KeepBut.set_ | apply keep_drewN | apply keep_drew | apply keep_alloc) | exact HK.out)⟩

/-! ### wayzgoosekit_Index: function 20 -/
def wayzgoosekit_Index.l0 : Nat → List Int → Int → Int → Option (Int)
  | 0, _, _, _ => none
  | k + 1, x0, x1, x5 => if x5 < (x0.length : Int) then (if 0 ≤ x5 then (if (rd x0 x5) = x1 then (some x5) else (wayzgoosekit_Index.l0 k x0 x1 (wrap64 (x5 + 1)))) else (none)) else (some (-1))
def wayzgoosekit_Index.f (k : Nat) (l0 : List Int) (a1 : Int) : Option (Int) := wayzgoosekit_Index.l0 k l0 a1 0
set_option maxHeartbeats 8000000 in
set_option maxRecDepth 100000 in
theorem wayzgoosekit_Index.calls (k : Nat) (A0 : Option Addr) (c0 : Nat) (l0 : List Int) (a1 : Int) (r : Int) (w : World) (hr0 : Kd.C (Kd.int .i64) w A0 l0.length l0) (hc0 : l0.length ≤ c0) (h : wayzgoosekit_Index.f k l0 a1 = some r) :
    Calls Try.prog 20 #[.slice A0 l0.length c0, .int .i64 a1] w fun e w' => e = .returned (.int .i64 r) ∧ Drawn0 w w' := by
  have HR0 := Aside0.mk hr0
  have HC0 := Aside0.mk hc0
  clear hr0 hc0
  have H : (wayzgoosekit_Index.l0 k l0 a1 0) = some r := h
  clear h
  have H' := Aside0.mk H
  clear H
  go_enter Try.func20, Try.ntmps20
  go_wp2
  go_loopg [5] k (fun kq v5 w' => ∃ (x5_1 : Int), v5 = .int .i64 x5_1 ∧ Aside0 (wayzgoosekit_Index.l0 kq l0 a1 x5_1 = some r) ∧ Aside0 (kq ≤ k) ∧ Drawn0 w w')
  case atStart => exact ⟨(0), (by first | rfl | (simp; done) | (simp [*]; done)), H', ⟨Nat.le_refl _⟩, by repeat (first | exact Drawn0.refl _ | apply Drawn0.step)⟩
  case round =>
    clear H'
    try clear c2
    try clear p2
    obtain ⟨x5_1, rfl, HA, HK1, ⟨m1, rfl⟩⟩ := hrel
    cases gk with
    | zero => exact absurd HA.out (by simp [wayzgoosekit_Index.l0])
    | succ k1 =>
      have H := HA.out
      clear HA
      simp only [wayzgoosekit_Index.l0] at H
      by_cases c3 : x5_1 < (l0.length : Int)
      · rw [if_pos c3] at H
        have c3b0 : decide (x5_1 < (l0.length : Int)) = true := decide_eq_true c3
        clear c3
        by_cases c4 : 0 ≤ x5_1
        · rw [if_pos c4] at H
          have c4b0 : decide (0 ≤ x5_1) = true := decide_eq_true c4
          clear c4
          by_cases c5 : (rd l0 x5_1) = a1
          · rw [if_pos c5] at H
            have c5b0 : ((rd l0 x5_1) == a1) = true := beq_iff_eq.mpr c5
            have c5b1 : ((rd l0 x5_1) != a1) = false := bne_eq_false_iff_eq.mpr c5
            clear c5
            obtain rfl := Option.some.inj H
            have p121 : 0 ≤ (x5_1 : Int) := of_decide_eq_true (by first | (with_reducible assumption) | assumption)
            have q121 : x5_1 < (l0.length : Int) := of_decide_eq_true (by first | (with_reducible assumption) | assumption)
            obtain ⟨ad121, e121, hx121_0⟩ := Kd.at_int HR0.out x5_1 p121 q121
            cases e121
            replace p121 := eq_true p121
            replace q121 := eq_true q121
            go_wp2
            go_ret
            exact ⟨by first | rfl | (simp; done) | (simp [*]; done), by repeat (first | exact Drawn0.refl _ | apply Drawn0.step)⟩
          · rw [if_neg c5] at H
            have c5b0 : ((rd l0 x5_1) == a1) = false := beq_eq_false_iff_ne.mpr c5
            have c5b1 : ((rd l0 x5_1) != a1) = true := bne_iff_ne.mpr c5
            have H' := Aside0.mk H
            clear H
            have p121 : 0 ≤ (x5_1 : Int) := of_decide_eq_true (by first | (with_reducible assumption) | assumption)
            have q121 : x5_1 < (l0.length : Int) := of_decide_eq_true (by first | (with_reducible assumption) | assumption)
            obtain ⟨ad121, e121, hx121_0⟩ := Kd.at_int HR0.out x5_1 p121 q121
            cases e121
            replace p121 := eq_true p121
            replace q121 := eq_true q121
            go_wp2
            go_roundg k1
            case measure => have := HK1.out; omega
            case rel => exact ⟨(wrap64 (x5_1 + 1)), (by first | rfl | (simp; done) | (simp [*]; done)), H', ⟨by have := HK1.out; omega⟩, by repeat (first | exact Drawn0.refl _ | apply Drawn0.step)⟩
        · rw [if_neg c4] at H
          exact absurd H (by simp)
      · rw [if_neg c3] at H
        have c3b0 : decide (x5_1 < (l0.length : Int)) = false := decide_eq_false c3
        clear c3
        obtain rfl := Option.some.inj H
        go_wp2
        go_ret
        exact ⟨by first | rfl | (simp; done) | (simp [*]; done), by repeat (first | exact Drawn0.refl _ | apply Drawn0.step)⟩

/-! ### wayzgoosekit_partOf: function 39 -/
def wayzgoosekit_partOf.l0 : Nat → Int → Int → List Int → List Int → Int → List Int → Int → Int → Option (List Int × Int × Int)
  | 0, _, _, _, _, _, _, _, _ => none
  | k + 1, x1, x2, x7, x8, x9, x1000, x1001, x1002 => if x9 < x1 then ((wayzgoosekit_Index.f k x7 x9).bind fun t127 => (if t127 < x2 then (if x8.length < 17592186044416 then (wayzgoosekit_partOf.l0 k x1 x2 x7 (x8 ++ [x9]) (wrap64 (x9 + 1)) x1000 x1001 x1002) else (none)) else (wayzgoosekit_partOf.l0 k x1 x2 x7 x8 (wrap64 (x9 + 1)) x1000 x1001 x1002))) else (some (x8, x1001, x1002))
def wayzgoosekit_partOf.f (k : Nat) (s0_0 : List Int) (s0_1 : Int) (s0_2 : Int) (a1 : Int) (a2 : Int) : Option (List Int × Int × Int) := (wayzgoosekit_Dice_Order.f k s0_0 s0_1 s0_2 a1).bind fun bt122 => (wayzgoosekit_partOf.l0 k a1 a2 bt122.1 ([] : List Int) 0 s0_0 bt122.2.1 bt122.2.2)
set_option maxHeartbeats 8000000 in
set_option maxRecDepth 100000 in
theorem wayzgoosekit_partOf.calls (k : Nat) (g : Nat) (s0_0 : List Int) (s0_1 : Int) (s0_2 : Int) (a1 : Int) (a2 : Int) (r1 : List Int) (r2 : Int) (r3 : Int) (w0 w : World) (hI : IsS72 w0 w g s0_0 s0_1 s0_2) (hB : Below w0.heap.size w0 w) (h : wayzgoosekit_partOf.f k s0_0 s0_1 s0_2 a1 a2 = some (r1, r2, r3)) :
    Calls Try.prog 39 #[.pointer (some ⟨g, 0, none⟩), .int .i64 a1, .int .i64 a2] w fun e w' => ∃ v0_ : Value, e = .returned (v0_) ∧ Kd.R (Kd.int .i64) 3 w' w.heap.size (fun _ => True) v0_ r1 ∧ IsS72 w0 w' g s0_0 r2 r3 ∧ Below w0.heap.size w0 w' ∧ KeepBut w w' g none := by
  have HI0 := Aside0.mk hI
  have HK := Aside0.mk (KeepBut.refl w g none)
  have HL := Aside0.mk hB.size
  clear hI
  have HW0 := Aside0.mk hB.size
  have HB := Aside0.mk hB
  clear hB
  have H : ((wayzgoosekit_Dice_Order.f k s0_0 s0_1 s0_2 a1).bind fun bt122 => (wayzgoosekit_partOf.l0 k a1 a2 bt122.1 ([] : List Int) 0 s0_0 bt122.2.1 bt122.2.2)) = some (r1, r2, r3) := h
  clear h
  replace H := Option.bind_eq_some_iff.mp H
  obtain ⟨⟨t122, t125, t126⟩, A40, H⟩ := H
  replace H : (wayzgoosekit_partOf.l0 k a1 a2 t122 ([] : List Int) 0 s0_0 t125 t126) = some (r1, r2, r3) := H
  have A4 := Aside0.mk A40
  clear A40
  have H' := Aside0.mk H
  clear H
  go_enter Try.func39, Try.ntmps39
  go_wp2_with (first | ((with_reducible refine gate_callee (f := 23) rfl ?_); refine goesL_ (some 13) rfl rfl Try.func23 (by kernel_rfl) rfl #[.pointer (some ⟨g, 0, none⟩), .int .i64 a1] rfl (by (try simp only [List.map_toArray, List.map_cons, List.map_nil]); first | done | rfl | (simp only [List.length_drop, List.length_take]; rfl)) ?_; (with_reducible refine (wayzgoosekit_Dice_Order.calls k g s0_0 s0_1 s0_2 a1 t122 t125 t126 w0 _ ?side1 ?side2 A4.out).mono ?_); (case side1 => repeat (first | (with_reducible first | exact HI0.out | apply IsS72.alloc | apply IsS72.drewN | apply IsS72.drew | apply IsS72.set_1 | apply IsS72.set_2) | exact HI0.out)); (case side2 => repeat (first | (with_reducible first | exact HB.out | apply below_alloc | apply pw_below_drewN | apply below_drew1 | refine below_set ?_ (IsS72.ge HI0.out)) | exact HB.out)); rintro e w5 ⟨v123, rfl, ho0, hi, hb, hk⟩; refine ⟨_, rfl, ?_⟩; have n0_ := Aside0.mk (Kd.R_lower ho0 (keep_size (w := w) (g := g) (row := none) (by repeat (first | (with_reducible first | exact HK.out | apply KeepBut.set_ | apply keep_drewN | apply keep_drew | apply keep_alloc) | exact HK.out)))); have n1_ := Aside0.mk (KeepBut.trans (by repeat (first | (with_reducible first | exact HK.out | apply KeepBut.set_ | apply keep_drewN | apply keep_drew | apply keep_alloc) | exact HK.out)) hk (.inl rfl)); have n2_ := Aside0.mk (hb); have n3_ := Aside0.mk (hi); clear HK; clear HB; clear HI0; have HO124 := n0_; have HK := n1_; have HB := n2_; have HI0 := n3_; clear n0_ n1_ n2_ n3_; (try clear hb); (try clear hb2); (try clear hk); (try clear hi); (try clear ho0)))
  go_loopg [8, 9] k (fun kq v8 v9 w' => ∃ (x8_1 : List Int) (x9_1 : Int), v9 = .int .i64 x9_1 ∧ Aside0 (wayzgoosekit_partOf.l0 kq a1 a2 t122 x8_1 x9_1 s0_0 t125 t126 = some (r1, r2, r3)) ∧ Aside0 (kq ≤ k) ∧ Aside0 (Kd.R (Kd.int .i64) 3 w' w.heap.size (fun k_ => some k_ ≠ (v8 : Value).ownBlock) v123 t122) ∧ Aside0 (Kd.R (Kd.int .i64) 3 w' w.heap.size (fun k_ => some k_ ≠ (v123 : Value).ownBlock) v8 x8_1) ∧ Aside0 (IsS72 w0 w' g s0_0 t125 t126) ∧ Aside0 (KeepBut w w' g none) ∧ Aside0 (Below w0.heap.size w0 w'))
  case atStart => exact ⟨(([] : List Int)), (0), (by first | rfl | (simp; done) | (simp [*]; done)), H', ⟨Nat.le_refl _⟩, ⟨by (with_reducible repeat (first | apply Kd.R_alloc | apply Kd.R_drewN | apply Kd.R_drew)); exact Kd.R_mono HO124.out (fun _ hk => (by simp [Value.ownBlock]))⟩, ⟨by first | exact Kd.R_nil _ _ _ _ _ | exact Kd.N_nil _ _ _ _ _ | exact Kd.V_nil _ _ _ _ _ | exact Kd.Q_nil _ _ _ _ _ | exact Kd.S_nil _ _ _ _ _⟩, ⟨by repeat (first | (with_reducible first | exact HI0.out | apply IsS72.alloc | apply IsS72.drewN | apply IsS72.drew | apply IsS72.set_1 | apply IsS72.set_2) | exact HI0.out)⟩, ⟨by repeat (first | (with_reducible first | exact HK.out | apply KeepBut.set_ | apply keep_drewN | apply keep_drew | apply keep_alloc) | exact HK.out)⟩, ⟨by repeat (first | (with_reducible first | exact HB.out | apply below_alloc | apply pw_below_drewN | apply below_drew1 | refine below_set ?_ (IsS72.ge HI0.out)) | exact HB.out)⟩⟩
  case round =>
    clear H'
    try clear c2
    try clear p2
    try clear c3
    obtain ⟨x8_1, x9_1, rfl, HA, HK1, HO_7, HO_8, HI0, HK, HB⟩ := hrel
    cases gk with
    | zero => exact absurd HA.out (by simp [wayzgoosekit_partOf.l0])
    | succ k1 =>
      have H := HA.out
      clear HA
      simp only [wayzgoosekit_partOf.l0] at H
      by_cases c6 : x9_1 < a1
      · rw [if_pos c6] at H
        have c6b0 : decide (x9_1 < a1) = true := decide_eq_true c6
        clear c6
        replace H := Option.bind_eq_some_iff.mp H
        obtain ⟨t127, A70, H⟩ := H
        replace H : (if t127 < a2 then (if x8_1.length < 17592186044416 then (wayzgoosekit_partOf.l0 k1 a1 a2 t122 (x8_1 ++ [x9_1]) (wrap64 (x9_1 + 1)) s0_0 t125 t126) else (none)) else (wayzgoosekit_partOf.l0 k1 a1 a2 t122 x8_1 (wrap64 (x9_1 + 1)) s0_0 t125 t126)) = some (r1, r2, r3) := H
        have A7 := Aside0.mk A70
        clear A70
        by_cases c8 : t127 < a2
        · rw [if_pos c8] at H
          have c8b0 : decide (t127 < a2) = true := decide_eq_true c8
          clear c8
          by_cases c9 : x8_1.length < 17592186044416
          · rw [if_pos c9] at H
            have LMc9 := Aside0.mk c9
            clear c9
            obtain ⟨y128, hy128⟩ : ∃ y_ : List Int, y_ = (x8_1 ++ [x9_1]) := ⟨_, rfl⟩
            replace H : (wayzgoosekit_partOf.l0 k1 a1 a2 t122 y128 (wrap64 (x9_1 + 1)) s0_0 t125 t126) = some (r1, r2, r3) := by first | (rw [hy128]; with_reducible exact H) | (have H2_ := (Option.bind_some _ _).symm.trans H; rw [hy128]; with_reducible exact H2_) | (have H2_ := (Option.bind_some _ _).symm.trans H; with_reducible exact H2_) | with_reducible exact H | (rw [hy128]; exact H) | exact H
            have Ny128 := Aside0.mk hy128
            clear hy128
            have H' := Aside0.mk H
            clear H
            obtain ⟨Ao10, co10, eo10⟩ := Kd.R_slice HO_7.out
            subst eo10
            go_wp2_with (first | ((with_reducible refine gate_callee (f := 20) rfl ?_); refine goesL_ (some 21) rfl rfl Try.func20 (by kernel_rfl) rfl #[.slice Ao10 t122.length co10, .int .i64 x9_1] rfl (by (try simp only [List.map_toArray, List.map_cons, List.map_nil]); first | done | rfl | (simp only [List.length_drop, List.length_take]; rfl)) ?_; (with_reducible refine (wayzgoosekit_Index.calls k1 _ _ t122 x9_1 t127 _ ?side1 ?side2 A7.out).mono ?_); (case side1 => repeat (first | exact (Kd.R_reads' HO_7.out).2.2 | (with_reducible refine Kd.C_alloc ?_ _) | (with_reducible refine Kd.C_drewN ?_ _) | (with_reducible refine Kd.C_drew ?_))); (case side2 => exact (Kd.R_reads' HO_7.out).2.1); rintro e w' ⟨rfl, ⟨nd, rfl⟩⟩; refine ⟨_, rfl, ?_⟩) | ((with_reducible refine gate_builtin (b := .append) (xs := #[.tmp 25, .tmp 27]) rfl ?_); at_builtin; refine Kd.R_append (Kd.int .i64) w.heap.size rfl (.tmp 25) (.tmp 27) 22 3 (.int .i64 0) 8 rfl Try.underlying22 info3 rfl (by decide) (by omega) u8 x8_1 x9_1 [.int .i64 x9_1] (fun k_ => some k_ ≠ (.slice Ao10 t122.length co10 : Value).ownBlock) (fun _ => False) rfl rfl ?aP (fun _ hk => hk.elim) ?aF ?aO (Below.refl _ _) ?aS ?aL ?_; (case aP => exact rfl); (case aF => exact (fun k_ hk => Kd.fresh' (Kd.R_lt (by (with_reducible repeat (first | apply Kd.R_alloc | apply Kd.R_drewN | apply Kd.R_drew)); exact HO_7.out)) k_ hk)); (case aO => exact (by (with_reducible repeat (first | apply Kd.R_alloc | apply Kd.R_drewN | apply Kd.R_drew)); exact HO_8.out)); (case aS => exact (keep_size (w := w) (g := g) (row := none) (by repeat (first | (with_reducible first | exact HK.out | apply KeepBut.set_ | apply keep_drewN | apply keep_drew | apply keep_alloc) | exact HK.out)))); (case aL => have := LMc9.out; omega); intro v129 w11 ho hb hg hat; rw [← Ny128.out] at ho; have n0_ := Aside0.mk (Kd.R_after (ok := (fun _ => True)) (by (with_reducible repeat (first | apply Kd.R_alloc | apply Kd.R_drewN | apply Kd.R_drew)); exact Kd.R_mono HO_7.out (fun _ hk => ⟨trivial, hk⟩)) hg hat); have n1_ := Aside0.mk (IsS72.grown (by repeat (first | (with_reducible first | exact HI0.out | apply IsS72.alloc | apply IsS72.drewN | apply IsS72.drew | apply IsS72.set_1 | apply IsS72.set_2) | exact HI0.out)) hg (IsS72.own_ne HI0.out HO_8.out (by decide))); have n2_ := Aside0.mk (below_weaken (by repeat (first | (with_reducible first | exact HB.out | apply below_alloc | apply pw_below_drewN | apply below_drew1 | refine below_set ?_ (IsS72.ge HI0.out)) | exact HB.out)) HL.out hb); have n3_ := Aside0.mk (KeepBut.trans (by repeat (first | (with_reducible first | exact HK.out | apply KeepBut.set_ | apply keep_drewN | apply keep_drew | apply keep_alloc) | exact HK.out)) (KeepBut.of_grown hg g) (Kd.R_base2 HO_8.out)); have n4_ := Aside0.mk (ho); clear HO_7; clear HI0; clear HB; clear HK; clear HO_8; have HO_7 := n0_; have HI0 := n1_; have HB := n2_; have HK := n3_; have HO130 := n4_; clear n0_ n1_ n2_ n3_ n4_; clear ho hb hg hat))
            go_roundg k1
            case measure => have := HK1.out; omega
            case rel => exact ⟨(y128), (wrap64 (x9_1 + 1)), (by first | rfl | (simp; done) | (simp [*]; done)), H', ⟨by have := HK1.out; omega⟩, ⟨by (with_reducible repeat (first | apply Kd.R_alloc | apply Kd.R_drewN | apply Kd.R_drew)); exact Kd.R_mono HO_7.out (fun _ hk => hk.2)⟩, ⟨by (with_reducible repeat (first | apply Kd.R_alloc | apply Kd.R_drewN | apply Kd.R_drew)); exact HO130.out⟩, ⟨by repeat (first | (with_reducible first | exact HI0.out | apply IsS72.alloc | apply IsS72.drewN | apply IsS72.drew | apply IsS72.set_1 | apply IsS72.set_2) | exact HI0.out)⟩, ⟨by repeat (first | (with_reducible first | exact HK.out | apply KeepBut.set_ | apply keep_drewN | apply keep_drew | apply keep_alloc) | exact HK.out)⟩, ⟨by repeat (first | (with_reducible first | exact HB.out | apply below_alloc | apply pw_below_drewN | apply below_drew1 | refine below_set ?_ (IsS72.ge HI0.out)) | exact HB.out)⟩⟩
          · rw [if_neg c9] at H
            exact absurd H (by simp)
        · rw [if_neg c8] at H
          have c8b0 : decide (t127 < a2) = false := decide_eq_false c8
          clear c8
          have H' := Aside0.mk H
          clear H
          obtain ⟨Ao12, co12, eo12⟩ := Kd.R_slice HO_7.out
          subst eo12
          go_wp2_with (first | ((with_reducible refine gate_callee (f := 20) rfl ?_); refine goesL_ (some 21) rfl rfl Try.func20 (by kernel_rfl) rfl #[.slice Ao12 t122.length co12, .int .i64 x9_1] rfl (by (try simp only [List.map_toArray, List.map_cons, List.map_nil]); first | done | rfl | (simp only [List.length_drop, List.length_take]; rfl)) ?_; (with_reducible refine (wayzgoosekit_Index.calls k1 _ _ t122 x9_1 t127 _ ?side1 ?side2 A7.out).mono ?_); (case side1 => repeat (first | exact (Kd.R_reads' HO_7.out).2.2 | (with_reducible refine Kd.C_alloc ?_ _) | (with_reducible refine Kd.C_drewN ?_ _) | (with_reducible refine Kd.C_drew ?_))); (case side2 => exact (Kd.R_reads' HO_7.out).2.1); rintro e w' ⟨rfl, ⟨nd, rfl⟩⟩; refine ⟨_, rfl, ?_⟩))
          go_roundg k1
          case measure => have := HK1.out; omega
          case rel => exact ⟨(x8_1), (wrap64 (x9_1 + 1)), (by first | rfl | (simp; done) | (simp [*]; done)), H', ⟨by have := HK1.out; omega⟩, ⟨by (with_reducible repeat (first | apply Kd.R_alloc | apply Kd.R_drewN | apply Kd.R_drew)); exact HO_7.out⟩, ⟨by (with_reducible repeat (first | apply Kd.R_alloc | apply Kd.R_drewN | apply Kd.R_drew)); exact HO_8.out⟩, ⟨by repeat (first | (with_reducible first | exact HI0.out | apply IsS72.alloc | apply IsS72.drewN | apply IsS72.drew | apply IsS72.set_1 | apply IsS72.set_2) | exact HI0.out)⟩, ⟨by repeat (first | (with_reducible first | exact HK.out | apply KeepBut.set_ | apply keep_drewN | apply keep_drew | apply keep_alloc) | exact HK.out)⟩, ⟨by repeat (first | (with_reducible first | exact HB.out | apply below_alloc | apply pw_below_drewN | apply below_drew1 | refine below_set ?_ (IsS72.ge HI0.out)) | exact HB.out)⟩⟩
      · rw [if_neg c6] at H
        have c6b0 : decide (x9_1 < a1) = false := decide_eq_false c6
        clear c6
        simp only [Option.some.injEq, Prod.mk.injEq] at H
        obtain ⟨rfl, rfl, rfl⟩ := H
        go_wp2
        go_ret
        exact ⟨_, by first | rfl | (simp [errW_none, errW_some] <;> rfl) | (simp [*, errW_none, errW_some] <;> rfl), by (with_reducible repeat (first | apply Kd.R_alloc | apply Kd.R_drewN | apply Kd.R_drew)); exact Kd.R_mono HO_8.out (fun _ hk => trivial), by repeat (first | (with_reducible first | exact HI0.out | apply IsS72.alloc | apply IsS72.drewN | apply IsS72.drew | apply IsS72.set_1 | apply IsS72.set_2) | exact HI0.out), by repeat (first | (with_reducible first | exact HB.out | apply below_alloc | apply pw_below_drewN | apply below_drew1 | refine below_set ?_ (IsS72.ge HI0.out)) | exact HB.out), by repeat (first | (with_reducible first | exact HK.out | apply KeepBut.set_ | apply keep_drewN | apply keep_drew | apply keep_alloc) | exact HK.out)⟩

/-! ### wayzgoosekit_callings: function 40 -/
def wayzgoosekit_callings.f  : Option (List ByteArray) := some (([(⟨#[98, 97, 107, 101, 114]⟩ : ByteArray), (⟨#[98, 97, 107, 101, 114, 115]⟩ : ByteArray), (⟨#[98, 111, 110, 110, 101, 116, 115]⟩ : ByteArray), (⟨#[98, 114, 101, 119, 101, 114]⟩ : ByteArray), (⟨#[98, 114, 117, 115, 104, 101, 115]⟩ : ByteArray), (⟨#[98, 117, 116, 99, 104, 101, 114]⟩ : ByteArray), (⟨#[99, 97, 110, 100, 108, 101, 115]⟩ : ByteArray), (⟨#[99, 111, 111, 112, 101, 114]⟩ : ByteArray), (⟨#[99, 111, 111, 112, 101, 114, 115]⟩ : ByteArray), (⟨#[99, 117, 116, 108, 101, 114]⟩ : ByteArray), (⟨#[104, 97, 116, 116, 101, 114]⟩ : ByteArray), (⟨#[104, 111, 115, 105, 101, 114]⟩ : ByteArray), (⟨#[109, 101, 114, 99, 101, 114]⟩ : ByteArray), (⟨#[109, 105, 108, 108, 105, 110, 101, 114]⟩ : ByteArray), (⟨#[116, 97, 105, 108, 111, 114]⟩ : ByteArray), (⟨#[116, 97, 110, 110, 101, 114]⟩ : ByteArray)] : List ByteArray))
set_option maxHeartbeats 8000000 in
set_option maxRecDepth 100000 in
theorem wayzgoosekit_callings.calls  (r : List ByteArray) (w : World) (h : wayzgoosekit_callings.f  = some r) :
    Calls Try.prog 40 #[] w fun e w' => ∃ v0_ : Value, e = .returned (v0_) ∧ Kd.R Kd.string 9 w' w.heap.size (fun _ => True) v0_ r ∧ Below w.heap.size w w' := by
  have HB := Aside0.mk (Below.refl w.heap.size w)
  have H : (some (([(⟨#[98, 97, 107, 101, 114]⟩ : ByteArray), (⟨#[98, 97, 107, 101, 114, 115]⟩ : ByteArray), (⟨#[98, 111, 110, 110, 101, 116, 115]⟩ : ByteArray), (⟨#[98, 114, 101, 119, 101, 114]⟩ : ByteArray), (⟨#[98, 114, 117, 115, 104, 101, 115]⟩ : ByteArray), (⟨#[98, 117, 116, 99, 104, 101, 114]⟩ : ByteArray), (⟨#[99, 97, 110, 100, 108, 101, 115]⟩ : ByteArray), (⟨#[99, 111, 111, 112, 101, 114]⟩ : ByteArray), (⟨#[99, 111, 111, 112, 101, 114, 115]⟩ : ByteArray), (⟨#[99, 117, 116, 108, 101, 114]⟩ : ByteArray), (⟨#[104, 97, 116, 116, 101, 114]⟩ : ByteArray), (⟨#[104, 111, 115, 105, 101, 114]⟩ : ByteArray), (⟨#[109, 101, 114, 99, 101, 114]⟩ : ByteArray), (⟨#[109, 105, 108, 108, 105, 110, 101, 114]⟩ : ByteArray), (⟨#[116, 97, 105, 108, 111, 114]⟩ : ByteArray), (⟨#[116, 97, 110, 110, 101, 114]⟩ : ByteArray)] : List ByteArray))) = some r := h
  clear h
  obtain ⟨y131, hy131⟩ : ∃ y_ : List ByteArray, y_ = (([(⟨#[98, 97, 107, 101, 114]⟩ : ByteArray), (⟨#[98, 97, 107, 101, 114, 115]⟩ : ByteArray), (⟨#[98, 111, 110, 110, 101, 116, 115]⟩ : ByteArray), (⟨#[98, 114, 101, 119, 101, 114]⟩ : ByteArray), (⟨#[98, 114, 117, 115, 104, 101, 115]⟩ : ByteArray), (⟨#[98, 117, 116, 99, 104, 101, 114]⟩ : ByteArray), (⟨#[99, 97, 110, 100, 108, 101, 115]⟩ : ByteArray), (⟨#[99, 111, 111, 112, 101, 114]⟩ : ByteArray), (⟨#[99, 111, 111, 112, 101, 114, 115]⟩ : ByteArray), (⟨#[99, 117, 116, 108, 101, 114]⟩ : ByteArray), (⟨#[104, 97, 116, 116, 101, 114]⟩ : ByteArray), (⟨#[104, 111, 115, 105, 101, 114]⟩ : ByteArray), (⟨#[109, 101, 114, 99, 101, 114]⟩ : ByteArray), (⟨#[109, 105, 108, 108, 105, 110, 101, 114]⟩ : ByteArray), (⟨#[116, 97, 105, 108, 111, 114]⟩ : ByteArray), (⟨#[116, 97, 110, 110, 101, 114]⟩ : ByteArray)] : List ByteArray)) := ⟨_, rfl⟩
  replace H : (some y131) = some r := by first | (rw [hy131]; with_reducible exact H) | (have H2_ := (Option.bind_some _ _).symm.trans H; rw [hy131]; with_reducible exact H2_) | (have H2_ := (Option.bind_some _ _).symm.trans H; with_reducible exact H2_) | with_reducible exact H | (rw [hy131]; exact H) | exact H
  have Ny131 := Aside0.mk hy131
  clear hy131
  obtain rfl := Option.some.inj H
  go_enter Try.func40, Try.ntmps40
  go_wp2_with (first | ((with_reducible refine gate_dst (N := 1) rfl ?_); refine Kd.R_lit Kd.string _ 9 ?hg (N := 1) ?hd (xs := ([(⟨#[98, 97, 107, 101, 114]⟩ : ByteArray), (⟨#[98, 97, 107, 101, 114, 115]⟩ : ByteArray), (⟨#[98, 111, 110, 110, 101, 116, 115]⟩ : ByteArray), (⟨#[98, 114, 101, 119, 101, 114]⟩ : ByteArray), (⟨#[98, 114, 117, 115, 104, 101, 115]⟩ : ByteArray), (⟨#[98, 117, 116, 99, 104, 101, 114]⟩ : ByteArray), (⟨#[99, 97, 110, 100, 108, 101, 115]⟩ : ByteArray), (⟨#[99, 111, 111, 112, 101, 114]⟩ : ByteArray), (⟨#[99, 111, 111, 112, 101, 114, 115]⟩ : ByteArray), (⟨#[99, 117, 116, 108, 101, 114]⟩ : ByteArray), (⟨#[104, 97, 116, 116, 101, 114]⟩ : ByteArray), (⟨#[104, 111, 115, 105, 101, 114]⟩ : ByteArray), (⟨#[109, 101, 114, 99, 101, 114]⟩ : ByteArray), (⟨#[109, 105, 108, 108, 105, 110, 101, 114]⟩ : ByteArray), (⟨#[116, 97, 105, 108, 111, 114]⟩ : ByteArray), (⟨#[116, 97, 110, 110, 101, 114]⟩ : ByteArray)] : List ByteArray)) (inner := [.string (⟨#[98, 97, 107, 101, 114]⟩ : ByteArray), .string (⟨#[98, 97, 107, 101, 114, 115]⟩ : ByteArray), .string (⟨#[98, 111, 110, 110, 101, 116, 115]⟩ : ByteArray), .string (⟨#[98, 114, 101, 119, 101, 114]⟩ : ByteArray), .string (⟨#[98, 114, 117, 115, 104, 101, 115]⟩ : ByteArray), .string (⟨#[98, 117, 116, 99, 104, 101, 114]⟩ : ByteArray), .string (⟨#[99, 97, 110, 100, 108, 101, 115]⟩ : ByteArray), .string (⟨#[99, 111, 111, 112, 101, 114]⟩ : ByteArray), .string (⟨#[99, 111, 111, 112, 101, 114, 115]⟩ : ByteArray), .string (⟨#[99, 117, 116, 108, 101, 114]⟩ : ByteArray), .string (⟨#[104, 97, 116, 116, 101, 114]⟩ : ByteArray), .string (⟨#[104, 111, 115, 105, 101, 114]⟩ : ByteArray), .string (⟨#[109, 101, 114, 99, 101, 114]⟩ : ByteArray), .string (⟨#[109, 105, 108, 108, 105, 110, 101, 114]⟩ : ByteArray), .string (⟨#[116, 97, 105, 108, 111, 114]⟩ : ByteArray), .string (⟨#[116, 97, 110, 110, 101, 114]⟩ : ByteArray)]) (ok := fun _ => True) (okp := fun _ => True) ?hr ?hp (fun _ hk => hk) trivial (Below.refl _ _) (Nat.le_refl _) (by simp) ?_; (case hd => rfl); (case hg => rfl); (case hr => first | (go_simp; done) | (go_simp; rfl)); (case hp => exact (Reps.one (show Kd.M Kd.string _ _ _ (⟨#[98, 97, 107, 101, 114]⟩ : ByteArray) [.string (⟨#[98, 97, 107, 101, 114]⟩ : ByteArray)] from rfl) (Reps.one (show Kd.M Kd.string _ _ _ (⟨#[98, 97, 107, 101, 114, 115]⟩ : ByteArray) [.string (⟨#[98, 97, 107, 101, 114, 115]⟩ : ByteArray)] from rfl) (Reps.one (show Kd.M Kd.string _ _ _ (⟨#[98, 111, 110, 110, 101, 116, 115]⟩ : ByteArray) [.string (⟨#[98, 111, 110, 110, 101, 116, 115]⟩ : ByteArray)] from rfl) (Reps.one (show Kd.M Kd.string _ _ _ (⟨#[98, 114, 101, 119, 101, 114]⟩ : ByteArray) [.string (⟨#[98, 114, 101, 119, 101, 114]⟩ : ByteArray)] from rfl) (Reps.one (show Kd.M Kd.string _ _ _ (⟨#[98, 114, 117, 115, 104, 101, 115]⟩ : ByteArray) [.string (⟨#[98, 114, 117, 115, 104, 101, 115]⟩ : ByteArray)] from rfl) (Reps.one (show Kd.M Kd.string _ _ _ (⟨#[98, 117, 116, 99, 104, 101, 114]⟩ : ByteArray) [.string (⟨#[98, 117, 116, 99, 104, 101, 114]⟩ : ByteArray)] from rfl) (Reps.one (show Kd.M Kd.string _ _ _ (⟨#[99, 97, 110, 100, 108, 101, 115]⟩ : ByteArray) [.string (⟨#[99, 97, 110, 100, 108, 101, 115]⟩ : ByteArray)] from rfl) (Reps.one (show Kd.M Kd.string _ _ _ (⟨#[99, 111, 111, 112, 101, 114]⟩ : ByteArray) [.string (⟨#[99, 111, 111, 112, 101, 114]⟩ : ByteArray)] from rfl) (Reps.one (show Kd.M Kd.string _ _ _ (⟨#[99, 111, 111, 112, 101, 114, 115]⟩ : ByteArray) [.string (⟨#[99, 111, 111, 112, 101, 114, 115]⟩ : ByteArray)] from rfl) (Reps.one (show Kd.M Kd.string _ _ _ (⟨#[99, 117, 116, 108, 101, 114]⟩ : ByteArray) [.string (⟨#[99, 117, 116, 108, 101, 114]⟩ : ByteArray)] from rfl) (Reps.one (show Kd.M Kd.string _ _ _ (⟨#[104, 97, 116, 116, 101, 114]⟩ : ByteArray) [.string (⟨#[104, 97, 116, 116, 101, 114]⟩ : ByteArray)] from rfl) (Reps.one (show Kd.M Kd.string _ _ _ (⟨#[104, 111, 115, 105, 101, 114]⟩ : ByteArray) [.string (⟨#[104, 111, 115, 105, 101, 114]⟩ : ByteArray)] from rfl) (Reps.one (show Kd.M Kd.string _ _ _ (⟨#[109, 101, 114, 99, 101, 114]⟩ : ByteArray) [.string (⟨#[109, 101, 114, 99, 101, 114]⟩ : ByteArray)] from rfl) (Reps.one (show Kd.M Kd.string _ _ _ (⟨#[109, 105, 108, 108, 105, 110, 101, 114]⟩ : ByteArray) [.string (⟨#[109, 105, 108, 108, 105, 110, 101, 114]⟩ : ByteArray)] from rfl) (Reps.one (show Kd.M Kd.string _ _ _ (⟨#[116, 97, 105, 108, 111, 114]⟩ : ByteArray) [.string (⟨#[116, 97, 105, 108, 111, 114]⟩ : ByteArray)] from rfl) (Reps.one (show Kd.M Kd.string _ _ _ (⟨#[116, 97, 110, 110, 101, 114]⟩ : ByteArray) [.string (⟨#[116, 97, 110, 110, 101, 114]⟩ : ByteArray)] from rfl) (Reps.none _ _)))))))))))))))))); intro v132 w1 ho2 hb hg_ hnew_; clear hg_ hnew_; (first | rw [← Ny131.out] at ho2 | (simp only [Int.reduceToNat] at ho2; rw [← Ny131.out] at ho2)); have n0_ := Aside0.mk (Kd.R_lower ho2 (below_size (by repeat (first | (with_reducible first | exact HB.out | apply below_alloc | apply pw_below_drewN | apply below_drew1) | exact HB.out)))); have n1_ := Aside0.mk (below_step (by repeat (first | (with_reducible first | exact HB.out | apply below_alloc | apply pw_below_drewN | apply below_drew1) | exact HB.out)) hb); clear HB; have HO133 := n0_; have HB := n1_; clear n0_ n1_; clear hb ho2))
  go_ret
  exact ⟨_, by first | rfl | (simp [errW_none, errW_some] <;> rfl) | (simp [*, errW_none, errW_some] <;> rfl), by (with_reducible repeat (first | apply Kd.R_alloc | apply Kd.R_drewN | apply Kd.R_drew)); exact HO133.out, by repeat (first | (with_reducible first | exact HB.out | apply below_alloc | apply pw_below_drewN | apply below_drew1) | exact HB.out)⟩

/-! ### wayzgoosekit_Dice_Once: function 41 -/
def wayzgoosekit_Dice_Once.f (s0_0 : List Int) (s0_1 : Int) (s0_2 : Int) (a1 : Int) : Option (Bool × Int × Int) := (wayzgoosekit_Dice_To.f s0_0 s0_1 s0_2 (wrap64 (a1 - 1))).bind fun bt134 => (some ((bt134.1 == 0), bt134.2.1, bt134.2.2))
set_option maxHeartbeats 8000000 in
set_option maxRecDepth 100000 in
theorem wayzgoosekit_Dice_Once.calls (g : Nat) (s0_0 : List Int) (s0_1 : Int) (s0_2 : Int) (a1 : Int) (r1 : Bool) (r2 : Int) (r3 : Int) (w0 w : World) (hI : IsS72 w0 w g s0_0 s0_1 s0_2) (hB : Below w0.heap.size w0 w) (h : wayzgoosekit_Dice_Once.f s0_0 s0_1 s0_2 a1 = some (r1, r2, r3)) :
    Calls Try.prog 41 #[.pointer (some ⟨g, 0, none⟩), .int .i64 a1] w fun e w' => e = .returned (.bool r1) ∧ IsS72 w0 w' g s0_0 r2 r3 ∧ Below w0.heap.size w0 w' ∧ KeepBut w w' g none := by
  have HI0 := Aside0.mk hI
  have HK := Aside0.mk (KeepBut.refl w g none)
  have HL := Aside0.mk hB.size
  clear hI
  have HW0 := Aside0.mk hB.size
  have HB := Aside0.mk hB
  clear hB
  have H : ((wayzgoosekit_Dice_To.f s0_0 s0_1 s0_2 (wrap64 (a1 - 1))).bind fun bt134 => (some ((bt134.1 == 0), bt134.2.1, bt134.2.2))) = some (r1, r2, r3) := h
  clear h
  replace H := Option.bind_eq_some_iff.mp H
  obtain ⟨⟨t134, t135, t136⟩, A30, H⟩ := H
  replace H : (some ((t134 == 0), t135, t136)) = some (r1, r2, r3) := H
  have A3 := Aside0.mk A30
  clear A30
  simp only [Option.some.injEq, Prod.mk.injEq] at H
  obtain ⟨rfl, rfl, rfl⟩ := H
  go_enter Try.func41, Try.ntmps41
  go_wp2_with (first | ((with_reducible refine gate_callee (f := 32) rfl ?_); refine goesL_ (some 8) rfl rfl Try.func32 (by kernel_rfl) rfl #[.pointer (some ⟨g, 0, none⟩), .int .i64 (wrap64 (a1 - 1))] rfl (by (try simp only [List.map_toArray, List.map_cons, List.map_nil]); first | done | rfl | (simp only [List.length_drop, List.length_take]; rfl)) ?_; (with_reducible refine (wayzgoosekit_Dice_To.calls g s0_0 s0_1 s0_2 (wrap64 (a1 - 1)) t134 t135 t136 w0 _ ?side1 ?side2 A3.out).mono ?_); (case side1 => repeat (first | (with_reducible first | exact HI0.out | apply IsS72.alloc | apply IsS72.drewN | apply IsS72.drew | apply IsS72.set_1 | apply IsS72.set_2) | exact HI0.out)); (case side2 => repeat (first | (with_reducible first | exact HB.out | apply below_alloc | apply pw_below_drewN | apply below_drew1 | refine below_set ?_ (IsS72.ge HI0.out)) | exact HB.out)); rintro e w4 ⟨rfl, hi, hb, hk⟩; refine ⟨_, rfl, ?_⟩; have n0_ := Aside0.mk (KeepBut.trans (by repeat (first | (with_reducible first | exact HK.out | apply KeepBut.set_ | apply keep_drewN | apply keep_drew | apply keep_alloc) | exact HK.out)) hk (.inl rfl)); have n1_ := Aside0.mk (hb); have n2_ := Aside0.mk (hi); clear HK; clear HB; clear HI0; have HK := n0_; have HB := n1_; have HI0 := n2_; clear n0_ n1_ n2_; (try clear hb); (try clear hb2); (try clear hk); (try clear hi)))
  go_ret
  exact ⟨by first | rfl | (simp [errW_none, errW_some] <;> rfl) | (simp [*, errW_none, errW_some] <;> rfl), by repeat (first | (with_reducible first | exact HI0.out | apply IsS72.alloc | apply IsS72.drewN | apply IsS72.drew | apply IsS72.set_1 | apply IsS72.set_2) | exact HI0.out), by repeat (first | (with_reducible first | exact HB.out | apply below_alloc | apply pw_below_drewN | apply below_drew1 | refine below_set ?_ (IsS72.ge HI0.out)) | exact HB.out), by repeat (first | (with_reducible first | exact HK.out | apply KeepBut.set_ | apply keep_drewN | apply keep_drew | apply keep_alloc) | exact HK.out)⟩

end Go.Proofs.Ytfbimhnlcmdcpaa.Pa
namespace Go.Proofs.Ytfbimhnlcmdcpaa.Pa
open Go.RowKit Go.Proofs.YtfbimhnlcmdcpaaW.PrintWords Go.Proofs.YtfbimhnlcmdcpaaW.PrintLast Go.Proofs.YtfbimhnlcmdcpaaW.PrintMore
attribute [local go_sem] max2_int min2_int max_two min_two max_three min_three max_four min_four   -- for this text's walks alone
set_option linter.unusedVariables false
set_option linter.unusedSimpArgs false


/-! ### wayzgoosekit_TradesOf: function 13 -/
mutual
def wayzgoosekit_TradesOf.l0 : Nat → Int → List Int → Int → List Int → Int → Int → List (S51) → Option ((List (S51)) × (List (S39)) × Int × Int)
  | 0, _, _, _, _, _, _, _ => none
  | k + 1, x2, x8, x9, x1000, x1001, x1002, x139000 => if x9 > 0 then ((wayzgoosekit_sorts.f).bind fun t150 => (if 0 ≤ (x139000.length : Int) then (if (x139000.length : Int) < (x8.length : Int) then (if 0 ≤ (rd x8 (x139000.length : Int)) then (if (rd x8 (x139000.length : Int)) < (t150.length : Int) then ((wayzgoosekit_Dice_From.f x1000 x1001 x1002 (-1) (wrap64 ((x139000.length : Int) - 1))).bind fun bt155 => (if x139000.length < 5864062014805 then (wayzgoosekit_TradesOf.l0 k x2 x8 (wrap64 (x9 - 1)) x1000 bt155.2.1 bt155.2.2 (x139000 ++ [(⟨rdOf ByteArray.empty t150 (rd x8 (x139000.length : Int)), bt155.1⟩ : S51)])) else (none))) else (none)) else (none)) else (none)) else (none))) else ((wayzgoosekit_callings.f).bind fun t161 => ((wayzgoosekit_Dice_To.f x1000 x1001 x1002 x2).bind fun bt164 => ((wayzgoosekit_partOf.f k x1000 bt164.2.1 bt164.2.2 (t161.length : Int) bt164.1).bind fun bt167 => (wayzgoosekit_TradesOf.l1 k bt167.1 (bt167.1.length : Int) 0 x1000 bt167.2.1 bt167.2.2 x139000 ([] : List (S39))))))
def wayzgoosekit_TradesOf.l1 : Nat → List Int → Int → Int → List Int → Int → Int → List (S51) → List (S39) → Option ((List (S51)) × (List (S39)) × Int × Int)
  | 0, _, _, _, _, _, _, _, _ => none
  | k + 1, x10, x11, x12, x1000, x1001, x1002, x139000, x139001 => if x12 < x11 then ((wayzgoosekit_callings.f).bind fun t172 => (if 0 ≤ x12 then (if x12 < (x10.length : Int) then (if 0 ≤ (rd x10 x12) then (if (rd x10 x12) < (t172.length : Int) then ((wayzgoosekit_Dice_To.f x1000 x1001 x1002 (wrap64 ((x139000.length : Int) - 1))).bind fun bt177 => (if x11 > 1 then ((wayzgoosekit_Dice_Once.f x1000 bt177.2.1 bt177.2.2 3).bind fun bt181 => (wayzgoosekit_TradesOf.j2 k x10 x11 x12 bt181.1 x1000 bt181.2.1 bt181.2.2 x139000 x139001 (rdOf ByteArray.empty t172 (rd x10 x12)) bt177.1 (-1))) else (wayzgoosekit_TradesOf.j2 k x10 x11 x12 false x1000 bt177.2.1 bt177.2.2 x139000 x139001 (rdOf ByteArray.empty t172 (rd x10 x12)) bt177.1 (-1)))) else (none)) else (none)) else (none)) else (none))) else (some (x139000, x139001, x1001, x1002))
def wayzgoosekit_TradesOf.j2 : Nat → List Int → Int → Int → Bool → List Int → Int → Int → List (S51) → List (S39) → ByteArray → Int → Int → Option ((List (S51)) × (List (S39)) × Int × Int)
  | 0, _, _, _, _, _, _, _, _, _, _, _, _ => none
  | k + 1, x10, x11, x12, x80, x1000, x1001, x1002, x139000, x139001, x181000, x181001, x181002 => if x80 = true then ((wayzgoosekit_Dice_To.f x1000 x1001 x1002 (wrap64 (x11 - 2))).bind fun bt184 => (if x11 = 0 then (none) else (if x139001.length < 2513169434916 then (wayzgoosekit_TradesOf.l1 k x10 x11 (wrap64 (x12 + 1)) x1000 bt184.2.1 bt184.2.2 x139000 (x139001 ++ [(⟨x181000, (-1), Int.tmod (wrap64 ((wrap64 (x12 + 1)) + bt184.1)) x11, ([] : List Int)⟩ : S39)])) else (none)))) else (wayzgoosekit_TradesOf.l2 k x10 x11 x12 0 x1000 x1001 x1002 x139000 x139001 x181000 x181001 x181002 ([] : List Int))
def wayzgoosekit_TradesOf.l2 : Nat → List Int → Int → Int → Int → List Int → Int → Int → List (S51) → List (S39) → ByteArray → Int → Int → List Int → Option ((List (S51)) × (List (S39)) × Int × Int)
  | 0, _, _, _, _, _, _, _, _, _, _, _, _, _ => none
  | k + 1, x10, x11, x12, x14, x1000, x1001, x1002, x139000, x139001, x181000, x181001, x181002, x181003 => if x14 < x11 then (if x14 = x12 then (wayzgoosekit_TradesOf.l2 k x10 x11 x12 (wrap64 (x14 + 1)) x1000 x1001 x1002 x139000 x139001 x181000 x181001 x181002 x181003) else ((wayzgoosekit_Dice_Once.f x1000 x1001 x1002 4).bind fun bt190 => (if bt190.1 = true then (if x181003.length < 17592186044416 then (wayzgoosekit_TradesOf.l2 k x10 x11 x12 (wrap64 (x14 + 1)) x1000 bt190.2.1 bt190.2.2 x139000 x139001 x181000 x181001 x181002 (x181003 ++ [x14])) else (none)) else (wayzgoosekit_TradesOf.l2 k x10 x11 x12 (wrap64 (x14 + 1)) x1000 bt190.2.1 bt190.2.2 x139000 x139001 x181000 x181001 x181002 x181003)))) else (if (x181003.length : Int) > 0 then ((wayzgoosekit_Dice_Once.f x1000 x1001 x1002 4).bind fun bt196 => (if bt196.1 = true then (if x139001.length < 2513169434916 then (wayzgoosekit_TradesOf.l1 k x10 x11 (wrap64 (x12 + 1)) x1000 bt196.2.1 bt196.2.2 x139000 (x139001 ++ [(⟨x181000, (-1), x181002, x181003⟩ : S39)])) else (none)) else (if x139001.length < 2513169434916 then (wayzgoosekit_TradesOf.l1 k x10 x11 (wrap64 (x12 + 1)) x1000 bt196.2.1 bt196.2.2 x139000 (x139001 ++ [(⟨x181000, x181001, x181002, x181003⟩ : S39)])) else (none)))) else (if x139001.length < 2513169434916 then (wayzgoosekit_TradesOf.l1 k x10 x11 (wrap64 (x12 + 1)) x1000 x1001 x1002 x139000 (x139001 ++ [(⟨x181000, x181001, x181002, x181003⟩ : S39)])) else (none)))
end
def wayzgoosekit_TradesOf.f (k : Nat) (s0_0 : List Int) (s0_1 : Int) (s0_2 : Int) (a1 : Int) (a2 : Int) : Option ((List (S51)) × (List (S39)) × Int × Int) := (wayzgoosekit_sorts.f).bind fun t139 => ((wayzgoosekit_Dice_Order.f k s0_0 s0_1 s0_2 (t139.length : Int)).bind fun bt142 => ((wayzgoosekit_Dice_From.f s0_0 bt142.2.1 bt142.2.2 1 a1).bind fun bt147 => (wayzgoosekit_TradesOf.l0 k a2 bt142.1 bt147.1 s0_0 bt147.2.1 bt147.2.2 ([] : List (S51)))))
end Go.Proofs.Ytfbimhnlcmdcpaa.Pa
