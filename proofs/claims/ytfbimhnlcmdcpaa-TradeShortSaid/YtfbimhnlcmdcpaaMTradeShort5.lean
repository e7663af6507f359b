/- A part of the proof: The beginning of Short means just one trade, and that to which the heading leads, if it leads to one; no shorter one means just one: for all lists of numbers. Without conditions of its own. -/
import Derived.Test.YtfbimhnlcmdcpaaMTradeShort4
import Derived.Scope
import Derived.Sort.LoopGhostIn
import Derived.Lib.SliceRun
import Derived.Lib.Bytealg
import Derived.Lib.Walk
import Derived.Shelf.SlSortCmp.NoneTotal
import Derived.Shelf.SlicesE.Compact
import Derived.Shelf.SlicesE.Equal
import Derived.Ground.SlsfProg
import Derived.Ground.SlgnProg
import Derived.Test.YtfbimhnlcmdcpaaProg
import Derived.Lib.OwnBridge
/- The contracts of join and Join. -/
namespace Go.Proofs.Ytfbimhnlcmdcpaa.Pa
open Go.RowKit Go.Proofs.YtfbimhnlcmdcpaaW.PrintWords Go.Proofs.YtfbimhnlcmdcpaaW.PrintLast Go.Proofs.YtfbimhnlcmdcpaaW.PrintMore
attribute [local go_sem] Oper.semAt_some
set_option linter.unusedVariables false
set_option linter.unusedSimpArgs false

/-- the first list that is enough, of m references or more -/
def firstMany (free : List Rf) (good : List Rf → Bool) : Nat → Nat → List Rf
  | 0, _ => []
  | k + 1, m => match (combos free m).find? good with | some c => c | none => firstMany free good k (m + 1)
def goodJ (hs : List Hd) (h s : Nat) : List Rf → Bool := goodT (tradesS hs hs.length) (netT hs) h s
def joinT (hs : List Hd) (h s : Nat) : Option (List Rf) :=
  if goodJ hs h s (freeT hs) = false then none else some (firstMany (freeT hs) (goodJ hs h s) ((freeT hs).length + 1) 0)

theorem freeT_in (hs : List Hd) (m1 : hs.length ≤ 6) : ∀ r, r ∈ freeT hs → r.1 < 6 ∧ r.2 < 6 := by
  have key : ∀ k, k ≤ 6 → ∀ r, r ∈ freeTo hs k → r.1 < 6 ∧ r.2 < 6 := by
    intro k
    induction k with
    | zero => intro _ r hr; simp [freeTo] at hr
    | succ k ih =>
      intro hk r hr
      have hr : r ∈ freeTo hs k ++ (if (hs.getD k zHd).f2 ≠ -1 then [] else freeRow hs k hs.length) := hr
      rcases List.mem_append.1 hr with hr | hr
      · exact ih (by omega) r hr
      · split at hr
        · simp at hr
        · unfold freeRow at hr
          obtain ⟨t, ht, rfl⟩ := List.mem_map.1 hr
          have := List.mem_range.1 (List.mem_filter.1 ht).1
          exact ⟨by show k < 6; omega, by show t < 6; omega⟩
  exact key hs.length m1
theorem freeT_len (hs : List Hd) (m1 : hs.length ≤ 6) : (freeT hs).length ≤ 36 := by
  have := freeTo_len hs hs.length
  have h2 : hs.length * hs.length ≤ 36 := Nat.le_trans (Nat.mul_le_mul m1 m1) (by omega)
  unfold freeT
  omega
theorem netT_lt {cs : List Cl} {hs : List Hd} (hv : Valid cs hs) : ∀ i, netT hs i < 256 := fun i => by
  by_cases h0 : hs.length = 0
  · unfold netT stN
    rw [h0, if_neg (by omega)]
    split <;> simp [addAll]
  · have := stN_full hs (hs.length - 1)
    rw [show hs.length - 1 + 1 = hs.length by omega] at this
    unfold netT
    rw [← this]
    exact stN_lt hv _ _ (by omega) i
theorem kRf_mkM (w : World) (base : Nat) (ok : Nat → Prop) (x : Rf) : kRf.M w base ok x [.int .i64 (x.1 : Int), .int .i64 (x.2 : Int)] := ⟨[.int .i64 (x.1 : Int)], [.int .i64 (x.2 : Int)], rfl, rfl, rfl⟩
theorem rf_reps (w : World) (base : Nat) (ok : Nat → Prop) (l : List Rf) : Reps (kRf.M w base ok) 2 l (rfCells l) := by
  induction l with
  | nil => exact Reps.none _ _
  | cons r l ih => exact Kd.reps_append (Reps.snoc (Reps.none _ _) (kRf_mkM w base ok r) rfl) ih
theorem rf_reads {w : World} {base : Nat} {v : Value} {l : List Rf} (h : w.ownsRow base 139 2 v l.length (rfCells l)) : ∃ A c, v = .slice A l.length c ∧ kRf.C w A l.length l := by
  have hR : kRf.R 139 w base (fun _ => True) v l := ⟨fun _ _ => trivial, rfCells l, h, rf_reps _ _ _ _⟩
  obtain ⟨A, c, e, _, hC⟩ := Kd.R_reads hR
  exact ⟨A, c, e, hC⟩

theorem infoSl : (Try.prog.info? 22).map (fun i => (i.zero, i.size, i.bytes)) = some (some (.slice none 0 0), 1, 24) := by kernel_rfl
/-! ### the result's rows -/
def toRows (l : List Rf) : List (List Int) := l.map (fun r => [(r.1 : Int), (r.2 : Int)])
/-- rows of two numbers each, every one in a block of its own -/
structure OutRows (w : World) (base : Nat) (v : Value) (l : List Rf) : Prop where mk ::
  ok : ∃ gs : List Nat, w.ownsRow base 22 1 v l.length (gs.map (fun g => .slice (some ⟨g, 0, none⟩) 2 2)) ∧ ∀ (i : Nat) (r : Rf), l[i]? = some r → ∃ g, gs[i]? = some g ∧ base ≤ g ∧ w.heap[g]? = some (.cells #[.int .i64 (r.1 : Int), .int .i64 (r.2 : Int)] 3 (0, 0))
theorem OutRows.nil (w : World) (base : Nat) : OutRows w base (.slice none 0 0) [] := ⟨[], own_nil _ _ _ _, fun i r h => by simp at h⟩
theorem OutRows.move {w w1 : World} {base : Nat} {v : Value} {l : List Rf} (h : OutRows w base v l) (hm : ∀ k, base ≤ k → k < w.heap.size → w1.heap[k]? = w.heap[k]?) : OutRows w1 base v l := by
  obtain ⟨gs, ho, hr⟩ := h.ok
  refine ⟨gs, own_move ho (fun k hk => hm k (own_base ho k hk) (own_lt ho k hk)), fun i r hi => ?_⟩
  obtain ⟨g, hg, hb, hc⟩ := hr i r hi
  exact ⟨g, hg, hb, (hm g hb (blk_lt hc)).trans hc⟩
theorem OutRows.lower {w : World} {base base' : Nat} {v : Value} {l : List Rf} (h : OutRows w base v l) (hb : base' ≤ base) : OutRows w base' v l := by
  obtain ⟨gs, ho, hr⟩ := h.ok
  refine ⟨gs, own_weaken ho hb, fun i r hi => ?_⟩
  obtain ⟨g, h1, h2, h3⟩ := hr i r hi
  exact ⟨g, h1, by omega, h3⟩
theorem heap_set_one {w : World} {b : Nat} {u : Value} {t : TypeId} (h : w.heap[b]? = some (.cells #[u] t (0, 0))) (v : Value) : (w.setCell ⟨b, 0, none⟩ v).heap[b]? = some (.cells #[v] t (0, 0)) := by
  simp [World.setCell, Array.getElem?_modify, h]
/-- a row more: it lies in block g, a new one -/
theorem OutRows.snoc {w w1 : World} {base : Nat} {v v1 : Value} {l : List Rf} (r : Rf) (g : Nat) (gs : List Nat) (ho0 : w.ownsRow base 22 1 v l.length (gs.map (fun g => .slice (some ⟨g, 0, none⟩) 2 2)))
    (hr : ∀ (i : Nat) (r : Rf), l[i]? = some r → ∃ g, gs[i]? = some g ∧ base ≤ g ∧ w.heap[g]? = some (.cells #[.int .i64 (r.1 : Int), .int .i64 (r.2 : Int)] 3 (0, 0)))
    (hb : base ≤ g) (hg : w.heap[g]? = some (.cells #[.int .i64 (r.1 : Int), .int .i64 (r.2 : Int)] 3 (0, 0)))
    (ho : w1.ownsRow base 22 1 v1 (l.length + 1) (gs.map (fun g => .slice (some ⟨g, 0, none⟩) 2 2) ++ [.slice (some ⟨g, 0, none⟩) 2 2])) (hgr : w.grownBy w1 v.ownBlock) : OutRows w1 base v1 (l ++ [r]) := by
  have hl : gs.length = l.length := by have := ho0.1; simpa using this
  have hne : ∀ k cells, w.heap[k]? = some (Obj.cells cells 3 (0, 0)) → w1.heap[k]? = w.heap[k]? := fun k cells hk => hgr.block k (blk_lt hk) (fun e => by
    obtain ⟨c2, h2⟩ := own_typed ho0 k e.symm
    rw [hk] at h2
    injection h2 with h2
    injection h2 with _ h2
    exact absurd h2 (by decide))
  refine ⟨gs ++ [g], by rw [List.length_append, List.map_append]; exact ho, fun i q hq => ?_⟩
  by_cases hi : i < l.length
  · rw [List.getElem?_append_left hi] at hq
    obtain ⟨k, hk, hkb, hkc⟩ := hr i q hq
    exact ⟨k, by rw [List.getElem?_append_left (by omega)]; exact hk, hkb, (hne k _ hkc).trans hkc⟩
  · have hi2 : i = l.length := by
      have := (List.getElem?_eq_some_iff.1 hq).1
      simp at this
      omega
    subst hi2
    have : q = r := by simpa using hq.symm
    subst this
    exact ⟨g, by rw [← hl]; simp, hb, (hne g _ hg).trans hg⟩
theorem OutRows.R {w : World} {base : Nat} {v : Value} {l : List Rf} (h : OutRows w base v l) : Kd.R (Kd.slice 3 (Kd.int .i64)) 22 w base (fun _ => True) v (toRows l) := by
  obtain ⟨gs, ho, hr⟩ := h.ok
  have hl : gs.length = l.length := by have := ho.1; simpa using this
  refine ⟨fun _ _ => trivial, gs.map (fun g => .slice (some ⟨g, 0, none⟩) 2 2), by rw [show (toRows l).length = l.length by simp [toRows]]; exact ho, by simp [toRows, hl, Kd.slice], fun i p hp => ?_⟩
  unfold toRows at hp
  rw [List.getElem?_map] at hp
  obtain ⟨r, hr1, rfl⟩ := Option.map_eq_some_iff.1 hp
  obtain ⟨g, hg, hb, hc⟩ := hr i r hr1
  have hgi : i < gs.length := (List.getElem?_eq_some_iff.1 hg).1
  have hge : gs[i] = g := (List.getElem?_eq_some_iff.1 hg).2
  refine ⟨.slice (some ⟨g, 0, none⟩) 2 2, ?_, ?_⟩
  · show (List.drop (i * 1) _).take 1 = _
    rw [Nat.mul_one, List.drop_eq_getElem_cons (by simpa using hgi)]
    simp [hge]
  · refine Kd.R_of_own (xs := [(r.1 : Int), (r.2 : Int)]) ⟨rfl, .inr ⟨g, 2, _, rfl, hb, hc, Nat.le_refl _, by unfold maxLen; omega, rfl, rfl⟩⟩ (fun k hk => ⟨trivial, fun e => ?_⟩)
    have hk2 : g = k := by simpa [Value.ownBlock] using hk
    subst hk2
    obtain ⟨c2, h2⟩ := own_typed ho g e.symm
    rw [hc] at h2
    injection h2 with h2
    injection h2 with _ h2
    exact absurd h2 (by decide)


def markOf (D : Nat) : Deferred := { target := .collected D, args := #[] }
def slotNat (a : Act) (k : Nat) : Nat := match a.tmps.getD k undef with | .int _ i => i.toNat | _ => 0

theorem leaves_marks {P : Program} {fn : Func} {tmps : Array Value} {R : Ending → World → Prop} {v : Value} (Inv : World → Prop) (PD : Nat → Prop) (hput : ∀ W D, PD D → Inv W → Inv (W.putObj D (.deferred none)))
    (hres : ∀ W, (results fn tmps).run P W = .ok v W) (hR : ∀ W, Inv W → R (.returned v) W) : ∀ (Ds : List Nat) (W : World), Inv W → (∀ D, D ∈ Ds → PD D ∧ W.heap[D]? = some (.deferred (some []))) → Ds.Nodup → LeavesInM Fence.wide 1 P fn tmps R (Ds.map markOf) .returning W
  | [], W, hI, _, _ => ⟨_, hres W, hR W hI⟩
  | D :: Ds, W, hI, hD, hn => by
    obtain ⟨hp, hd⟩ := hD D List.mem_cons_self
    obtain ⟨hn1, hn2⟩ := List.nodup_cons.1 hn
    refine ⟨by simp, .inl ⟨D, _, rfl, run_takeDeferred hd, leaves_marks Inv PD hput hres hR Ds _ (hput W D hp hI) (fun D' h' => ?_) hn2⟩⟩
    obtain ⟨hp', hd'⟩ := hD D' (List.mem_cons_of_mem _ h')
    exact ⟨hp', (World.putObj_heap_other (fun e => hn1 (by rw [← e]; exact h'))).trans hd'⟩

set_option maxHeartbeats 4000000 in
set_option maxRecDepth 100000 in
theorem join_any (g : Nat) (cs : List Cl) (hs : List Hd) (h s : Nat) (w : World) (hL : IsList w g cs hs) (hv : Valid cs hs) (hh : h < hs.length) (hs6' : s ≤ 6) :
    Calls Try.prog 72 #[.pointer (some ⟨g, 0, none⟩), .int .i64 h, .int .i64 s] w fun e w' => ∃ v b, e = .returned (.tuple #[v, .bool b]) ∧ Below w.heap.size w w' ∧
      ((b = false ∧ joinT hs h s = none) ∨ (b = true ∧ ∃ l, joinT hs h s = some l ∧ Kd.R (Kd.slice 3 (Kd.int .i64)) 22 w' w.heap.size (fun _ => True) v (toRows l))) := by
  obtain ⟨m0, m1, -, -⟩ := hv.split
  obtain ⟨i0, hi, hz0, hz1, hz2⟩ := info_parts infoSl
  have hun := Try.underlying134
  have hur := Try.underlying139
  have HT := fun W (hW : Below w.heap.size w W) => trades_any g cs hs W (hL.below hW) hv
  have HN := fun W (hW : Below w.heap.size w W) => nets_any g cs hs W (hL.below hW) hv
  have HF := fun W (hW : Below w.heap.size w W) => free_any g cs hs W (hL.below hW) hv
  have hfin := freeT_in hs m1
  have hflen := freeT_len hs m1
  have hnl := netT_lt hv
  have htl := tradesS_lt hs hs.length m1
  have HJ : Hid (joinT hs h s = if goodT (tradesS hs hs.length) (netT hs) h s (freeT hs) = false then none else some (firstMany (freeT hs) (goodT (tradesS hs hs.length) (netT hs) h s) ((freeT hs).length + 1) 0)) := rfl
  obtain ⟨J, hJ⟩ : ∃ J, joinT hs h s = J := ⟨_, rfl⟩
  obtain ⟨free, hfree⟩ : ∃ free, freeT hs = free := ⟨_, rfl⟩
  obtain ⟨net, hnet⟩ : ∃ net, netT hs = net := ⟨_, rfl⟩
  obtain ⟨due, hdue⟩ : ∃ due, tradesS hs hs.length = due := ⟨_, rfl⟩
  rw [hJ] at HJ ⊢
  rw [hfree, hnet, hdue] at HJ
  rw [hfree] at hfin hflen
  rw [hnet] at hnl
  rw [hdue] at htl
  simp only [hdue] at HT
  simp only [hnet, netVal] at HN
  simp only [hfree] at HF
  clear hJ hfree hnet hdue hL
  have hB0 := Below.refl w.heap.size w
  refine (callsIn_wide (n := 1)).1 (callsIn_of_wp_marks Try.func72 rfl trivial ((wpIn_wide (n := 1)).2 ?_) rfl)
  simp only [Try.ntmps72, List.size_toArray, List.length_cons, List.length_nil, Nat.reduceAdd, Nat.reduceSub, Array.replicate_succ, Array.replicate_zero, List.push_toArray, List.append_toArray, List.nil_append, List.cons_append]
  go_upto_region 1 with (fail)
  have hB1 := ((Below.refl w.heap.size w).alloc (Nat.le_refl _) (.cells #[.int .i64 (h : Int)] 3)).alloc (by simp) (.cells #[.int .i64 (s : Int)] 3)
  have hbh := cells1 (blk_alloc (heap_alloc_new w (.cells #[.int .i64 (h : Int)] 3)) (.cells #[.int .i64 (s : Int)] 3))
  have hbs := second_cell w (.cells #[.int .i64 (h : Int)] 3) (.int .i64 (s : Int))
  obtain ⟨W1, hW1⟩ : ∃ W1, W1 = (w.alloc (.cells #[.int .i64 (h : Int)] 3)).alloc (.cells #[.int .i64 (s : Int)] 3) := ⟨_, rfl⟩
  rw [← hW1] at hB1 hbh hbs ⊢
  clear hW1
  refine wp_scope_straight ?_
  go_upto_region 2 with (first
    | (go_at_call 86; (with_reducible refine (HT _ hB1).mono ?_); rintro e w2 ⟨rfl, hb2⟩; have hB2 := below_then hB1 hB1.size hb2)
    | (go_at_call 87; (with_reducible refine (HN _ hB2).mono ?_); rintro e w3 ⟨rfl, hb3⟩; have hB3 := below_then hB2 hB2.size hb3)
    | (go_at_call 88; (with_reducible refine (HF _ hB3).mono ?_); rintro e w4 ⟨vf, rfl, ho4, hb4⟩; have hB4 := below_then hB3 hB3.size hb4; obtain ⟨Af, cf, rfl, hCf⟩ := rf_reads ho4))
  have hB5 := (hB4.alloc hB4.size (.cells #[.int .u8 (due : Int)] 120)).alloc (by have := hB4.size; simp; omega) (.cells (netCells net) 134)
  have hbd := cells1 (blk_alloc (heap_alloc_new w4 (.cells #[.int .u8 (due : Int)] 120)) (.cells (netCells net) 134))
  have hbn := heap_alloc_new (w4.alloc (.cells #[.int .u8 (due : Int)] 120)) (.cells (netCells net) 134)
  rw [World.size_alloc] at hbn
  have hb45 := ((Below.refl w4.heap.size w4).alloc (Nat.le_refl _) (.cells #[.int .u8 (due : Int)] 120)).alloc (by simp) (.cells (netCells net) 134)
  have hb15 := below_then (below_then (below_then hb2 hb2.size hb3) (Nat.le_trans hb2.size hb3.size) hb4) (Nat.le_trans (Nat.le_trans hb2.size hb3.size) hb4.size) hb45
  replace hbh := pw_cell_below hb15 hbh
  replace hbs := pw_cell_below hb15 hbs
  replace hCf := Kd.C_below hCf hb45
  obtain ⟨W5, hW5⟩ : ∃ W5, W5 = (w4.alloc (.cells #[.int .u8 (due : Int)] 120)).alloc (.cells (netCells net) 134) := ⟨_, rfl⟩
  have hs5 : W5.heap.size = w4.heap.size + 2 := by rw [hW5]; simp
  rw [← hW5] at hB5 hbd hbn hbh hbs hCf
  simp only [netCells] at hW5
  rw [← hW5]
  obtain ⟨q4, hq4⟩ : ∃ q, w4.heap.size = q := ⟨_, rfl⟩
  rw [hq4] at hbd hbn hs5 ⊢
  clear hW5 hb45 hb15 hb2 hb3 hb4 ho4 HT HN HF hB1 hB2 hB3 hB4 hB0 hq4
  go_upto_region 3 with (fail)
  have hbc := cells1 (heap_alloc_new W5 (.cells #[.func (.func 89) #[] #[.pointer (some ⟨q4 + 1, 0, none⟩), .pointer (some ⟨q4, 0, none⟩), .pointer (some ⟨w.heap.size, 0, none⟩), .pointer (some ⟨w.heap.size + 1, 0, none⟩)]] 141))
  rw [hs5] at hbc
  have h56 := (Below.refl W5.heap.size W5).alloc (Nat.le_refl _) (.cells #[.func (.func 89) #[] #[.pointer (some ⟨q4 + 1, 0, none⟩), .pointer (some ⟨q4, 0, none⟩), .pointer (some ⟨w.heap.size, 0, none⟩), .pointer (some ⟨w.heap.size + 1, 0, none⟩)]] 141)
  have hB6 := below_then hB5 hB5.size h56
  replace hbd := pw_cell_below h56 hbd
  replace hbn := blk_below hbn h56
  replace hbh := pw_cell_below h56 hbh
  replace hbs := pw_cell_below h56 hbs
  replace hCf := Kd.C_below hCf h56
  obtain ⟨W6, hW6⟩ : ∃ W6, W6 = W5.alloc (.cells #[.func (.func 89) #[] #[.pointer (some ⟨q4 + 1, 0, none⟩), .pointer (some ⟨q4, 0, none⟩), .pointer (some ⟨w.heap.size, 0, none⟩), .pointer (some ⟨w.heap.size + 1, 0, none⟩)]] 141) := ⟨_, rfl⟩
  have hs6 : W6.heap.size = q4 + 3 := by rw [hW6]; simp [hs5]
  rw [← hW6] at hbc hbd hbn hbh hbs hCf hB6 ⊢
  clear hW6 h56 hs5 hB5
  clear W5
  have HW := fun A' c' refs W (hW : Below W6.heap.size W6 W) (hC' : kRf.C W A' refs.length refs) hr' => with_any A' c' refs (q4 + 1) q4 w.heap.size (w.heap.size + 1) net due h s W hC' hr' hnl htl (by omega) hs6' (blk_below hbn hW) (pw_cell_below hW hbd) (pw_cell_below hW hbh) (pw_cell_below hW hbs)
  obtain ⟨good, hgood⟩ : ∃ good, goodT due net h s = good := ⟨_, rfl⟩
  rw [hgood] at HJ
  simp only [hgood] at HW
  clear hgood hbd hbn hbh hbs
  have HW0 := HW Af cf free W6 (Below.refl _ _) hCf hfin
  cases hgf : good free with
  | false =>
    rw [hgf] at HW0
    have HJ2 : Hid (J = none) := by show _ = _; rw [HJ.out, if_pos hgf]
    go_wp2_with (go_at_call 89; (with_reducible refine HW0.mono ?_); rintro e w7 ⟨rfl, hb7⟩)
    exact ⟨_, results_tmp2 rfl _ _ _, _, _, rfl, below_then hB6 hB6.size hb7, .inl ⟨rfl, HJ2.out⟩⟩
  | true =>
    rw [hgf] at HW0
    have HJ2 : Hid (J = some (firstMany free good (free.length + 1) 0)) := by show _ = _; rw [HJ.out, if_neg (by rw [hgf]; decide)]
    go_upto_region 6 with (go_at_call 89; (with_reducible refine HW0.mono ?_); rintro e w7 ⟨rfl, hb7⟩)
    refine wp_label ?_
    go_upto_region 6 with (fail)
    have hB7 := below_then hB6 hB6.size hb7
    have hB8 := hB7.alloc hB7.size (.cells #[.slice none 0 0] 62)
    have hbo := heap_alloc_new w7 (.cells #[.slice none 0 0] 62)
    have h68 := hb7.alloc hb7.size (.cells #[.slice none 0 0] 62)
    obtain ⟨W8, hW8⟩ : ∃ W8, W8 = w7.alloc (.cells #[.slice none 0 0] 62) := ⟨_, rfl⟩
    obtain ⟨q7, hq7⟩ : ∃ q, w7.heap.size = q := ⟨_, rfl⟩
    have hs8 : W8.heap.size = q7 + 1 := by rw [hW8, ← hq7]; simp
    have hq67 : W6.heap.size ≤ q7 := by rw [← hq7]; exact hb7.size
    have hq07 : w.heap.size ≤ q7 := by rw [← hq7]; exact hB7.size
    rw [hq7] at hbo ⊢
    rw [← hW8] at hB8 hbo h68 ⊢
    clear hW8 hB7 hb7 hq7 HW0 hB6
    clear w7
    replace HW := fun A' c' refs W (hW : Below W8.heap.size W8 W) (hC' : kRf.C W A' refs.length refs) hr' => HW A' c' refs W (below_then h68 h68.size hW) hC' hr'
    have hbc8 := pw_cell_below h68 hbc
    have hCf8 := Kd.C_below hCf h68
    clear hbc hCf h68 hs6
    obtain ⟨L, hLe⟩ : ∃ L, firstMany free good (free.length + 1 - 0) 0 = L := ⟨_, rfl⟩
    rw [Nat.sub_zero] at hLe
    rw [hLe] at HJ2
    replace hLe : Hid (firstMany free good (free.length + 1 - 0) 0 = L) := hLe
    go_upto_region 7 with (fail)
    refine wp_loop (fun a wr => ∃ (m : Nat) (Ds : List Nat) (u13 u32 u33 u34 u35 u36 u57 : Value), a = { tmps := #[.pointer (some ⟨g, 0, none⟩), .int .i64 (h : Int), .int .i64 (s : Int), undef, .pointer (some ⟨w.heap.size, 0, none⟩), .pointer (some ⟨w.heap.size + 1, 0, none⟩), .slice none 0 0, .bool false, .pointer (some ⟨q4, 0, none⟩), .pointer (some ⟨q4 + 1, 0, none⟩), .slice Af free.length cf, .pointer (some ⟨q4 + 2, 0, none⟩), .pointer (some ⟨q7, 0, none⟩), u13, undef, undef, undef, .pointer (some ⟨g, 0, none⟩), .int .u8 (due : Int), .pointer (some ⟨g, 0, none⟩), .agg #[.int .u8 (net 0 : Int), .int .u8 (net 1 : Int), .int .u8 (net 2 : Int), .int .u8 (net 3 : Int), .int .u8 (net 4 : Int), .int .u8 (net 5 : Int)], .pointer (some ⟨g, 0, none⟩), .slice Af free.length cf, .func (.func 89) #[] #[.pointer (some ⟨q4 + 1, 0, none⟩), .pointer (some ⟨q4, 0, none⟩), .pointer (some ⟨w.heap.size, 0, none⟩), .pointer (some ⟨w.heap.size + 1, 0, none⟩)], .func (.func 89) #[] #[.pointer (some ⟨q4 + 1, 0, none⟩), .pointer (some ⟨q4, 0, none⟩), .pointer (some ⟨w.heap.size, 0, none⟩), .pointer (some ⟨w.heap.size + 1, 0, none⟩)], .slice Af free.length cf, .bool true, .bool false, .slice Af free.length cf, .int .i64 (free.length : Int), .int .i64 ((free.length : Int) + 1), .int .i64 (m : Int), u32, u33, u34, u35, u36, undef, undef, undef, undef, undef, undef, undef, undef, undef, undef, undef, undef, undef, undef, undef, undef, undef, undef, undef, undef, u57, undef], defers := Ds.map markOf } ∧ m ≤ free.length + 1 ∧ Below W8.heap.size W8 wr ∧ (∀ D, D ∈ Ds → W8.heap.size ≤ D ∧ wr.heap[D]? = some (.deferred (some []))) ∧ Ds.Nodup ∧ Hid (firstMany free good (free.length + 1 - m) m = L))
      (fun a _ => free.length + 1 - slotNat a 31) ⟨0, [], _, _, _, _, _, _, _, rfl, by omega, Below.refl _ _, fun D hD => by simp at hD, List.nodup_nil, hLe⟩ ?_
    rintro a wr ⟨m, Ds, u13, u32, u33, u34, u35, u36, u57, rfl, hm, hbw, hDs, hnd, HK⟩
    by_cases hlt : m < free.length + 1
    · have hml : (m : Int) < (free.length : Int) + 1 := by omega
      have HP := fun W => picks_any Af free.length cf (m : Int) W
      go_wp2_with (go_at_call 91; (with_reducible refine (HP _).mono ?_); rintro e w9 ⟨rfl, rfl⟩)
      have h9 := (hbw.alloc hbw.size (.cells #[.slice Af free.length cf] 136)).alloc (by have := hbw.size; simp; omega) (.cells #[.int .i64 (m : Int)] 3)
      have hr9 := ((Below.refl wr.heap.size wr).alloc (Nat.le_refl _) (.cells #[.slice Af free.length cf] 136)).alloc (by simp) (.cells #[.int .i64 (m : Int)] 3)
      have hbl := cells1 (blk_alloc (heap_alloc_new wr (.cells #[.slice Af free.length cf] 136)) (.cells #[.int .i64 (m : Int)] 3))
      have hbm := second_cell wr (.cells #[.slice Af free.length cf] 136) (.int .i64 (m : Int))
      obtain ⟨W9, hW9⟩ : ∃ W9, W9 = (wr.alloc (.cells #[.slice Af free.length cf] 136)).alloc (.cells #[.int .i64 (m : Int)] 3) := ⟨_, rfl⟩
      have hs9 : W9.heap.size = wr.heap.size + 2 := by rw [hW9]; simp
      rw [← hW9] at h9 hr9 hbl hbm ⊢
      clear hW9
      have hq79 : q7 < W9.heap.size := by have := h9.size; omega
      have hbo9 := blk_below hbo h9
      refine wp_range_picks (A := Af) (c := cf) (free := free) (good := good) (Stop := fun refs W => W9.grownBy W (some q7) ∧ ∃ vb, W.cell? ⟨q7, 0, none⟩ = some vb ∧ OutRows W (W9.heap.size + 2) vb refs) (ID := 0) (by omega) hbm hbl (Kd.C_below hCf8 h9) rfl rfl ?stops (fun v => { tmps := #[.pointer (some ⟨g, 0, none⟩), .int .i64 (h : Int), .int .i64 (s : Int), undef, .pointer (some ⟨w.heap.size, 0, none⟩), .pointer (some ⟨w.heap.size + 1, 0, none⟩), .slice none 0 0, .bool false, .pointer (some ⟨q4, 0, none⟩), .pointer (some ⟨q4 + 1, 0, none⟩), .slice Af free.length cf, .pointer (some ⟨q4 + 2, 0, none⟩), .pointer (some ⟨q7, 0, none⟩), .int .i64 (m : Int), v, undef, undef, .pointer (some ⟨g, 0, none⟩), .int .u8 (due : Int), .pointer (some ⟨g, 0, none⟩), .agg #[.int .u8 (net 0 : Int), .int .u8 (net 1 : Int), .int .u8 (net 2 : Int), .int .u8 (net 3 : Int), .int .u8 (net 4 : Int), .int .u8 (net 5 : Int)], .pointer (some ⟨g, 0, none⟩), .slice Af free.length cf, .func (.func 89) #[] #[.pointer (some ⟨q4 + 1, 0, none⟩), .pointer (some ⟨q4, 0, none⟩), .pointer (some ⟨w.heap.size, 0, none⟩), .pointer (some ⟨w.heap.size + 1, 0, none⟩)], .func (.func 89) #[] #[.pointer (some ⟨q4 + 1, 0, none⟩), .pointer (some ⟨q4, 0, none⟩), .pointer (some ⟨w.heap.size, 0, none⟩), .pointer (some ⟨w.heap.size + 1, 0, none⟩)], .slice Af free.length cf, .bool true, .bool false, .slice Af free.length cf, .int .i64 (free.length : Int), .int .i64 ((free.length : Int) + 1), .int .i64 (m : Int), .bool true, .int .i64 (m : Int), .slice Af free.length cf, .int .i64 (m : Int), .func (.func 111) #[] #[.pointer (some ⟨wr.heap.size + 1, 0, none⟩), .pointer (some ⟨wr.heap.size, 0, none⟩)], v, undef, undef, undef, undef, undef, undef, undef, undef, undef, undef, undef, undef, undef, undef, undef, undef, undef, undef, undef, u57, undef], defers := [] }) ?assign ?body ?done ?stop
      case stops =>
        rintro refs W o ⟨hgr, vb, hvb, hO⟩ -
        refine ⟨⟨hgr.os, hgr.tape, hgr.output, by simp; exact hgr.size, fun k hk hne => (World.putObj_heap_other (by omega)).trans (hgr.block k hk hne)⟩, vb, ?_, hO.move (fun k hk _ => World.putObj_heap_other (by omega))⟩
        rw [World.cell?_of_block (w := W) (World.putObj_heap_other (by show q7 ≠ _; omega))]
        exact hvb
      case assign =>
        intro l v W K hK
        gi_wp2
        exact hK
      case body =>
        intro l v refs W hW hsW ho hlen hmem
        have hW' := (show Below W9.heap.size W9 W from hW)
        obtain ⟨Ar, cr, rfl, hCr⟩ := rf_reads ho
        have hdd : ∀ k : Nat, ((Fence.wide.inRound l).depth.isSome = true → 1 ≤ k) := fun k h => by cases h
        have hbW := below_then h9 h9.size hW
        have hbcW := pw_cell_below hbW hbc8
        have HWr := HW Ar cr refs W hbW hCr (fun r hr => hfin r (hmem r hr))
        have HLn := Lib.hid hlen
        clear hlen
        cases hgd : good refs with
        | false =>
          rw [hgd] at HWr
          have HWi := CallsIn.inRound l ((callsIn_wide (n := 0 - 1)).2 HWr)
          gi_wp2_with ((try refine ⟨trivial, rfl, ?_⟩); gi_at_call 89; (with_reducible refine HWi.mono ?_); rintro e W2 ⟨rfl, hb2⟩)
          exact ⟨hgd, hb2⟩
        | true =>
          rw [hgd] at HWr
          have HWi := CallsIn.inRound l ((callsIn_wide (n := 0 - 1)).2 HWr)
          have hl36 : refs.length ≤ 100 := by have := HLn.out; omega
          gi_wp2_with ((try refine ⟨trivial, rfl, ?_⟩); gi_at_call 89; go_loud ((with_reducible refine HWi.mono ?_); rintro e W2 ⟨rfl, hb2⟩))
          have hbo2 := blk_below (blk_below hbo9 hW') hb2
          gi_loopg [44] refs.length (fun gk v wr => ∃ (j : Nat) (vb : Value), j + gk = refs.length ∧ v = .int .i64 j ∧ W2.grownBy wr (some q7) ∧ wr.heap[q7]? = some (.cells #[vb] 62 (0, 0)) ∧ OutRows wr W2.heap.size vb (refs.take j))
          case atStart => exact ⟨0, _, by omega, rfl, World.grownBy.refl _ _, hbo2, OutRows.nil _ _⟩
          case round =>
            obtain ⟨j, vb, hj, rfl, hgr, hbx, hO⟩ := hrel
            by_cases hjl : j < refs.length
            · have how : wr.ownsRow (W9.heap.size + 2) 139 2 (.slice Ar refs.length cr) refs.length (rfCells refs) := own_move ho (fun k hk => by
                have h1 := own_base ho k hk
                have h2 := own_lt ho k hk
                exact (hgr.block k (by have := hb2.size; omega) (fun e => by cases e; omega)).trans (hb2.block k h2))
              obtain ⟨Ar', cr', hee, hCw⟩ := rf_reads how
              cases hee
              obtain ⟨ad, e, h0, h1⟩ := rfAt hCw j hjl
              cases e
              have hTk : Hid (refs.take (j + 1) = refs.take j ++ [refs.getD j (0, 0)]) := by
                show _ = _
                rw [List.take_succ_eq_append_getElem hjl, List.getD_eq_getElem?_getD, List.getElem?_eq_getElem hjl]
                rfl
              obtain ⟨gs, hog, hrr⟩ := hO.ok
              have htl : (refs.take j).length = j := by rw [List.length_take]; omega
              obtain ⟨tk, htk⟩ : ∃ tk, refs.take j = tk := ⟨_, rfl⟩
              obtain ⟨r, hre⟩ : ∃ r, refs.getD j (0, 0) = r := ⟨_, rfl⟩
              rw [hre] at h0 h1 hTk
              rw [htk] at hog hrr htl hTk
              obtain ⟨a, b⟩ := r
              simp only at h0 h1
              have hqw : q7 < wr.heap.size := blk_lt hbx
              have hsw : W2.heap.size ≤ wr.heap.size := hgr.size
              have e1 := World.new_ne wr ⟨q7, 0, none⟩ (cells1 hbx)
              have hx1 := fun o => cells1 (blk_alloc hbx o)
              have hjl' : (j : Int) < refs.length := by omega
              have hg1 := heap_alloc_new (wr.alloc (.cells #[.int .i64 (a : Int), .int .i64 (b : Int)] 139)) (.cells #[.int .i64 (a : Int), .int .i64 (b : Int)] 3)
              rw [World.size_alloc] at hg1
              have hg2 := heap_alloc_new ((wr.alloc (.cells #[.int .i64 (a : Int), .int .i64 (b : Int)] 139)).alloc (.cells #[.int .i64 (a : Int), .int .i64 (b : Int)] 3)) (.cells #[.slice (some ⟨wr.heap.size + 1, 0, none⟩) 2 2] 22)
              rw [World.size_alloc, World.size_alloc] at hg2
              have hg3 := blk_alloc hg1 (.cells #[.slice (some ⟨wr.heap.size + 1, 0, none⟩) 2 2] 22)
              have hbx3 := blk_alloc (blk_alloc (blk_alloc hbx (.cells #[.int .i64 (a : Int), .int .i64 (b : Int)] 139)) (.cells #[.int .i64 (a : Int), .int .i64 (b : Int)] 3)) (.cells #[.slice (some ⟨wr.heap.size + 1, 0, none⟩) 2 2] 22)
              have how3 := ((hog.alloc (.cells #[.int .i64 (a : Int), .int .i64 (b : Int)] 139)).alloc (.cells #[.int .i64 (a : Int), .int .i64 (b : Int)] 3)).alloc (.cells #[.slice (some ⟨wr.heap.size + 1, 0, none⟩) 2 2] 22)
              have hgr3 : W2.grownBy (((wr.alloc (.cells #[.int .i64 (a : Int), .int .i64 (b : Int)] 139)).alloc (.cells #[.int .i64 (a : Int), .int .i64 (b : Int)] 3)).alloc (.cells #[.slice (some ⟨wr.heap.size + 1, 0, none⟩) 2 2] 22)) (some q7) := ((hgr.trans (World.grownBy_alloc _ _ _)).trans (World.grownBy_alloc _ _ _)).trans (World.grownBy_alloc _ _ _)
              have hqb : some q7 ≠ vb.ownBlock := fun e => by have := own_base hog q7 e.symm; have := hb2.size; omega
              have hrr3 : ∀ (i : Nat) (r : Rf), tk[i]? = some r → ∃ g, gs[i]? = some g ∧ W2.heap.size ≤ g ∧ (((wr.alloc (.cells #[.int .i64 (a : Int), .int .i64 (b : Int)] 139)).alloc (.cells #[.int .i64 (a : Int), .int .i64 (b : Int)] 3)).alloc (.cells #[.slice (some ⟨wr.heap.size + 1, 0, none⟩) 2 2] 22)).heap[g]? = some (.cells #[.int .i64 (r.1 : Int), .int .i64 (r.2 : Int)] 3 (0, 0)) := fun i r hi => by
                obtain ⟨g, k1, k2, k3⟩ := hrr i r hi
                exact ⟨g, k1, k2, blk_alloc (blk_alloc (blk_alloc k3 _) _) _⟩
              have htk100 : tk.length ≤ 100 := by omega
              clear hrr how hCw
              gi_wp2_with (gi_at_builtin; go_loud (refine wpListIn_append_own _ rfl _ _ 62 rfl W2.heap.size 22 i0 (.slice none 0 0) 1 24 Try.underlying62 hi hz0 hz1 hz2 rfl (by decide) _ _ _ rfl how3 ⟨wr.heap.size + 2, 0, none⟩ 1 1 [.slice (some ⟨wr.heap.size + 1, 0, none⟩) 2 2] rfl rfl (World.news_of_block (cs := #[.slice (some ⟨wr.heap.size + 1, 0, none⟩) 2 2]) (t := 22) (fr := (0, 0)) hg2) (by simp [Value.oneCell']) (by unfold maxLen; omega) (by omega) (by simp; omega) ?_); intro v' w3 hown3 hgrow3 _; obtain ⟨gv, cv, rfl, -, -⟩ := hown3.form (by omega); have hO3 := OutRows.snoc (a, b) (wr.heap.size + 1) gs how3 hrr3 (by omega) hg3 hown3 hgrow3; have hbx4 := (hgrow3.block q7 (by simp; omega) hqb).trans hbx3; have hc4 := cells1 hbx4; have hf4 := blk_frozen hbx4 0)
              gi_roundg (refs.length - (j + 1))
              case measure => omega
              case rel =>
                refine ⟨j + 1, _, by omega, by go_num, ?_, heap_set_one hbx4 _, ?_⟩
                · have hst := grownBy_setCell w3 ⟨q7, 0, none⟩ (.slice (some ⟨gv, 0, none⟩) (j + 1) cv)
                  exact ⟨hst.os.trans (hgrow3.os.trans hgr3.os), hst.tape.trans (hgrow3.tape.trans hgr3.tape), hst.output.trans (hgrow3.output.trans hgr3.output), Nat.le_trans hgr3.size (Nat.le_trans hgrow3.size hst.size), fun k hk hne => (hst.block k (by have := hgr3.size; have := hgrow3.size; omega) hne).trans ((hgrow3.block k (by have := hgr3.size; omega) (fun e => by have := own_base hog k e.symm; omega)).trans (hgr3.block k hk hne))⟩
                · rw [hTk.out]
                  rw [htl] at hO3
                  exact hO3.move (fun k hk _ => Below.heap_setCell _ ⟨q7, 0, none⟩ _ k (by have := hb2.size; simp; omega))
            · obtain rfl : j = refs.length := by omega
              rw [List.take_length] at hO
              gi_wp2
              refine ⟨rfl, hgd, ?_, ?_, ?_, _, cells1 hbx, hO.lower (by have := hb2.size; omega)⟩
              · exact (hgr.block _ (by have := hb2.size; omega) (by simp; omega)).trans (hb2.block _ (by omega))
              · exact (hgr.block _ (by have := hb2.size; omega) (by simp; omega)).trans (hb2.block _ (by omega))
              · exact ⟨hgr.os.trans (hb2.os.trans hW'.os), hgr.tape.trans (hb2.tape.trans hW'.tape), hgr.output.trans (hb2.output.trans hW'.output), Nat.le_trans hW'.size (Nat.le_trans hb2.size hgr.size), fun k hk hne => (hgr.block k (by have := hb2.size; have := hW'.size; omega) hne).trans ((hb2.block k (by have := hW'.size; omega)).trans (hW'.block k hk))⟩
      case done =>
        intro W hf hb hD
        have hbW := below_then h9 h9.size hb
        have HK2 : Hid (firstMany free good (free.length + 1 - (m + 1)) (m + 1) = L) := by
          show _ = _
          have h1 := HK.out
          rw [show free.length + 1 - m = (free.length + 1 - (m + 1)) + 1 by omega] at h1
          rw [← h1]
          show _ = (match (combos free m).find? good with | some c => c | none => _)
          rw [hf]
        have hDs2 : ∀ D, D ∈ W9.heap.size :: Ds → W8.heap.size ≤ D ∧ W.heap[D]? = some (.deferred (some [])) := fun D hDm => by
          rcases List.mem_cons.1 hDm with rfl | hDm
          · exact ⟨h9.size, hD⟩
          · obtain ⟨h1, h2⟩ := hDs D hDm
            exact ⟨h1, blk_below (blk_below h2 hr9) hb⟩
        have hnd2 : (W9.heap.size :: Ds).Nodup := List.nodup_cons.2 ⟨fun hDm => by
          have := blk_lt (hDs _ hDm).2
          omega, hnd⟩
        clear HW hbm hbl
        go_wp2
        exact ⟨⟨m + 1, W9.heap.size :: Ds, _, _, _, _, _, _, _, rfl, by omega, below_then h9 h9.size hb, hDs2, hnd2, HK2⟩, by show free.length + 1 - ((m : Int) + 1).toNat < free.length + 1 - ((m : Int)).toNat; omega⟩
      case stop =>
        rintro refs W hf ⟨hgr, vb, hvb, hO⟩ hD
        have HL : Hid (L = refs) := by
          show _ = _
          have h1 := HK.out
          rw [show free.length + 1 - m = (free.length + 1 - (m + 1)) + 1 by omega] at h1
          rw [← h1]
          show (match (combos free m).find? good with | some c => c | none => _) = _
          rw [hf]
        clear HW hbm hbl
        go_wp2
        have hB9 := below_then hB8 hB8.size h9
        refine leaves_marks (v := .tuple #[vb, .bool true]) (fun W => Below w.heap.size w W ∧ OutRows W (W9.heap.size + 2) vb refs) (fun D => w.heap.size ≤ D ∧ D < W9.heap.size + 2) ?hput (fun W => results_tmp2 (show (Try.f72).results = #[ResultVar.tmp 6, ResultVar.tmp 7] from rfl) _ _ _) (fun W hI => ?hR) (W9.heap.size :: Ds) W ⟨hB9.grown hgr hB9.size (fun j hj => by cases hj; exact hq07), hO⟩ (fun D hDm => ?hD) ?hn
        case hput =>
          rintro W D ⟨hD1, hD2⟩ ⟨h1, h2⟩
          exact ⟨⟨h1.os, h1.tape, h1.output, by simp; exact h1.size, fun k hk => (World.putObj_heap_other (by omega)).trans (h1.block k hk)⟩, h2.move (fun k hk _ => World.putObj_heap_other (by omega))⟩
        case hR =>
          obtain ⟨h1, h2⟩ := hI
          exact ⟨_, _, rfl, h1, .inr ⟨rfl, refs, by rw [HJ2.out, HL.out], Kd.R_lower h2.R (by have := hB9.size; omega)⟩⟩
        case hD =>
          rcases List.mem_cons.1 hDm with rfl | hDm
          · exact ⟨⟨hB9.size, by omega⟩, hD⟩
          · obtain ⟨h1, h2⟩ := hDs D hDm
            have h3 := blk_lt h2
            exact ⟨⟨Nat.le_trans hB8.size h1, by omega⟩, (hgr.block D (by omega) (fun e => by cases e; omega)).trans (blk_below h2 hr9)⟩
        case hn =>
          exact List.nodup_cons.2 ⟨fun hDm => by
            have := blk_lt (hDs _ hDm).2
            omega, hnd⟩
    · obtain rfl : m = free.length + 1 := by omega
      have HL : Hid (L = []) := by
        show _ = _
        rw [← HK.out, Nat.sub_self]
        rfl
      have hboc := pw_cell_below hbw (cells1 hbo)
      have hB9 := below_then hB8 hB8.size hbw
      clear HW
      go_wp2
      refine leaves_marks (v := .tuple #[.slice none 0 0, .bool true]) (fun W => Below w.heap.size w W) (fun D => w.heap.size ≤ D) ?_ (fun W => results_tmp2 (show (Try.f72).results = #[ResultVar.tmp 6, ResultVar.tmp 7] from rfl) _ _ _) (fun W h1 => ?_) Ds wr hB9 (fun D hDm => ?_) hnd
      · intro W D hD1 h1
        exact ⟨h1.os, h1.tape, h1.output, by simp; exact h1.size, fun k hk => (World.putObj_heap_other (by omega)).trans (h1.block k hk)⟩
      · exact ⟨_, _, rfl, h1, .inr ⟨rfl, [], by rw [HJ2.out, HL.out], Kd.R_nil _ _ _ _ _⟩⟩
      · obtain ⟨h1, h2⟩ := hDs D hDm
        exact ⟨Nat.le_trans hB8.size h1, h2⟩
end Go.Proofs.Ytfbimhnlcmdcpaa.Pa
/- The contract of Join. -/
namespace Go.Proofs.Ytfbimhnlcmdcpaa.Pa
open Go.RowKit Go.Proofs.YtfbimhnlcmdcpaaW.PrintWords Go.Proofs.YtfbimhnlcmdcpaaW.PrintLast Go.Proofs.YtfbimhnlcmdcpaaW.PrintMore
set_option linter.unusedVariables false
set_option linter.unusedSimpArgs false

def joinR (r : Option (List Rf)) : List (List Int) × Int := match r with
  | none => ([], 11)
  | some l => (toRows l, 0)
def trade_Join.f (cs : List Cl) (hs : List Hd) (h s : Int) : Option (List (List Int) × Int) :=
  some (if askT cs hs h ≠ 0 then ([], askT cs hs h) else if betw s 0 6 = false then ([], 1) else joinR (joinT hs h.toNat s.toNat))

set_option maxHeartbeats 1000000 in
set_option maxRecDepth 100000 in
theorem trade_Join.calls (A0_0 : Option Addr) (c0_0 : Nat) (l0_0 : List (S51)) (A0_1 : Option Addr) (c0_1 : Nat) (l0_1 : List (S39)) (a1 : Int) (a2 : Int) (r1 : List (List Int)) (r2 : Int) (w : World) (hr0_0 : Kd.C k51 w A0_0 l0_0.length l0_0) (hc0_0 : l0_0.length ≤ c0_0) (hr0_1 : Kd.C k39 w A0_1 l0_1.length l0_1) (hc0_1 : l0_1.length ≤ c0_1) (h : trade_Join.f l0_0 l0_1 a1 a2 = some (r1, r2)) :
    Calls Try.prog 46 #[.agg #[.slice A0_0 l0_0.length c0_0, .slice A0_1 l0_1.length c0_1], .int .i64 a1, .int .i64 a2] w fun e w' => ∃ v0_ : Value, e = .returned (.tuple #[v0_, .int .i64 r2]) ∧ Kd.R (Kd.slice 3 (Kd.int .i64)) 22 w' w.heap.size (fun _ => True) v0_ r1 ∧ Below w.heap.size w w' := by
  have hu2 := Try.underlying26
  have hB0 := (Below.refl w.heap.size w).alloc (Nat.le_refl _) (.cells #[.slice A0_0 l0_0.length c0_0, .slice A0_1 l0_1.length c0_1] 26)
  have hB1 := hB0.alloc hB0.size (.cells #[.int .i64 a1] 3)
  have hcq := second_cell w (.cells #[.slice A0_0 l0_0.length c0_0, .slice A0_1 l0_1.length c0_1] 26) (.int .i64 a1)
  have h := Option.some.inj h
  have HT := fun W => between_any a2 0 6 W
  by_cases hz : askT l0_0 l0_1 a1 = 0
  · obtain ⟨hv, n, rfl, hn⟩ := askT_zero hz
    have HG := fun W q (hW : Below w.heap.size w W) hq => ask_good A0_0 A0_1 c0_0 c0_1 l0_0 l0_1 q n W (Kd.C_below hr0_0 hW) (Kd.C_below hr0_1 hW) hc0_0 hc0_1 hq hv hn
    rw [if_neg (by omega)] at h
    by_cases hb : betw a2 0 6 = false
    · rw [if_pos hb] at h
      simp only [Prod.mk.injEq] at h
      obtain ⟨rfl, rfl⟩ := h
      simp only [hb] at HT
      clear hz hb
      go_enter Try.func46, Try.ntmps46
      go_wp2_with (first
        | (go_at_call 51; (with_reducible refine (HG _ _ hB1 hcq).mono ?_); rintro e w1 ⟨g, rfl, hL1, hb1⟩; obtain HB1 := below_then hB1 hB1.size hb1; clear hb1)
        | (go_at_call 43; (with_reducible refine (HT _).mono ?_); rintro e w2 ⟨rfl, rfl⟩))
      go_ret2
      exact ⟨_, rfl, Kd.R_nil _ _ _ _ _, HB1⟩
    · have hb1 : betw a2 0 6 = true := by simpa using hb
      rw [if_neg hb] at h
      obtain ⟨s, rfl, hs6⟩ : ∃ s : Nat, a2 = s ∧ s ≤ 6 := by
        unfold betw at hb1
        simp only [Bool.and_eq_true, decide_eq_true_eq] at hb1
        exact ⟨a2.toNat, by omega, by omega⟩
      rw [Int.toNat_natCast, Int.toNat_natCast] at h
      have HF := fun W g (hL : IsList W g l0_0 l0_1) => join_any g l0_0 l0_1 n s W hL hv hn hs6
      obtain ⟨R, hRe⟩ : ∃ R, joinT l0_1 n s = R := ⟨_, rfl⟩
      rw [hRe] at h
      simp only [hRe] at HF
      simp only [hb1] at HT
      clear hz hRe hb hb1
      match R, h with
      | none, hR =>
        simp only [joinR, Prod.mk.injEq] at hR
        obtain ⟨rfl, rfl⟩ := hR
        have HF2 := fun W g hL => (HF W g hL).mono (R' := fun e w' => ∃ v, e = .returned (.tuple #[v, .bool false]) ∧ Below W.heap.size W w') (by
          rintro e w' ⟨v, b, rfl, hb, (⟨rfl, -⟩ | ⟨-, l, hl, -⟩)⟩
          · exact ⟨v, rfl, hb⟩
          · cases hl)
        clear HF
        go_enter Try.func46, Try.ntmps46
        go_wp2_with (first
          | (go_at_call 51; (with_reducible refine (HG _ _ hB1 hcq).mono ?_); rintro e w1 ⟨g, rfl, hL1, hb1⟩; obtain HB1 := below_then hB1 hB1.size hb1; clear hb1)
          | (go_at_call 43; (with_reducible refine (HT _).mono ?_); rintro e w2 ⟨rfl, rfl⟩)
          | (go_at_call 72; (with_reducible refine (HF2 _ _ hL1).mono ?_); rintro e w3 ⟨v, rfl, hb3⟩))
        go_ret2
        exact ⟨_, rfl, Kd.R_nil _ _ _ _ _, below_then HB1 HB1.size hb3⟩
      | some l, hR =>
        simp only [joinR, Prod.mk.injEq] at hR
        obtain ⟨rfl, rfl⟩ := hR
        have HF2 := fun W g hL => (HF W g hL).mono (R' := fun e w' => ∃ v, e = .returned (.tuple #[v, .bool true]) ∧ Kd.R (Kd.slice 3 (Kd.int .i64)) 22 w' W.heap.size (fun _ => True) v (toRows l) ∧ Below W.heap.size W w') (by
          rintro e w' ⟨v, b, rfl, hb, (⟨-, hl⟩ | ⟨rfl, l', hl, hR⟩)⟩
          · cases hl
          · cases hl
            exact ⟨v, rfl, hR, hb⟩)
        clear HF
        go_enter Try.func46, Try.ntmps46
        go_wp2_with (first
          | (go_at_call 51; (with_reducible refine (HG _ _ hB1 hcq).mono ?_); rintro e w1 ⟨g, rfl, hL1, hb1⟩; obtain HB1 := below_then hB1 hB1.size hb1; clear hb1)
          | (go_at_call 43; (with_reducible refine (HT _).mono ?_); rintro e w2 ⟨rfl, rfl⟩)
          | (go_at_call 72; (with_reducible refine (HF2 _ _ hL1).mono ?_); rintro e w3 ⟨v, rfl, hR3, hb3⟩))
        go_ret2
        exact ⟨_, rfl, Kd.R_lower hR3 HB1.size, below_then HB1 HB1.size hb3⟩
  · have HG := fun W q (hW : Below w.heap.size w W) hq => ask_bad A0_0 A0_1 c0_0 c0_1 l0_0 l0_1 q a1 W (Kd.C_below hr0_0 hW) (Kd.C_below hr0_1 hW) hc0_0 hc0_1 hq hz
    rw [if_pos hz] at h
    obtain ⟨z, hze⟩ : ∃ z, askT l0_0 l0_1 a1 = z := ⟨_, rfl⟩
    rw [hze] at h hz
    simp only [Prod.mk.injEq] at h
    obtain ⟨rfl, rfl⟩ := h
    simp only [hze] at HG
    have hz1 : (z != 0) = true := bne_iff_ne.mpr hz
    clear hz hze
    go_enter Try.func46, Try.ntmps46
    go_wp2_with (go_at_call 51; (with_reducible refine (HG _ _ hB1 hcq).mono ?_); rintro e w1 ⟨rfl, hb1⟩; obtain HB1 := below_then hB1 hB1.size hb1; clear hb1)
    go_ret2
    exact ⟨_, rfl, Kd.R_nil _ _ _ _ _, HB1⟩
end Go.Proofs.Ytfbimhnlcmdcpaa.Pa
/- The contract of names. -/
namespace Go.Proofs.Ytfbimhnlcmdcpaa.Pa
open Go.RowKit Go.Proofs.YtfbimhnlcmdcpaaW.PrintWords Go.Proofs.YtfbimhnlcmdcpaaW.PrintLast Go.Proofs.YtfbimhnlcmdcpaaW.PrintMore
set_option linter.unusedVariables false
set_option linter.unusedSimpArgs false

def classNames (cs : List Cl) (l : List Int) : List ByteArray := l.map (fun c => (cs.getD c.toNat zCl).f0)
/-- the names of the classes of the first trade, from heading i on, with a word -/
def namesFrom (cs : List Cl) (hs : List Hd) (s : ByteArray) : Nat → Nat → Option (List ByteArray)
  | 0, _ => none
  | k + 1, i => if sEq (hs.getD i zHd).f0 s = true ∧ (hs.getD i zHd).f1 ≠ -1 then some (classNames cs (pathT cs (hs.getD i zHd).f1)) else namesFrom cs hs s k (i + 1)
def namesT (cs : List Cl) (hs : List Hd) (s : ByteArray) : Option (List ByteArray) := namesFrom cs hs s hs.length 0
theorem infoStr : (Try.prog.info? 9).map (fun i => (i.zero, i.size, i.bytes)) = some (some (.string ⟨#[]⟩), 1, 16) := by kernel_rfl
theorem strR_of_own {w : World} {base n : Nat} {v : Value} {xs : List ByteArray} (h : w.ownsRow base 9 1 v n (xs.map Value.string)) : Kd.string.R 9 w base (fun _ => True) v xs := by
  have hn : n = xs.length := by have := h.1; simp at this; omega
  subst hn
  exact ⟨fun _ _ => trivial, _, h, Kd.reps_scalar xs⟩
theorem pathT_in (cs : List Cl) (c : Int) (j : Nat) (hj : j < (pathT cs c).length) : ∃ p : Nat, (pathT cs c).getD j 0 = p ∧ p < cs.length := by
  have hm : (pathT cs c)[j] ∈ pathT cs c := List.getElem_mem _
  have hm2 := (List.mem_filter.1 hm).1
  obtain ⟨p, hp, he⟩ := List.mem_map.1 hm2
  exact ⟨p, by rw [List.getD_eq_getElem?_getD, List.getElem?_eq_getElem hj]; exact he.symm, List.mem_range.1 hp⟩
theorem pathT_len (cs : List Cl) (c : Int) : (pathT cs c).length ≤ cs.length := by
  have := List.length_filter_le (fun o => isUp cs c o) (nats cs.length)
  rwa [nats_length] at this

set_option maxHeartbeats 4000000 in
set_option maxRecDepth 100000 in
theorem names_any (g : Nat) (cs : List Cl) (hs : List Hd) (s : ByteArray) (w : World) (hL : IsList w g cs hs) (hv : Valid cs hs) :
    Calls Try.prog 58 #[.pointer (some ⟨g, 0, none⟩), .string s] w fun e w' => ∃ v, e = .returned (.tuple #[v, .bool (namesT cs hs s).isSome]) ∧ Kd.string.R 9 w' w.heap.size (fun _ => True) v ((namesT cs hs s).getD []) ∧ Below w.heap.size w w' := by
  obtain ⟨m0, m1, -, -⟩ := hv.split
  have hu2 := Try.underlying26
  have hu3 := Try.underlying81
  have hu4 := Try.underlying39
  have hu5 := Try.underlying51
  obtain ⟨i0, hi, hz0, hz1, hz2⟩ := info_parts infoStr
  obtain ⟨A0, c0, A1, c1, A2, c2, A3, c3, hg, l0, l1, r0, r1, r2, r3⟩ := hL.ok
  obtain ⟨g0, g1, g2, g3⟩ := cells4 hg
  have HP := fun (n : Nat) (hn : n < cs.length) W (hW : Below w.heap.size w W) => path_any g cs hs n W (hL.below hW) hv hn
  have HR : Hid (namesT cs hs s = namesFrom cs hs s hs.length 0) := rfl
  obtain ⟨R, hR⟩ : ∃ R, namesT cs hs s = R := ⟨_, rfl⟩
  rw [hR] at HR ⊢
  clear hL hR
  go_enter Try.func58, Try.ntmps58
  go_wp2
  go_loopg [17] hs.length (fun gk v wr => ∃ k : Nat, k + gk = hs.length ∧ v = .int .i64 k ∧ Below w.heap.size w wr ∧ Hid (namesFrom cs hs s gk k = R))
  case atStart => exact ⟨0, by omega, rfl, Below.refl _ _, by show _ = _; exact HR.out.symm⟩
  case round =>
    obtain ⟨k, hk, rfl, hb, HK⟩ := hrel
    by_cases hlt : k < hs.length
    · obtain ⟨gk, rfl⟩ : ∃ m, gk = m + 1 := ⟨gk - 1, by omega⟩
      have hgd := (hv.head k hlt).cl
      have HK2 : Hid (R = if sEq (hs.getD k zHd).f0 s = true ∧ (hs.getD k zHd).f1 ≠ -1 then some (classNames cs (pathT cs (hs.getD k zHd).f1)) else namesFrom cs hs s gk (k + 1)) := by show _ = _; rw [← HK.out]; rfl
      clear HK
      obtain ⟨ad, A3', c3', e, h0, h1, h2, h3, h4, h5⟩ := hdAt r1 k hlt
      cases e
      obtain ⟨x, hx⟩ : ∃ x, hs.getD k zHd = x := ⟨_, rfl⟩
      rw [hx] at h0 h1 h2 h3 h4 h5 HK2 hgd
      clear hx
      replace h0 := pw_cell_below hb h0
      replace h1 := pw_cell_below hb h1
      replace h2 := pw_cell_below hb h2
      replace h3 := pw_cell_below hb h3
      have hbd := fun o => hb.alloc hb.size o
      by_cases he : sEq x.f0 s = true
      · have he1 : (x.f0.toList == s.toList) = true := by rw [toList_data, toList_data]; exact he
        by_cases hc : x.f1 = -1
        · have hc1 : (x.f1 == -1) = true := beq_iff_eq.mpr hc
          have HK3 : Hid (namesFrom cs hs s gk (k + 1) = R) := by show _ = _; rw [HK2.out, if_neg (fun h => h.2 hc)]
          clear HK2 he hc
          go_wp2
          go_roundg gk
          case measure => omega
          case rel => exact ⟨k + 1, by omega, by go_num, hbd _, HK3⟩
        · have hc1 : (x.f1 == -1) = false := beq_eq_false_iff_ne.mpr hc
          have HK3 : Hid (R = some (classNames cs (pathT cs x.f1))) := by show _ = _; rw [HK2.out, if_pos ⟨he, hc⟩]
          obtain ⟨p, hp⟩ : ∃ p : Nat, x.f1 = p := ⟨x.f1.toNat, by omega⟩
          have HPp := HP p (by omega)
          have hin := fun j hj => pathT_in cs p j hj
          have hpl := pathT_len cs p
          rw [hp] at HK3 h1 hc1
          obtain ⟨T, hT⟩ : ∃ T, pathT cs p = T := ⟨_, rfl⟩
          rw [hT] at HK3 hin hpl
          simp only [hT] at HPp
          clear HK2 he hc hT hp
          go_wp2_with (go_at_call 61; (with_reducible refine (HPp _ (hbd _)).mono ?_); rintro e w3 ⟨v, rfl, hR3, hb3⟩; obtain ⟨Ar, cr, rfl, -, hC3⟩ := Kd.R_reads hR3; have HB3 := below_then (hbd _) (hbd _).size hb3; clear hR3 hb3)
          have hTl : T.length ≤ 6 := by omega
          go_loopg [8, 35] T.length (fun gj v8 v wr => ∃ j : Nat, j + gj = T.length ∧ v = .int .i64 j ∧ Below w3.heap.size w3 wr ∧ wr.ownsRow w3.heap.size 9 1 v8 (classNames cs (T.take j)).length ((classNames cs (T.take j)).map Value.string))
          case atStart => exact ⟨0, by omega, rfl, Below.refl _ _, own_nil _ _ _ _⟩
          case round =>
            obtain ⟨j, hj, rfl, hbw, ho⟩ := hrel
            by_cases hjl : j < T.length
            · obtain ⟨q, hq, hql⟩ := hin j hjl
              obtain ⟨aj, ej, hcj⟩ := intAt (Kd.C_below hC3 hbw) j hjl
              cases ej
              rw [hq] at hcj
              have HBw := below_then HB3 HB3.size hbw
              have q0 := pw_cell_below HBw g0
              obtain ⟨ac, ec, k0, k1⟩ := clAt (Kd.C_below r0 HBw) q hql
              cases ec
              have HNx : Hid (classNames cs (T.take (j + 1)) = classNames cs (T.take j) ++ [(cs.getD q zCl).f0]) := by
                show _ = _
                have : T[j] = (q : Int) := by rw [← hq, List.getD_eq_getElem?_getD, List.getElem?_eq_getElem hjl]; rfl
                rw [List.take_succ_eq_append_getElem hjl, this]
                simp [classNames]
              have hcl : (classNames cs (T.take j)).length = j := by simp [classNames]; omega
              obtain ⟨F, hF⟩ : ∃ F, classNames cs (T.take j) = F := ⟨_, rfl⟩
              obtain ⟨y, hy⟩ : ∃ y, cs.getD q zCl = y := ⟨_, rfl⟩
              rw [hF] at ho HNx hcl
              rw [hy] at k0 k1 HNx
              clear hF hy hq
              go_wp2_with (at_builtin; refine wpList_append_own _ rfl _ _ 65 rfl w3.heap.size 9 i0 (.string ⟨#[]⟩) 1 16 Try.underlying65 hi hz0 hz1 hz2 rfl (by decide) _ _ _ rfl (ho.alloc _) ⟨wr.heap.size, 0, none⟩ 1 1 [.string y.f0] rfl rfl (cell_one_new _ _ _) (by simp [Value.oneCell']) (by unfold maxLen; omega) (by omega) (by have := hbw.size; simp; omega) ?_; intro v' w4 hown4 hgrow4 _; have HB4 := Below.grown (hbw.alloc hbw.size _) hgrow4 (by have := hbw.size; simp; omega) (fun j hj => (ho.lt j hj).1); have HO := Lib.hid hown4; clear hown4 hgrow4)
              go_roundg (T.length - (j + 1))
              case measure => omega
              case rel => exact ⟨j + 1, by omega, by go_num, HB4, by rw [HNx.out, List.map_append, List.length_append]; exact HO.out⟩
            · obtain rfl : j = T.length := by omega
              rw [List.take_length] at ho
              have HR3 := strR_of_own ho
              go_wp2
              go_ret2
              exact ⟨_, by rw [HK3.out]; rfl, by rw [HK3.out]; exact Kd.R_lower HR3 HB3.size, below_then HB3 HB3.size hbw⟩
      · have he1 : (x.f0.toList == s.toList) = false := by rw [toList_data, toList_data]; simpa [sEq] using he
        have HK3 : Hid (namesFrom cs hs s gk (k + 1) = R) := by show _ = _; rw [HK2.out, if_neg (fun h => he h.1)]
        clear HK2 he
        go_wp2
        go_roundg gk
        case measure => omega
        case rel => exact ⟨k + 1, by omega, by go_num, hbd _, HK3⟩
    · obtain rfl : k = hs.length := by omega
      obtain rfl : gk = 0 := by omega
      have HR2 : Hid (R = none) := by show _ = _; rw [← HK.out]; rfl
      go_wp2
      go_ret2
      exact ⟨_, by rw [HR2.out]; rfl, by rw [HR2.out]; exact Kd.R_nil _ _ _ _ _, hb⟩
end Go.Proofs.Ytfbimhnlcmdcpaa.Pa
/- The contract of slices.Clone at headings: the words of its result. -/
namespace Go.Proofs.Ytfbimhnlcmdcpaa.Pa
open Go.RowKit Go.Proofs.YtfbimhnlcmdcpaaW.PrintWords Go.Proofs.YtfbimhnlcmdcpaaW.PrintLast Go.Proofs.YtfbimhnlcmdcpaaW.PrintMore
set_option linter.unusedVariables false
set_option linter.unusedSimpArgs false

/-- the cells of a heading with a word -/
def hwK (x : ByteArray) (cs : List Value) : Prop := ∃ i j A n c, cs = [.string x, .int .i64 i, .int .i64 j, .slice A n c]
def kHw : Kd ByteArray where
  sz := 4
  E := []
  K := fun _ x cs => hwK x cs
  M := fun _ _ _ x cs => hwK x cs
  K_len := by rintro _ _ _ ⟨i, j, A, n, c, rfl⟩; rfl
  K_one := by
    rintro _ _ _ ⟨i, j, A, n, c, rfl⟩ u hu
    simp only [List.mem_cons, List.not_mem_nil, or_false] at hu
    rcases hu with rfl | rfl | rfl | rfl <;> rfl
  K_below := fun _ h => h
  K_of_M := fun h => h
  M_mono := fun _ h => h
  M_bound := fun h => h
  M_move := fun _ h => h
  M_lower := fun _ h => h
theorem hw_of_heads {w : World} {A : Option Addr} {n : Nat} {hs : List Hd} (h : Kd.C k39 w A n hs) : kHw.C w A n (hs.map (fun x => x.f0)) := by
  refine ⟨by rw [List.length_map]; exact h.1, h.2.1, fun hn => ?_⟩
  obtain ⟨ad, e, hc⟩ := h.2.2 hn
  refine ⟨ad, e, fun j p hp => ?_⟩
  rw [List.getElem?_map] at hp
  obtain ⟨x, hx, rfl⟩ := Option.map_eq_some_iff.1 hp
  obtain ⟨c, hl, hK, hcc⟩ := hc j x hx
  obtain ⟨A3, c3, rfl, -, -⟩ := k39_open hK
  exact ⟨_, rfl, ⟨_, _, _, _, _, rfl⟩, hcc⟩
theorem hwAt {w : World} {A : Option Addr} {n : Nat} {xs : List ByteArray} (h : kHw.C w A n xs) (k : Nat) (hk : k < n) :
    ∃ ad i j A3 n3 c3, A = some ad ∧ w.cell? (ad.add (k * 4)) = some (.string (xs.getD k ByteArray.empty)) ∧ w.cell? ⟨(ad.add (k * 4)).block, (ad.add (k * 4)).off + 1, none⟩ = some (.int .i64 i) ∧ w.cell? ⟨(ad.add (k * 4)).block, (ad.add (k * 4)).off + 2, none⟩ = some (.int .i64 j) ∧ w.cell? ⟨(ad.add (k * 4)).block, (ad.add (k * 4)).off + 3, none⟩ = some (.slice A3 n3 c3) := by
  obtain ⟨ad, c, e, _, hK, hc0⟩ := Kd.C_get h ByteArray.empty (k : Int) (by omega) (by omega)
  rw [Int.toNat_natCast] at hK hc0
  have hc : ∀ j u, c[j]? = some u → w.cell? (ad.add (k * 4 + j)) = some u := hc0
  obtain ⟨i, j, A3, n3, c3, rfl⟩ := hK
  exact ⟨ad, i, j, A3, n3, c3, e, hc 0 _ rfl, by rw [← add_field _ _ 1 (by omega)]; exact hc 1 _ rfl, by rw [← add_field _ _ 2 (by omega)]; exact hc 2 _ rfl, by rw [← add_field _ _ 3 (by omega)]; exact hc 3 _ rfl⟩
theorem infoHd : (Try.prog.info? 39).map (fun i => (i.zero, i.size, i.bytes)) = some (some (.agg #[.string ⟨#[]⟩, .int .i64 0, .int .i64 0, .slice none 0 0]), 4, 56) := by kernel_rfl

set_option maxHeartbeats 1000000 in
set_option maxRecDepth 100000 in
theorem clone_any (A : Option Addr) (c : Nat) (xs : List ByteArray) (w : World) (hC : kHw.C w A xs.length xs) (hl : xs.length ≤ 100) :
    Calls Try.prog 54 #[.slice A xs.length c] w fun e w' => ∃ v, e = .returned v ∧ kHw.R 39 w' w.heap.size (fun _ => True) v xs ∧ Below w.heap.size w w' := by
  cases A with
  | none =>
    have hq := fun W => Lib.run_eql_slice_nil (P := Try.prog) W 24 _ none 0 c 0 0 Try.underlying24
    have hx : xs = [] := by
      rcases Nat.eq_zero_or_pos xs.length with h | h
      · exact List.eq_nil_of_length_eq_zero h
      · obtain ⟨ad, e, _⟩ := hC.2.2 h
        cases e
    subst hx
    clear hC
    go_enter Try.func54, Try.ntmps54
    go_wp2
    go_ret
    exact ⟨_, rfl, Kd.R_nil _ _ _ _ _, Below.refl _ _⟩
  | some ad =>
    have hq := fun W => Lib.run_eql_slice_nil (P := Try.prog) W 24 _ (some ad) xs.length c 0 0 Try.underlying24
    have hB := (Below.refl w.heap.size w).alloc (Nat.le_refl _) (.cells #[] 39)
    have hC1 := Kd.C_below hC hB
    have hR0 : kHw.R 39 (w.alloc (.cells #[] 39)) w.heap.size (fun _ => True) (.slice (some ⟨w.heap.size, 0, none⟩) 0 0) [] :=
      ⟨fun _ _ => trivial, [], ⟨rfl, .inr ⟨w.heap.size, 0, #[], rfl, Nat.le_refl _, heap_alloc_new w _, Nat.le_refl _, by simp [maxLen], rfl, rfl⟩⟩, Reps.none _ _⟩
    clear hC
    go_enter Try.func54, Try.ntmps54
    go_wp2_with (at_builtin; go_loud (refine Kd.R_append_rows kHw (w0 := w) w.heap.size rfl _ _ 24 39 _ 56 rfl Try.underlying24 infoHd rfl (by decide) (by decide) _ [] xs (some ad) xs.length c (fun _ => True) (fun k => some k ≠ some w.heap.size) rfl rfl hR0 hC1 (fun _ _ h => h) (fun k hk => ⟨trivial, hk⟩) (fun _ _ => trivial) hB (by simp) (by simp; omega) ?_; intro v1 w1 hv1 hb1 _ _; have HV := Lib.hid hv1; clear hv1))
    go_ret
    exact ⟨_, rfl, HV.out, hb1⟩
end Go.Proofs.Ytfbimhnlcmdcpaa.Pa
/- The order of strings; the contract of strings.Compare. -/
namespace Go.Proofs.Ytfbimhnlcmdcpaa.Pa
open Go.RowKit Go.Lib Go.Proofs.YtfbimhnlcmdcpaaW.PrintWords Go.Proofs.YtfbimhnlcmdcpaaW.PrintLast Go.Proofs.YtfbimhnlcmdcpaaW.PrintMore
set_option linter.unusedVariables false
set_option linter.unusedSimpArgs false

theorem u8_cases (a b : UInt8) : a < b ∨ a = b ∨ b < a := by
  rcases Nat.lt_trichotomy a.toNat b.toNat with h | h | h
  · exact .inl (UInt8.lt_iff_toNat_lt.mpr h)
  · exact .inr (.inl (UInt8.toNat_inj.mp h))
  · exact .inr (.inr (UInt8.lt_iff_toNat_lt.mpr h))
theorem u8_asymm {a b : UInt8} (h : a < b) : ¬ b < a := by
  have := UInt8.lt_iff_toNat_lt.mp h
  intro h2
  have := UInt8.lt_iff_toNat_lt.mp h2
  omega
theorem u8_irrefl (a : UInt8) : ¬ a < a := fun h => u8_asymm h h
theorem u8_trans {a b c : UInt8} (h : a < b) (h2 : b < c) : a < c := by
  have := UInt8.lt_iff_toNat_lt.mp h
  have := UInt8.lt_iff_toNat_lt.mp h2
  exact UInt8.lt_iff_toNat_lt.mpr (by omega)
/-- the order of strings, as a relation -/
theorem cmp_neg : ∀ (a b : List UInt8), (compareBytes a b < 0) ↔ Op.bytesLess a b = true
  | [], [] => by simp [compareBytes, Op.bytesLess]
  | [], b :: ys => by simp [compareBytes, Op.bytesLess]
  | a :: xs, [] => by simp [compareBytes, Op.bytesLess]
  | a :: xs, b :: ys => by
    have ih := cmp_neg xs ys
    unfold compareBytes Op.bytesLess
    rcases u8_cases a b with h | h | h
    · simp [h]
    · subst h
      simp [u8_irrefl, ih]
    · have h2 := u8_asymm h
      have h3 : ¬ a = b := fun e => u8_irrefl b (e ▸ h)
      simp [h, h2, h3]
theorem bl_irrefl : ∀ a : List UInt8, Op.bytesLess a a = false
  | [] => rfl
  | a :: xs => by simp [Op.bytesLess, u8_irrefl, bl_irrefl xs]
theorem bl_cons (a b : UInt8) (x y : List UInt8) : Op.bytesLess (a :: x) (b :: y) = true ↔ a < b ∨ (a = b ∧ Op.bytesLess x y = true) := by simp [Op.bytesLess]
theorem bl_trans : ∀ a b c : List UInt8, Op.bytesLess a b = true → Op.bytesLess b c = true → Op.bytesLess a c = true
  | _, b, [], _, h2 => by cases b <;> simp [Op.bytesLess] at h2
  | [], b, c :: zs, _, _ => rfl
  | a :: xs, [], c :: zs, h1, _ => by simp [Op.bytesLess] at h1
  | a :: xs, b :: ys, c :: zs, h1, h2 => by
    rw [bl_cons] at h1 h2 ⊢
    rcases h1 with h1 | ⟨rfl, h1⟩
    · rcases h2 with h2 | ⟨rfl, h2⟩
      · exact .inl (u8_trans h1 h2)
      · exact .inl h1
    · rcases h2 with h2 | ⟨rfl, h2⟩
      · exact .inl h2
      · exact .inr ⟨rfl, bl_trans xs ys zs h1 h2⟩
theorem bl_total : ∀ a b : List UInt8, Op.bytesLess a b = false → Op.bytesLess b a = false → a = b
  | [], [], _, _ => rfl
  | [], b :: ys, h, _ => by simp [Op.bytesLess] at h
  | a :: xs, [], _, h => by simp [Op.bytesLess] at h
  | a :: xs, b :: ys, h1, h2 => by
    have k1 : ¬ (a < b ∨ (a = b ∧ Op.bytesLess xs ys = true)) := fun h => by rw [← bl_cons] at h; rw [h] at h1; cases h1
    have k2 : ¬ (b < a ∨ (b = a ∧ Op.bytesLess ys xs = true)) := fun h => by rw [← bl_cons] at h; rw [h] at h2; cases h2
    rcases u8_cases a b with h | h | h
    · exact absurd (.inl h) k1
    · subst h
      rw [bl_total xs ys (by simpa using fun h => k1 (.inr ⟨rfl, h⟩)) (by simpa using fun h => k2 (.inr ⟨rfl, h⟩))]
    · exact absurd (.inl h) k2
def cfS (x y : ByteArray) : Int := compareBytes x.data.toList y.data.toList
theorem sLt_total {x y : ByteArray} (h1 : sLt x y = false) (h2 : sLt y x = false) : x = y := by
  have := bl_total _ _ h1 h2
  exact ByteArray.ext (Array.toList_inj.mp this)
def sortW (l : List ByteArray) : List ByteArray := l.mergeSort (fun x y => !sLt y x)

set_option maxHeartbeats 1000000 in
set_option maxRecDepth 100000 in
theorem bytealg_any (a b : ByteArray) (w : World) :
    Calls Try.prog 78 #[.string a, .string b] w fun e w' => e = .returned (.int .i64 (compareBytes a.data.toList b.data.toList)) ∧ w' = w := by
  go_enter Try.func78, Try.ntmps78
  go_wp2
  rw [run_callFunc_extern Try.func103 (by kernel_rfl) (by kernel_rfl) (by kernel_rfl) (e := Extern.BytealgCompare.compare) (by kernel_rfl), Lib.run_compareString]
  simp only [Result.andThen]
  rw [Oper.upon_value]
  go_wp2
  go_ret
  exact ⟨rfl, rfl⟩
theorem compare_any (a b : ByteArray) (w : World) : Calls Try.prog 56 #[.string a, .string b] w fun e w' => e = .returned (.int .i64 (cfS a b)) ∧ ∃ q, w' = w.drewN q := by
  go_enter Try.func56, Try.ntmps56
  go_wp2_with (go_at_call 78; refine (bytealg_any _ _ _).mono ?_; rintro e w' ⟨rfl, rfl⟩)
  go_ret
  exact ⟨rfl, 0, rfl⟩
end Go.Proofs.Ytfbimhnlcmdcpaa.Pa
/-
  DERIVED: THE SHELF's CONTRACTS AT THIS DUMP, IN PLAIN WORDS (tools/lay-plain.mjs out of 'YtfbimhnlcmdcpaaHShelf.lean', which tools/lay-shelf.mjs wrote): THE SAME DECLARATIONS UNDER THE SAME NAMES: 'import', 'namespace', 'open', 'def', 'theorem' AND NOTHING ELSE: no command of the shelf's: FOR A HAND-IN. Each laying: the table of numbers ('.._ren') and one theorem, a field a fact of the dump's own or the kernel's comparison; each contract: ONE APPLICATION.
-/
namespace Go.Proofs
open Go.Shelf
def Try.sortStr_ren : Go.Shelf.Ren := ⟨fun | 6 => 55 | 15 => 77 | 14 => 76 | 28 => 101 | 29 => 102 | 20 => 93 | 21 => 94 | 22 => 95 | 23 => 96 | 24 => 97 | 25 => 98 | 26 => 99 | 27 => 100 | 46 => 113 | 47 => 114 | 48 => 115 | 49 => 116 | 50 => 117 | 57 => 122 | n => n, fun | 22 => 65 | 24 => 9 | 25 => 94 | 3 => 3 | 39 => 110 | 0 => 0 | 53 => 154 | 55 => 70 | 4 => 4 | 46 => 147 | 45 => 146 | 50 => 151 | 5 => 5 | 9 => 9 | 66 => 167 | 70 => 170 | 76 => 178 | 77 => 179 | n => n, fun | n => n⟩
theorem Try.sortStr : Go.Proofs.SlLaysF.n6 Try.prog Try.sortStr_ren := {
  mixed := by kernel_rfl
  f6 := ⟨Try.f55.name, by decide, Try.func55.trans (congrArg some (by kernel_rfl))⟩
  f14 := ⟨Try.f76.name, by decide, Try.func76.trans (congrArg some (by kernel_rfl))⟩
  f15 := Try.func77.trans (congrArg some (by kernel_rfl))
  f20 := ⟨Try.f93.name, by decide, Try.func93.trans (congrArg some (by kernel_rfl))⟩
  f21 := ⟨Try.f94.name, by decide, Try.func94.trans (congrArg some (by kernel_rfl))⟩
  f22 := ⟨Try.f95.name, by decide, Try.func95.trans (congrArg some (by kernel_rfl))⟩
  f23 := ⟨Try.f96.name, by decide, Try.func96.trans (congrArg some (by kernel_rfl))⟩
  f24 := ⟨Try.f97.name, by decide, Try.func97.trans (congrArg some (by kernel_rfl))⟩
  f25 := ⟨Try.f98.name, by decide, Try.func98.trans (congrArg some (by kernel_rfl))⟩
  f26 := ⟨Try.f99.name, by decide, Try.func99.trans (congrArg some (by kernel_rfl))⟩
  f27 := ⟨Try.f100.name, by decide, Try.func100.trans (congrArg some (by kernel_rfl))⟩
  f28 := Try.func101.trans (congrArg some (by kernel_rfl))
  f29 := Try.func102.trans (congrArg some (by kernel_rfl))
  f46 := ⟨Try.f113.name, by decide, Try.func113.trans (congrArg some (by kernel_rfl))⟩
  f47 := Try.func114.trans (congrArg some (by kernel_rfl))
  f48 := Try.func115.trans (congrArg some (by kernel_rfl))
  f49 := ⟨Try.f116.name, by decide, Try.func116.trans (congrArg some (by kernel_rfl))⟩
  f50 := ⟨Try.f117.name, by decide, Try.func117.trans (congrArg some (by kernel_rfl))⟩
  f57 := ⟨Try.f122.name, by decide, Try.func122.trans (congrArg some (by kernel_rfl))⟩
  t0 := Try.underlying0
  a0 := Try.isAgg0
  z0 := Try.sizeOf0
  v0 := Try.zeroValue0
  t3 := Try.underlying3
  a3 := Try.isAgg3
  z3 := Try.sizeOf3
  v3 := Try.zeroValue3
  t4 := Try.underlying4
  a4 := Try.isAgg4
  z4 := Try.sizeOf4
  v4 := Try.zeroValue4
  t5 := Try.underlying5
  a5 := Try.isAgg5
  z5 := Try.sizeOf5
  v5 := Try.zeroValue5
  t9 := Try.underlying9
  a9 := Try.isAgg9
  z9 := Try.sizeOf9
  v9 := Try.zeroValue9
  t22 := Try.underlying65
  a22 := Try.isAgg65
  z22 := Try.sizeOf65
  v22 := Try.zeroValue65
  a24 := Try.isAgg9
  z24 := Try.sizeOf9
  t25 := Try.underlying94
  a25 := Try.isAgg94
  z25 := Try.sizeOf94
  v25 := Try.zeroValue94
  t39 := Try.underlying110
  a39 := Try.isAgg110
  z39 := Try.sizeOf110
  v39 := Try.zeroValue110
  t45 := Try.underlying146
  a45 := Try.isAgg146
  z45 := Try.sizeOf146
  v45 := Try.zeroValue146
  t46 := Try.underlying147
  a46 := Try.isAgg147
  z46 := Try.sizeOf147
  v46 := Try.zeroValue147
  t50 := Try.underlying151
  a50 := Try.isAgg151
  z50 := Try.sizeOf151
  v50 := Try.zeroValue151
  t53 := Try.underlying154
  a53 := Try.isAgg154
  z53 := Try.sizeOf154
  v53 := Try.zeroValue154
  t55 := Try.underlying70
  a55 := Try.isAgg70
  z55 := Try.sizeOf70
  v55 := Try.zeroValue70
  t66 := Try.underlying167
  a66 := Try.isAgg167
  z66 := Try.sizeOf167
  v66 := Try.zeroValue167
  t70 := Try.underlying170
  a70 := Try.isAgg170
  z70 := Try.sizeOf170
  v70 := Try.zeroValue170
  t76 := Try.underlying178
  a76 := Try.isAgg178
  z76 := Try.sizeOf178
  v76 := Try.zeroValue178
  t77 := Try.underlying179
  a77 := Try.isAgg179
  z77 := Try.sizeOf179
  v77 := Try.zeroValue179 }
def Try.compStr_ren : Go.Shelf.Ren := ⟨fun | 43 => 57 | n => n, fun | 22 => 65 | 23 => 9 | 3 => 3 | 4 => 4 | 0 => 0 | n => n, fun | n => n⟩
theorem Try.compStr : Go.Proofs.SlLaysE.n43 Try.prog Try.compStr_ren := {
  mixed := by kernel_rfl
  f43 := ⟨Try.f57.name, by decide, Try.func57.trans (congrArg some (by kernel_rfl))⟩
  t0 := Try.underlying0
  a0 := Try.isAgg0
  z0 := Try.sizeOf0
  v0 := Try.zeroValue0
  t3 := Try.underlying3
  a3 := Try.isAgg3
  z3 := Try.sizeOf3
  v3 := Try.zeroValue3
  t4 := Try.underlying4
  a4 := Try.isAgg4
  z4 := Try.sizeOf4
  v4 := Try.zeroValue4
  t22 := Try.underlying65
  a22 := Try.isAgg65
  z22 := Try.sizeOf65
  v22 := Try.zeroValue65
  a23 := Try.isAgg9
  z23 := Try.sizeOf9 }
end Go.Proofs
/- The contracts of slices.SortFunc and slices.Compact at strings. -/
namespace Go.Proofs.Ytfbimhnlcmdcpaa.Pa
open Go.Shelf Go.RowKit Go.Lib Go.Sort Go.Proofs.YtfbimhnlcmdcpaaW.PrintWords Go.Proofs.YtfbimhnlcmdcpaaW.PrintLast Go.Proofs.YtfbimhnlcmdcpaaW.PrintMore
set_option linter.unusedVariables false
set_option linter.unusedSimpArgs false

theorem ltS (x y : ByteArray) : ltOf cfS x y = sLt x y := by
  unfold ltOf cfS sLt
  rw [Bool.eq_iff_iff, decide_eq_true_iff]
  exact cmp_neg _ _
theorem swoS : SWO (ltOf cfS) where
  irrefl x := by rw [ltS]; exact bl_irrefl _
  trans x y z h1 h2 := by rw [ltS] at *; exact bl_trans _ _ _ h1 h2
  ntrans x y z h1 h2 := by
    rw [ltS] at *
    cases h : sLt x z with
    | false => rfl
    | true =>
      exfalso
      cases h3 : sLt y x with
      | false =>
        have := sLt_total h1 h3
        subst this
        rw [h] at h2
        cases h2
      | true =>
        have := bl_trans _ _ _ h3 h
        rw [show sLt y z = true from this] at h2
        cases h2
theorem cmpReadsS (blk off size : Nat) (w : World) : CmpReads Try.prog 56 #[] Value.string cfS blk off size w := fun _ _ _ _ x y => compare_any x y _

/-- a row of strings that may be written -/
def StrRow (w : World) (v : Value) (xs : List ByteArray) : Prop :=
  (v = .slice none 0 0 ∧ xs = []) ∨ ∃ g cap, v = .slice (some ⟨g, 0, none⟩) xs.length cap ∧ xs.length ≤ cap ∧ g < w.heap.size ∧ Holds Value.string w g 0 xs.toArray
theorem StrRow.of_own {w : World} {base n : Nat} {v : Value} {xs : List ByteArray} (h : w.ownsRow base 9 1 v n (xs.map Value.string)) : StrRow w v xs := by
  by_cases hv : v = .slice none 0 0
  · subst hv
    rcases h.2 with ⟨_, hn⟩ | ⟨g, cap, cur, e, _⟩
    · subst hn
      exact .inl ⟨rfl, by have := h.1; simpa using this⟩
    · cases e
  · obtain ⟨g, cap, rfl, hb, hg, hn, _, hl, hH⟩ := holds_of_ownsRow h hv
    subst hl
    exact .inr ⟨g, cap, rfl, hn, hg, hH⟩
theorem grownBy_putRow (w : World) (g off n : Nat) (d : Array ByteArray) (os : Array Obj) : w.grownBy (sortWorld Value.string w g off n d os) (some g) := by
  refine ⟨rfl, rfl, rfl, ?_, fun k hk hne => ?_⟩
  · show w.heap.size ≤ ((w.heap.modify g _) ++ os).size
    simp
  · have hkg : g ≠ k := fun e => hne (by rw [e])
    show ((w.heap.modify g _) ++ os)[k]? = _
    rw [Array.getElem?_append_left (by simpa using hk), Array.getElem?_modify, if_neg hkg]
theorem sort_any (v : Value) (xs : List ByteArray) (w : World) (h : StrRow w v xs) (hl : xs.length ≤ 100) :
    Calls Try.prog 55 #[v, .func (.func 56) #[] #[]] w fun e w' => e = .returned (.tuple #[]) ∧ w.grownBy w' v.ownBlock ∧ StrRow w' v (sortW xs) := by
  rcases h with ⟨rfl, rfl⟩ | ⟨g, cap, rfl, hc, hg, hH⟩
  · have hS := AnyF.slices_SortFunc_none (P := Try.prog) (ρ := Try.sortStr_ren) { Try.sortStr with } none 0 (.func (.func 56) #[] #[]) w
    change Calls Try.prog 55 _ _ _ at hS
    refine hS.mono ?_
    rintro e w' ⟨rfl, rfl⟩
    exact ⟨rfl, World.grownBy.refl _ _, .inl ⟨rfl, by simp [sortW]⟩⟩
  · have eg : ∀ args w, (callFunc 56 args).run Try.prog w = .ok (.enter 56 args) w := enters_of Try.func56 (by kernel_rfl) rfl
    have hS := Any.slices_SortFunc_total Try.sortStr Value.string (fun _ => rfl) cfS swoS 56 #[] g 0 cap xs.toArray w eg (cmpReadsS g 0 xs.toArray.size w).lays hH hg (by simp; omega) (fun x y h1 h2 => by rw [ltS] at h1 h2; exact sLt_total h1 h2)
    have hge : (fun x y : ByteArray => !ltOf cfS y x) = fun x y => !sLt y x := by funext x y; rw [ltS]
    rw [hge] at hS
    change Calls Try.prog 55 _ _ _ at hS
    have hsz : xs.toArray.size = xs.length := by simp
    rw [hsz] at hS
    refine hS.mono ?_
    rintro e w' ⟨rfl, n, os, rfl⟩
    have hlen : (sortW xs).length = xs.length := by unfold sortW; simp
    refine ⟨rfl, grownBy_putRow w g 0 n _ os, .inr ⟨g, cap, by rw [hlen], by rw [hlen]; exact hc, lt_sortWorld Value.string w g 0 n _ os hg, ?_⟩⟩
    have := holds_sortWorld Value.string w g 0 n xs.toArray (sortW xs).toArray os hg hH (by simp [hlen])
    simpa [sortW] using this
theorem eq_dec : (fun x y : ByteArray => x.toList == y.toList) = fun x y => decide (x = y) := by
  funext x y
  rw [toList_data, toList_data, Bool.eq_iff_iff, beq_iff_eq, decide_eq_true_iff]
  exact ⟨fun h => ByteArray.ext (Array.toList_inj.mp h), fun h => by rw [h]⟩
theorem grownBy_putRow0 (w : World) (g q : Nat) (d : Array ByteArray) : w.grownBy (putRow Value.string (Sort.ahead w q) g 0 d) (some g) := by
  have h := grownBy_putRow w g 0 q d #[]
  unfold sortWorld at h
  rw [grow_empty] at h
  exact h
theorem strs_of_holds {w : World} {g n : Nat} {d : Array ByteArray} (h : Holds Value.string w g 0 d) (xs : List ByteArray) (hx : xs.length = n) (hn : n ≤ 100) (hp : ∀ j, j < n → j < d.size ∧ d[j]! = xs.getD j ByteArray.empty) : Kd.string.C w (some ⟨g, 0, none⟩) n xs := by
  refine ⟨hx, by omega, fun _ => ⟨_, rfl, fun j p hj => ?_⟩⟩
  have hjl := (List.getElem?_eq_some_iff.1 hj).1
  obtain ⟨h1, h2⟩ := hp j (by omega)
  refine ⟨[.string p], rfl, rfl, fun i u hu => ?_⟩
  have hi : i = 0 := by
    have := (List.getElem?_eq_some_iff.1 hu).1
    simp at this
    exact this
  subst hi
  obtain rfl : Value.string p = u := by simpa using hu
  have hc := (h j h1).1
  rw [h2, List.getD_eq_getElem?_getD, hj] at hc
  have ha : ((⟨g, 0, none⟩ : Addr).add (j * 1 + 0)) = ⟨g, 0 + j, none⟩ := by
    rw [add_plain]; simp
  show w.cell? ((⟨g, 0, none⟩ : Addr).add (j * 1 + 0)) = _
  rw [ha]
  exact hc
theorem compact_any (v : Value) (xs : List ByteArray) (w : World) (h : StrRow w v xs) (hl : xs.length ≤ 100) :
    Calls Try.prog 57 #[v] w fun e w' => ∃ A c, e = .returned (.slice A (compact xs).length c) ∧ w.grownBy w' v.ownBlock ∧ Kd.string.C w' A (compact xs).length (compact xs) := by
  rcases h with ⟨rfl, rfl⟩ | ⟨g, cap, rfl, hc, hg, hH⟩
  · go_enter Try.func57, Try.ntmps57
    go_wp2
    go_ret
    exact ⟨none, 0, rfl, World.grownBy.refl _ _, rfl, by decide, fun h => absurd h (by decide)⟩
  · have he : EqlAt Try.prog 9 Value.string (fun x y => decide (x = y)) := by
      have := EqlAt.string Try.prog 9
      rwa [eq_dec] at this
    have hn : NeqAt Try.prog 9 Value.string (fun x y => decide (x = y)) := by
      have := NeqAt.string Try.prog 9
      rwa [eq_dec] at this
    have hC := AnyE.slices_Compact Try.compStr Value.string (fun _ => rfl) he hn ByteArray.empty (fun _ => by kernel_rfl) g 0 cap xs.toArray w hH (by simp; omega) (by simpa using hc)
    change Calls Try.prog 57 _ _ _ at hC
    have hsz : xs.toArray.size = xs.length := by simp
    rw [hsz] at hC
    refine hC.mono ?_
    rintro e w' ⟨rfl, q, rfl⟩
    have hcl : compactUpTo xs.toArray xs.length = compact xs := rfl
    rw [hcl]
    have hle : (compact xs).length ≤ xs.length := by
      unfold compact compactUpTo
      rw [List.length_map]
      have := List.length_filter_le (keeps xs.toArray) (List.range xs.length)
      rwa [List.length_range] at this
    refine ⟨_, _, rfl, grownBy_putRow0 w g q _, ?_⟩
    have hH2 := holds_putRow Value.string (Sort.ahead w q) g 0 xs.toArray (compact xs ++ List.replicate (xs.length - (compact xs).length) ByteArray.empty).toArray hH (by simp; omega)
    refine strs_of_holds hH2 (compact xs) rfl (by omega) (fun j hj => ⟨by simp; omega, ?_⟩)
    rw [getElem!_pos _ j (by simp; omega)]
    simp [List.getElem_append_left hj, List.getD_eq_getElem?_getD, List.getElem?_eq_getElem hj]
end Go.Proofs.Ytfbimhnlcmdcpaa.Pa
/- The contract of Compare. -/
namespace Go.Proofs.Ytfbimhnlcmdcpaa.Pa
open Go.RowKit Go.Proofs.YtfbimhnlcmdcpaaW.PrintWords Go.Proofs.YtfbimhnlcmdcpaaW.PrintLast Go.Proofs.YtfbimhnlcmdcpaaW.PrintMore
set_option linter.unusedVariables false
set_option linter.unusedSimpArgs false

abbrev Mv := S47
/-- what became of a word: p: its names before, q: after -/
def moveOf (s : ByteArray) (p q : Option (List ByteArray)) : List Mv :=
  if p.isSome && !q.isSome then [⟨s, 1⟩] else if q.isSome && !p.isSome then [⟨s, 2⟩] else if decide (p.getD [] = q.getD []) = false then [⟨s, 3⟩] else []
def wordsT (hs1 hs2 : List Hd) : List ByteArray := Lib.compact (sortW (hs1.map (fun x => x.f0) ++ hs2.map (fun x => x.f0)))
def movesT (cs1 : List Cl) (hs1 : List Hd) (cs2 : List Cl) (hs2 : List Hd) : List Mv :=
  (wordsT hs1 hs2).flatMap (fun s => moveOf s (namesT cs1 hs1 s) (namesT cs2 hs2 s))
def trade_Compare.f (cs1 : List Cl) (hs1 : List Hd) (cs2 : List Cl) (hs2 : List Hd) : Option (List Mv × Int) :=
  some (if checkT cs1 hs1 ≠ 0 then ([], checkT cs1 hs1) else if checkT cs2 hs2 ≠ 0 then ([], checkT cs2 hs2) else (movesT cs1 hs1 cs2 hs2, 0))

theorem equalL (xs ys : List ByteArray) (hl : xs.length = ys.length) (hb : xs.length ≤ 100) : ∀ (k i : Nat), i ≤ xs.length → xs.length < k + i →
    slices_Equal_string_string.l0 k xs ys (xs.length : Int) i = some (decide (xs.drop i = ys.drop i))
  | 0, i, h1, h2 => by omega
  | k + 1, i, h1, h2 => by
    show (if (i : Int) < (xs.length : Int) then _ else _) = _
    by_cases hi : i < xs.length
    · have hw : wrap64 ((i : Int) + 1) = ((i + 1 : Nat) : Int) := by unfold wrap64; omega
      rw [if_pos (by omega), if_pos (by omega), if_pos (by omega), if_pos (by omega), hw, equalL xs ys hl hb k (i + 1) (by omega) (by omega)]
      have e1 : rdOf ByteArray.empty xs (i : Int) = xs[i] := by simp [rdOf, List.getD_eq_getElem?_getD, List.getElem?_eq_getElem hi]
      have e2 : rdOf ByteArray.empty ys (i : Int) = ys[i] := by simp [rdOf, List.getD_eq_getElem?_getD, List.getElem?_eq_getElem (show i < ys.length by omega)]
      rw [e1, e2, List.drop_eq_getElem_cons hi, List.drop_eq_getElem_cons (show i < ys.length by omega)]
      by_cases he : xs[i] = ys[i]
      · rw [if_pos (by rw [he]), he]
        simp only [List.cons.injEq, true_and]
      · rw [if_neg (fun h => he (by
          rw [toList_data, toList_data] at h
          exact ByteArray.ext (Array.toList_inj.mp h))), decide_eq_false (fun h => he (List.cons.inj h).1)]
    · rw [if_neg (by omega), List.drop_eq_nil_of_le (by omega), List.drop_eq_nil_of_le (by omega)]
      rfl
theorem equal_strs (xs ys : List ByteArray) (hb : xs.length ≤ 100) : slices_Equal_string_string.f 101 xs ys = some (decide (xs = ys)) := by
  unfold slices_Equal_string_string.f
  by_cases hl : xs.length = ys.length
  · rw [if_pos (by omega)]
    exact equalL xs ys hl hb 101 0 (by omega) (by omega)
  · rw [if_neg (by omega), decide_eq_false (fun h => hl (by rw [h]))]

def mvCells (l : List Mv) : List Value := l.flatMap (fun x => [.string x.f0, .int .i64 x.f1])
theorem mvCells_append (a b : List Mv) : mvCells (a ++ b) = mvCells a ++ mvCells b := by simp [mvCells]
theorem mv_reps (w : World) (base : Nat) (ok : Nat → Prop) (l : List Mv) : Reps (k47.M w base ok) 2 l (mvCells l) := by
  induction l with
  | nil => exact Reps.none _ _
  | cons r l ih => exact Kd.reps_append (Reps.snoc (Reps.none _ _) (k47_mkM w base ok r) rfl) ih
theorem infoMv : (Try.prog.info? 47).map (fun i => (i.zero, i.size, i.bytes)) = some (some (.agg #[.string ⟨#[]⟩, .int .i64 0]), 2, 24) := by kernel_rfl

theorem compact_len (xs : List ByteArray) : (Lib.compact xs).length ≤ xs.length := by
  unfold Lib.compact Lib.compactUpTo
  rw [List.length_map]
  have := List.length_filter_le (Lib.keeps xs.toArray) (List.range xs.length)
  rwa [List.length_range] at this
theorem moves_len (U : List ByteArray) (N0 N1 : ByteArray → Option (List ByteArray)) : (U.flatMap (fun s => moveOf s (N0 s) (N1 s))).length ≤ U.length := by
  induction U with
  | nil => simp
  | cons s l ih =>
    rw [List.flatMap_cons, List.length_append, List.length_cons]
    have : (moveOf s (N0 s) (N1 s)).length ≤ 1 := by
      unfold moveOf
      split
      · simp
      · split
        · simp
        · split <;> simp
    omega
theorem namesFrom_len (cs : List Cl) (hs : List Hd) (s : ByteArray) : ∀ k i, ((namesFrom cs hs s k i).getD []).length ≤ cs.length
  | 0, i => by simp [namesFrom]
  | k + 1, i => by
    show ((if _ then _ else _ : Option (List ByteArray)).getD []).length ≤ _
    split
    · show (classNames cs _).length ≤ _
      unfold classNames
      rw [List.length_map]
      exact pathT_len _ _
    · exact namesFrom_len cs hs s k (i + 1)
theorem below_as {q : Nat} {w w3 : World} (hq : q = w.heap.size) (h : Below w.drew.heap.size w.drew w3) : Below q w w3 := by
  subst hq
  exact ⟨h.os, h.tape, h.output, h.size, h.block⟩

set_option maxHeartbeats 8000000 in
set_option maxRecDepth 100000 in
theorem compare_good (A0_0 : Option Addr) (c0_0 : Nat) (l0_0 : List (S51)) (A0_1 : Option Addr) (c0_1 : Nat) (l0_1 : List (S39)) (A1_0 : Option Addr) (c1_0 : Nat) (l1_0 : List (S51)) (A1_1 : Option Addr) (c1_1 : Nat) (l1_1 : List (S39)) (w : World) (hr0_0 : Kd.C k51 w A0_0 l0_0.length l0_0) (hc0_0 : l0_0.length ≤ c0_0) (hr0_1 : Kd.C k39 w A0_1 l0_1.length l0_1) (hc0_1 : l0_1.length ≤ c0_1) (hr1_0 : Kd.C k51 w A1_0 l1_0.length l1_0) (hc1_0 : l1_0.length ≤ c1_0) (hr1_1 : Kd.C k39 w A1_1 l1_1.length l1_1) (hc1_1 : l1_1.length ≤ c1_1) (hv0 : Valid l0_0 l0_1) (hv1 : Valid l1_0 l1_1) :
    Calls Try.prog 21 #[.agg #[.slice A0_0 l0_0.length c0_0, .slice A0_1 l0_1.length c0_1], .agg #[.slice A1_0 l1_0.length c1_0, .slice A1_1 l1_1.length c1_1]] w fun e w' => ∃ v0_ : Value, e = .returned (.tuple #[v0_, .int .i64 0]) ∧ Kd.R k47 47 w' w.heap.size (fun _ => True) v0_ (movesT l0_0 l0_1 l1_0 l1_1) ∧ Below w.heap.size w w' := by
  have hu2 := Try.underlying26
  have hu4 := Try.underlying39
  obtain ⟨m0, m1, -, -⟩ := hv0.split
  obtain ⟨-, m3, -, -⟩ := hv1.split
  obtain ⟨i0, hi, hz0, hz1, hz2⟩ := info_parts infoStr
  obtain ⟨j0, hj, hy0, hy1, hy2⟩ := info_parts infoMv
  have hB0 := ((Below.refl w.heap.size w).alloc (Nat.le_refl _) (.cells #[.slice A0_0 l0_0.length c0_0, .slice A0_1 l0_1.length c0_1] 26)).alloc (by simp) (.cells #[.slice A1_0 l1_0.length c1_0, .slice A1_1 l1_1.length c1_1] 26)
  have hx0 := blk_alloc (heap_alloc_new w (.cells #[.slice A0_0 l0_0.length c0_0, .slice A0_1 l0_1.length c0_1] 26)) (.cells #[.slice A1_0 l1_0.length c1_0, .slice A1_1 l1_1.length c1_1] 26)
  have hx1 := heap_alloc_new (w.alloc (.cells #[.slice A0_0 l0_0.length c0_0, .slice A0_1 l0_1.length c0_1] 26)) (.cells #[.slice A1_0 l1_0.length c1_0, .slice A1_1 l1_1.length c1_1] 26)
  rw [World.size_alloc] at hx1
  have HG0 := fun W (hW : Below w.heap.size w W) => begin_good A0_0 A0_1 c0_0 c0_1 l0_0 l0_1 W (Kd.C_below hr0_0 hW) (Kd.C_below hr0_1 hW) hc0_0 hc0_1 hv0
  have HG1 := fun W (hW : Below w.heap.size w W) => begin_good A1_0 A1_1 c1_0 c1_1 l1_0 l1_1 W (Kd.C_below hr1_0 hW) (Kd.C_below hr1_1 hW) hc1_0 hc1_1 hv1
  have HN0 := fun s W g (hL : IsList W g l0_0 l0_1) => names_any g l0_0 l0_1 s W hL hv0
  have HN1 := fun s W g (hL : IsList W g l1_0 l1_1) => names_any g l1_0 l1_1 s W hL hv1
  have hw0 := hw_of_heads hr0_1
  have hw1 := hw_of_heads hr1_1
  have hln : (l0_1.map (fun x => x.f0)).length = l0_1.length := List.length_map _
  have hln1 : (l1_1.map (fun x => x.f0)).length = l1_1.length := List.length_map _
  have HR : Hid (movesT l0_0 l0_1 l1_0 l1_1 = (wordsT l0_1 l1_1).flatMap (fun s => moveOf s (namesT l0_0 l0_1 s) (namesT l1_0 l1_1 s))) := rfl
  have HW : Hid (wordsT l0_1 l1_1 = Lib.compact (sortW (l0_1.map (fun x => x.f0) ++ l1_1.map (fun x => x.f0)))) := rfl
  obtain ⟨R, hRe⟩ : ∃ R, movesT l0_0 l0_1 l1_0 l1_1 = R := ⟨_, rfl⟩
  obtain ⟨N0, hN0⟩ : ∃ N, namesT l0_0 l0_1 = N := ⟨_, rfl⟩
  obtain ⟨N1, hN1⟩ : ∃ N, namesT l1_0 l1_1 = N := ⟨_, rfl⟩
  obtain ⟨X0, hX0⟩ : ∃ X, l0_1.map (fun x => x.f0) = X := ⟨_, rfl⟩
  obtain ⟨X1, hX1⟩ : ∃ X, l1_1.map (fun x => x.f0) = X := ⟨_, rfl⟩
  obtain ⟨U, hU⟩ : ∃ U, wordsT l0_1 l1_1 = U := ⟨_, rfl⟩
  have hP100 : ∀ s P Pl, N0 s = P → P.getD [] = Pl → Pl.length ≤ 100 := fun s P Pl h1 h2 => by
    have h3 := namesFrom_len l0_0 l0_1 s l0_1.length 0
    have h4 : N0 s = namesFrom l0_0 l0_1 s l0_1.length 0 := by rw [← hN0]; rfl
    rw [← h4, h1, h2] at h3
    omega
  rw [hRe] at HR ⊢
  rw [hN0, hN1, hU] at HR
  simp only [hN0] at HN0
  simp only [hN1] at HN1
  rw [hX0] at hw0 hln
  rw [hX1] at hw1 hln1
  rw [hX0, hX1, hU] at HW
  clear hRe hN0 hN1 hX0 hX1 hU
  go_enter Try.func21, Try.ntmps21
  go_upto_region 1 with (fail)
  obtain ⟨W0, hW0⟩ : ∃ W0, W0 = (w.alloc (.cells #[.slice A0_0 l0_0.length c0_0, .slice A0_1 l0_1.length c0_1] 26)).alloc (.cells #[.slice A1_0 l1_0.length c1_0, .slice A1_1 l1_1.length c1_1] 26) := ⟨_, rfl⟩
  rw [← hW0] at hB0 hx0 hx1 ⊢
  clear hW0
  obtain ⟨a0, a1⟩ := cells2 hx0
  go_upto_region 4 with (go_at_call 42; (with_reducible refine (HG0 _ hB0).mono ?_); rintro e w1 ⟨g, rfl, hL1, hb1⟩)
  have hB1 := below_then hB0 hB0.size hb1
  replace hx0 := blk_below hx0 hb1
  replace hx1 := blk_below hx1 hb1
  obtain ⟨b0, b1⟩ := cells2 hx1
  clear hB0 hb1 a0 a1
  clear W0
  go_upto_region 8 with (go_at_call 42; (with_reducible refine (HG1 _ hB1).mono ?_); rintro e w2 ⟨g2, rfl, hL2, hb2⟩)
  have hB2 := below_then hB1 hB1.size hb2
  replace hL1 := hL1.below hb2
  replace hx0 := blk_below hx0 hb2
  replace hx1 := blk_below hx1 hb2
  clear hB1 hb2 b0 b1
  clear w1
  obtain ⟨a0, a1⟩ := cells2 hx0
  obtain ⟨b0, b1⟩ := cells2 hx1
  have HCl := fun W (hW : Below w.heap.size w W) => clone_any A0_1 c0_1 X0 W (Kd.C_below (by rw [hln]; exact hw0) hW) (by omega)
  simp only [hln] at HCl
  have hC1b := fun W (hW : Below w.heap.size w W) => Kd.C_below hw1 hW
  obtain ⟨q2, hq2⟩ : ∃ q, q = w2.heap.size := ⟨_, rfl⟩
  have hZl : (X0 ++ X1).length = l0_1.length + l1_1.length := by rw [List.length_append, hln, hln1]
  go_cut [40, 41, 42] (fun s40 s41 s42 wx => ∃ Av cv, s40 = .slice Av (l0_1.length + l1_1.length) cv ∧ s41 = .int .i64 ((l0_1.length + l1_1.length : Nat) : Int) ∧ s42 = .int .i64 0 ∧ Below q2 w2 wx ∧ kHw.C wx Av (l0_1.length + l1_1.length) (X0 ++ X1))
  case first =>
    go_region_law (first
      | (refine Kd.R_append_rows_step kHw (w0 := w2) q2 (by rfl) _ _ 24 39 _ 56 (by rfl) Try.underlying24 infoHd (by rfl) (by decide) (by decide) vc X0 X1 A1_1 l1_1.length c1_1 (fun _ => True) (fun k => some k ≠ vc.ownBlock) (by rfl) (by rfl) hRc hC1c (fun _ _ h => h) (fun k hk => ⟨trivial, hk⟩) (fun _ _ => trivial) hb3' hq3 (by omega) ?_; intro v1 w4 hv1 hb4 _ _; obtain ⟨Av, cv, rfl, -, hCv⟩ := Kd.R_reads hv1; clear hv1)
      | (go_simp; go_at_call 54; go_loud ((with_reducible refine (HCl _ hB2.drew).mono ?_); rintro e w3 ⟨vc, rfl, hRc, hb3⟩); have hb3' := below_as hq2 hb3; have hB3 := below_then hB2.drew hB2.drew.size hb3; have hC1c := hC1b _ hB3; have hq3 := hb3'.size; rw [← hq2] at hq3; have b1c := pw_cell_below hb3 b1; have b0c := pw_cell_below hb3 b0; have hRc := Kd.R_lower (base' := q2) hRc (by rw [hq2]; exact Nat.le_refl _)))
    all_goals
      go_wp2
      go_meet
      case rel => exact ⟨Av, _, rfl, rfl, rfl, hb4, by rw [← hZl]; exact hCv⟩
  case rest =>
    obtain ⟨Av, cv, rfl, rfl, rfl, hb4, hCv⟩ := hcut
    have hB4 := below_then hB2 hB2.size (by rw [← hq2]; exact hb4)
    replace hL1 := hL1.below (by rw [← hq2]; exact hb4)
    replace hL2 := hL2.below (by rw [← hq2]; exact hb4)
    obtain ⟨Z, hZ⟩ : ∃ Z, X0 ++ X1 = Z := ⟨_, rfl⟩
    rw [hZ] at hCv hZl HW
    clear hZ hb4 HCl hC1b HG0 HG1 hw0 hw1 hx0 hx1 a0 a1 b0 b1 hB2
    obtain ⟨w4, hw4⟩ : ∃ w4, w4 = wc := ⟨_, rfl⟩
    subst hw4
    obtain ⟨nz, hnz⟩ : ∃ nz, l0_1.length + l1_1.length = nz := ⟨_, rfl⟩
    have hnz12 : nz ≤ 12 := by omega
    rw [hnz] at hZl hCv
    simp only [hnz]
    go_wp2
    go_loopg [9, 42] nz (fun gk v9 v wr => ∃ k : Nat, k + gk = nz ∧ v = .int .i64 k ∧ Below w4.heap.size w4 wr ∧ wr.ownsRow w4.heap.size 9 1 v9 k ((Z.take k).map Value.string))
    case atStart => exact ⟨0, by omega, rfl, Below.refl _ _, own_nil _ _ _ _⟩
    case round =>
      obtain ⟨k, hk, rfl, hb, ho⟩ := hrel
      by_cases hlt : k < nz
      · obtain ⟨ad, fi, fj, fA, fn, fc, e, h0, h1, h2, h3⟩ := hwAt (Kd.C_below hCv hb) k hlt
        cases e
        have hT : Hid ((Z.take (k + 1)).map Value.string = (Z.take k).map Value.string ++ [.string (Z.getD k ByteArray.empty)]) := by
          show _ = _
          rw [List.take_succ_eq_append_getElem (by omega), List.map_append, List.getD_eq_getElem?_getD, List.getElem?_eq_getElem (by omega)]
          rfl
        obtain ⟨y, hy⟩ : ∃ y, Z.getD k ByteArray.empty = y := ⟨_, rfl⟩
        rw [hy] at h0 hT
        clear hy
        have hbd := fun o => hb.alloc hb.size o
        have ho2 := fun o => ho.alloc o
        go_upto_region 11 with (fail)
        replace hbd := hbd (.cells #[.string y, .int .i64 fi, .int .i64 fj, .slice fA fn fc] 39)
        replace ho2 := ho2 (.cells #[.string y, .int .i64 fi, .int .i64 fj, .slice fA fn fc] 39)
        have hxb := cells4 (heap_alloc_new wr (.cells #[.string y, .int .i64 fi, .int .i64 fj, .slice fA fn fc] 39))
        obtain ⟨W1, hW1⟩ : ∃ W1, W1 = wr.alloc (.cells #[.string y, .int .i64 fi, .int .i64 fj, .slice fA fn fc] 39) := ⟨_, rfl⟩
        rw [← hW1] at hbd ho2 hxb ⊢
        clear hW1 hb ho h0 h1 h2 h3
        obtain ⟨z0, -, -, -⟩ := hxb
        go_wp2_with (at_builtin; go_loud (refine wpList_append_own _ rfl _ _ 65 rfl w4.heap.size 9 i0 (.string ⟨#[]⟩) 1 16 Try.underlying65 hi hz0 hz1 hz2 rfl (by decide) _ _ _ rfl (ho2.alloc _) ⟨W1.heap.size, 0, none⟩ 1 1 [.string y] rfl rfl (cell_one_new _ _ _) (by simp [Value.oneCell']) (by unfold maxLen; omega) (by omega) (by have := hbd.size; simp; omega) ?_; intro v' w5 hown5 hgrow5 _; have HB5 := Below.grown (hbd.alloc hbd.size _) hgrow5 (by have := hbd.size; simp; omega) (fun j hj => (ho2.lt j hj).1); have HO := Lib.hid hown5; clear hown5 hgrow5))
        go_roundg (nz - (k + 1))
        case measure => omega
        case rel => exact ⟨k + 1, by omega, by go_num, HB5, by rw [hT.out]; exact HO.out⟩
      · obtain rfl : nz = k := by omega
        rw [← hZl, List.take_length, hZl] at ho
        have HU := HW.out
        have hsl : (sortW Z).length = nz := by unfold sortW; rw [List.length_mergeSort]; exact hZl
        have hul := compact_len (sortW Z)
        rw [← HU, hsl] at hul
        have HS := sort_any _ Z wr (StrRow.of_own ho) (by omega)
        have HC := fun W v (hW : StrRow W v (sortW Z)) => compact_any v (sortW Z) W hW (by rw [hsl]; omega)
        simp only [← HU] at HC
        clear HU
        have hob := fun j hj => own_base ho j hj
        clear HW
        go_upto_region 16 with (first
          | (go_at_call 55; go_loud ((with_reducible refine HS.mono ?_); rintro e w6 ⟨rfl, hg6, hS6⟩); have hb6 := hb.grown hg6 hb.size hob; clear HS)
          | (go_at_call 57; go_loud ((with_reducible refine (HC _ _ hS6).mono ?_); rintro e w7 ⟨Au, cu, rfl, hg7, hCu⟩); have hb7 := hb6.grown hg7 hb6.size hob; clear HC))
        have hBL := below_then hB4 hB4.size hb7
        have hLa7 := hL1.below hb7
        have hLb7 := hL2.below hb7
        clear hb hb6 hg6 hS6 hg7 ho hob hL1 hL2 hB4 hCv hsl
        go_loopg [12, 57] U.length (fun gk v12 v wr => ∃ k : Nat, k + gk = U.length ∧ v = .int .i64 k ∧ Below w7.heap.size w7 wr ∧ wr.ownsRow w7.heap.size 47 2 v12 ((U.take k).flatMap (fun s => moveOf s (N0 s) (N1 s))).length (mvCells ((U.take k).flatMap (fun s => moveOf s (N0 s) (N1 s)))))
        case atStart => exact ⟨0, by omega, rfl, Below.refl _ _, own_nil _ _ _ _⟩
        case round =>
          obtain ⟨k, hk, rfl, hbw, ho⟩ := hrel
          by_cases hlt : k < U.length
          · obtain ⟨au, eu, hcu⟩ := Kd.at_string (Kd.C_below hCu hbw) (k : Int) (by omega) (by omega)
            cases eu
            have hTk : Hid ((U.take (k + 1)).flatMap (fun s => moveOf s (N0 s) (N1 s)) = (U.take k).flatMap (fun s => moveOf s (N0 s) (N1 s)) ++ moveOf (U.getD k ByteArray.empty) (N0 (U.getD k ByteArray.empty)) (N1 (U.getD k ByteArray.empty))) := by
              show _ = _
              rw [List.take_succ_eq_append_getElem hlt, List.flatMap_append, List.getD_eq_getElem?_getD, List.getElem?_eq_getElem hlt]
              simp
            have hrd : rdOf ByteArray.empty U (k : Int) = U.getD k ByteArray.empty := rfl
            rw [hrd, Int.toNat_natCast] at hcu
            obtain ⟨s, hs⟩ : ∃ s, U.getD k ByteArray.empty = s := ⟨_, rfl⟩
            rw [hs] at hcu hTk
            have hLa := hLa7.below hbw
            have hLb := hLb7.below hbw
            have HNa := fun W hL => HN0 s W g hL
            have HNb := fun W hL => HN1 s W g2 hL
            have hml : ((U.take k).flatMap (fun s => moveOf s (N0 s) (N1 s))).length ≤ k := by
              have := moves_len (U.take k) N0 N1
              rw [List.length_take] at this
              omega
            obtain ⟨M, hM⟩ : ∃ M, (U.take k).flatMap (fun s => moveOf s (N0 s) (N1 s)) = M := ⟨_, rfl⟩
            rw [hM] at ho hTk hml
            obtain ⟨P, hP⟩ : ∃ P, N0 s = P := ⟨_, rfl⟩
            obtain ⟨Q, hQ⟩ : ∃ Q, N1 s = Q := ⟨_, rfl⟩
            rw [hP, hQ] at hTk
            simp only [hP] at HNa
            simp only [hQ] at HNb
            obtain ⟨Pl, hPl⟩ : ∃ Pl, P.getD [] = Pl := ⟨_, rfl⟩
            obtain ⟨Ql, hQl⟩ : ∃ Ql, Q.getD [] = Ql := ⟨_, rfl⟩
            obtain ⟨pb, hpb⟩ : ∃ pb, P.isSome = pb := ⟨_, rfl⟩
            obtain ⟨qb, hqb⟩ : ∃ qb, Q.isSome = qb := ⟨_, rfl⟩
            have hMo : Hid (moveOf s P Q = if pb && !qb then [⟨s, 1⟩] else if qb && !pb then [⟨s, 2⟩] else if decide (Pl = Ql) = false then [⟨s, 3⟩] else []) := by
              show _ = _
              unfold moveOf
              rw [hPl, hQl, hpb, hqb]
            have hPn : Pl.length ≤ 100 := hP100 s P Pl hP hPl
            simp only [hPl, hpb] at HNa
            simp only [hQl, hqb] at HNb
            have hlt1 : (k : Int) < U.length := by omega
            have hlt2 : decide ((k : Int) < U.length) = true := decide_eq_true hlt1
            clear hM hs hP hQ hPl hQl hpb hqb
            cases pb with
            | true =>
              cases qb with
              | true =>
                have HEq0 := equal_strs Pl Ql hPn
                cases hed : decide (Pl = Ql) with
                | true =>
                  have HEq := HEq0
                  rw [hed] at HEq
                  have HG : Hid ((U.take (k + 1)).flatMap (fun s => moveOf s (N0 s) (N1 s)) = M) := by show _ = _; rw [hTk.out, hMo.out, hed]; exact List.append_nil _
                  clear hTk hMo HEq0 hed
                  go_wp2_with (first
                    | (go_at_call 58; (with_reducible refine (HNa wr hLa).mono ?_); rintro e w8 ⟨vp, rfl, hRp, hb8⟩; obtain ⟨Ap, cp, rfl, hlp, hCp⟩ := Kd.R_reads hRp; have hbw8 := below_then hbw hbw.size hb8; have ho8 := own_move ho (fun k hk => hb8.block k (own_lt ho k hk)); have hLb8 := hLb.below hb8; clear hRp)
                    | (go_at_call 58; (with_reducible refine (HNb w8 hLb8).mono ?_); rintro e w9 ⟨vq, rfl, hRq, hb9⟩; obtain ⟨Aq, cq, rfl, hlq, hCq⟩ := Kd.R_reads hRq; have hbw9 := below_then hbw8 hbw8.size hb9; have ho9 := own_move ho8 (fun k hk => hb9.block k (own_lt ho8 k hk)); have hCp9 := Kd.C_below hCp hb9; clear hRq)
                    | (go_at_call 59; go_loud ((with_reducible refine (slices_Equal_string_string.calls 101 Ap cp Pl Aq cq Ql true _ hCp9 hlp hCq hlq HEq).mono ?_); rintro e w10 ⟨rfl, ⟨nd, rfl⟩⟩; have ho10 := (show (w9.drewN nd).ownsRow w7.heap.size 47 2 _ _ _ from ho9); have hbw10 := pw_below_drewN hbw9 nd)))
                  go_roundg (U.length - (k + 1))
                  case measure => omega
                  case rel => exact ⟨k + 1, by omega, by go_num, hbw10, by rw [HG.out]; exact ho10⟩
                | false =>
                  have HEq := HEq0
                  rw [hed] at HEq
                  have HG : Hid ((U.take (k + 1)).flatMap (fun s => moveOf s (N0 s) (N1 s)) = M ++ [⟨s, 3⟩]) := by show _ = _; rw [hTk.out, hMo.out, hed]; rfl
                  clear hTk hMo HEq0 hed
                  go_wp2_with (first
                    | (go_at_call 58; (with_reducible refine (HNa wr hLa).mono ?_); rintro e w8 ⟨vp, rfl, hRp, hb8⟩; obtain ⟨Ap, cp, rfl, hlp, hCp⟩ := Kd.R_reads hRp; have hbw8 := below_then hbw hbw.size hb8; have ho8 := own_move ho (fun k hk => hb8.block k (own_lt ho k hk)); have hLb8 := hLb.below hb8; clear hRp)
                    | (go_at_call 58; (with_reducible refine (HNb w8 hLb8).mono ?_); rintro e w9 ⟨vq, rfl, hRq, hb9⟩; obtain ⟨Aq, cq, rfl, hlq, hCq⟩ := Kd.R_reads hRq; have hbw9 := below_then hbw8 hbw8.size hb9; have ho9 := own_move ho8 (fun k hk => hb9.block k (own_lt ho8 k hk)); have hCp9 := Kd.C_below hCp hb9; clear hRq)
                    | (go_at_call 59; go_loud ((with_reducible refine (slices_Equal_string_string.calls 101 Ap cp Pl Aq cq Ql false _ hCp9 hlp hCq hlq HEq).mono ?_); rintro e w10 ⟨rfl, ⟨nd, rfl⟩⟩; have ho10 := (show (w9.drewN nd).ownsRow w7.heap.size 47 2 _ _ _ from ho9); have hbw10 := pw_below_drewN hbw9 nd))
                    | (at_builtin; go_loud (refine wpList_append_own _ rfl _ _ 43 rfl w7.heap.size 47 j0 (.agg #[.string ⟨#[]⟩, .int .i64 0]) 2 24 Try.underlying43 hj hy0 hy1 hy2 rfl (by decide) _ _ _ rfl (ho10.alloc _) ⟨w9.heap.size, 0, none⟩ 1 1 [.string s, .int .i64 3] rfl rfl (World.news_of_block (cs := #[.string s, .int .i64 3]) (t := 47) (fr := (0, 0)) (heap_alloc_new ((w9.drewN nd)) _)) (by simp [Value.oneCell']) (by unfold maxLen; omega) (by omega) (by have := (hbw10).size; simp at this ⊢; omega) ?_; intro v' wa hown hgrow _; have HBa := Below.grown ((hbw10).alloc (hbw10).size _) hgrow (by have := (hbw10).size; simp at this ⊢; omega) (fun j hj => (ho10.lt j hj).1); have HO := Lib.hid hown; clear hown hgrow)))
                  go_roundg (U.length - (k + 1))
                  case measure => omega
                  case rel => exact ⟨k + 1, by omega, by go_num, HBa, by rw [HG.out, mvCells_append, List.length_append]; exact HO.out⟩
              | false =>
                have HG : Hid ((U.take (k + 1)).flatMap (fun s => moveOf s (N0 s) (N1 s)) = M ++ [⟨s, 1⟩]) := by show _ = _; rw [hTk.out, hMo.out]; rfl
                clear hTk hMo
                go_wp2_with (first
                  | (go_at_call 58; (with_reducible refine (HNa wr hLa).mono ?_); rintro e w8 ⟨vp, rfl, hRp, hb8⟩; obtain ⟨Ap, cp, rfl, hlp, hCp⟩ := Kd.R_reads hRp; have hbw8 := below_then hbw hbw.size hb8; have ho8 := own_move ho (fun k hk => hb8.block k (own_lt ho k hk)); have hLb8 := hLb.below hb8; clear hRp)
                  | (go_at_call 58; (with_reducible refine (HNb w8 hLb8).mono ?_); rintro e w9 ⟨vq, rfl, hRq, hb9⟩; obtain ⟨Aq, cq, rfl, hlq, hCq⟩ := Kd.R_reads hRq; have hbw9 := below_then hbw8 hbw8.size hb9; have ho9 := own_move ho8 (fun k hk => hb9.block k (own_lt ho8 k hk)); have hCp9 := Kd.C_below hCp hb9; clear hRq)
                  | (at_builtin; go_loud (refine wpList_append_own _ rfl _ _ 43 rfl w7.heap.size 47 j0 (.agg #[.string ⟨#[]⟩, .int .i64 0]) 2 24 Try.underlying43 hj hy0 hy1 hy2 rfl (by decide) _ _ _ rfl (ho9.alloc _) ⟨w9.heap.size, 0, none⟩ 1 1 [.string s, .int .i64 1] rfl rfl (World.news_of_block (cs := #[.string s, .int .i64 1]) (t := 47) (fr := (0, 0)) (heap_alloc_new (w9) _)) (by simp [Value.oneCell']) (by unfold maxLen; omega) (by omega) (by have := (hbw9).size; simp at this ⊢; omega) ?_; intro v' wa hown hgrow _; have HBa := Below.grown ((hbw9).alloc (hbw9).size _) hgrow (by have := (hbw9).size; simp at this ⊢; omega) (fun j hj => (ho9.lt j hj).1); have HO := Lib.hid hown; clear hown hgrow)))
                go_roundg (U.length - (k + 1))
                case measure => omega
                case rel => exact ⟨k + 1, by omega, by go_num, HBa, by rw [HG.out, mvCells_append, List.length_append]; exact HO.out⟩
            | false =>
              cases qb with
              | true =>
                have HG : Hid ((U.take (k + 1)).flatMap (fun s => moveOf s (N0 s) (N1 s)) = M ++ [⟨s, 2⟩]) := by show _ = _; rw [hTk.out, hMo.out]; rfl
                clear hTk hMo
                go_wp2_with (first
                  | (go_at_call 58; (with_reducible refine (HNa wr hLa).mono ?_); rintro e w8 ⟨vp, rfl, hRp, hb8⟩; obtain ⟨Ap, cp, rfl, hlp, hCp⟩ := Kd.R_reads hRp; have hbw8 := below_then hbw hbw.size hb8; have ho8 := own_move ho (fun k hk => hb8.block k (own_lt ho k hk)); have hLb8 := hLb.below hb8; clear hRp)
                  | (go_at_call 58; (with_reducible refine (HNb w8 hLb8).mono ?_); rintro e w9 ⟨vq, rfl, hRq, hb9⟩; obtain ⟨Aq, cq, rfl, hlq, hCq⟩ := Kd.R_reads hRq; have hbw9 := below_then hbw8 hbw8.size hb9; have ho9 := own_move ho8 (fun k hk => hb9.block k (own_lt ho8 k hk)); have hCp9 := Kd.C_below hCp hb9; clear hRq)
                  | (at_builtin; go_loud (refine wpList_append_own _ rfl _ _ 43 rfl w7.heap.size 47 j0 (.agg #[.string ⟨#[]⟩, .int .i64 0]) 2 24 Try.underlying43 hj hy0 hy1 hy2 rfl (by decide) _ _ _ rfl (ho9.alloc _) ⟨w9.heap.size, 0, none⟩ 1 1 [.string s, .int .i64 2] rfl rfl (World.news_of_block (cs := #[.string s, .int .i64 2]) (t := 47) (fr := (0, 0)) (heap_alloc_new (w9) _)) (by simp [Value.oneCell']) (by unfold maxLen; omega) (by omega) (by have := (hbw9).size; simp at this ⊢; omega) ?_; intro v' wa hown hgrow _; have HBa := Below.grown ((hbw9).alloc (hbw9).size _) hgrow (by have := (hbw9).size; simp at this ⊢; omega) (fun j hj => (ho9.lt j hj).1); have HO := Lib.hid hown; clear hown hgrow)))
                go_roundg (U.length - (k + 1))
                case measure => omega
                case rel => exact ⟨k + 1, by omega, by go_num, HBa, by rw [HG.out, mvCells_append, List.length_append]; exact HO.out⟩
              | false =>
                have HEq0 := equal_strs Pl Ql hPn
                cases hed : decide (Pl = Ql) with
                | true =>
                  have HEq := HEq0
                  rw [hed] at HEq
                  have HG : Hid ((U.take (k + 1)).flatMap (fun s => moveOf s (N0 s) (N1 s)) = M) := by show _ = _; rw [hTk.out, hMo.out, hed]; exact List.append_nil _
                  clear hTk hMo HEq0 hed
                  go_wp2_with (first
                    | (go_at_call 58; (with_reducible refine (HNa wr hLa).mono ?_); rintro e w8 ⟨vp, rfl, hRp, hb8⟩; obtain ⟨Ap, cp, rfl, hlp, hCp⟩ := Kd.R_reads hRp; have hbw8 := below_then hbw hbw.size hb8; have ho8 := own_move ho (fun k hk => hb8.block k (own_lt ho k hk)); have hLb8 := hLb.below hb8; clear hRp)
                    | (go_at_call 58; (with_reducible refine (HNb w8 hLb8).mono ?_); rintro e w9 ⟨vq, rfl, hRq, hb9⟩; obtain ⟨Aq, cq, rfl, hlq, hCq⟩ := Kd.R_reads hRq; have hbw9 := below_then hbw8 hbw8.size hb9; have ho9 := own_move ho8 (fun k hk => hb9.block k (own_lt ho8 k hk)); have hCp9 := Kd.C_below hCp hb9; clear hRq)
                    | (go_at_call 59; go_loud ((with_reducible refine (slices_Equal_string_string.calls 101 Ap cp Pl Aq cq Ql true _ hCp9 hlp hCq hlq HEq).mono ?_); rintro e w10 ⟨rfl, ⟨nd, rfl⟩⟩; have ho10 := (show (w9.drewN nd).ownsRow w7.heap.size 47 2 _ _ _ from ho9); have hbw10 := pw_below_drewN hbw9 nd)))
                  go_roundg (U.length - (k + 1))
                  case measure => omega
                  case rel => exact ⟨k + 1, by omega, by go_num, hbw10, by rw [HG.out]; exact ho10⟩
                | false =>
                  have HEq := HEq0
                  rw [hed] at HEq
                  have HG : Hid ((U.take (k + 1)).flatMap (fun s => moveOf s (N0 s) (N1 s)) = M ++ [⟨s, 3⟩]) := by show _ = _; rw [hTk.out, hMo.out, hed]; rfl
                  clear hTk hMo HEq0 hed
                  go_wp2_with (first
                    | (go_at_call 58; (with_reducible refine (HNa wr hLa).mono ?_); rintro e w8 ⟨vp, rfl, hRp, hb8⟩; obtain ⟨Ap, cp, rfl, hlp, hCp⟩ := Kd.R_reads hRp; have hbw8 := below_then hbw hbw.size hb8; have ho8 := own_move ho (fun k hk => hb8.block k (own_lt ho k hk)); have hLb8 := hLb.below hb8; clear hRp)
                    | (go_at_call 58; (with_reducible refine (HNb w8 hLb8).mono ?_); rintro e w9 ⟨vq, rfl, hRq, hb9⟩; obtain ⟨Aq, cq, rfl, hlq, hCq⟩ := Kd.R_reads hRq; have hbw9 := below_then hbw8 hbw8.size hb9; have ho9 := own_move ho8 (fun k hk => hb9.block k (own_lt ho8 k hk)); have hCp9 := Kd.C_below hCp hb9; clear hRq)
                    | (go_at_call 59; go_loud ((with_reducible refine (slices_Equal_string_string.calls 101 Ap cp Pl Aq cq Ql false _ hCp9 hlp hCq hlq HEq).mono ?_); rintro e w10 ⟨rfl, ⟨nd, rfl⟩⟩; have ho10 := (show (w9.drewN nd).ownsRow w7.heap.size 47 2 _ _ _ from ho9); have hbw10 := pw_below_drewN hbw9 nd))
                    | (at_builtin; go_loud (refine wpList_append_own _ rfl _ _ 43 rfl w7.heap.size 47 j0 (.agg #[.string ⟨#[]⟩, .int .i64 0]) 2 24 Try.underlying43 hj hy0 hy1 hy2 rfl (by decide) _ _ _ rfl (ho10.alloc _) ⟨w9.heap.size, 0, none⟩ 1 1 [.string s, .int .i64 3] rfl rfl (World.news_of_block (cs := #[.string s, .int .i64 3]) (t := 47) (fr := (0, 0)) (heap_alloc_new ((w9.drewN nd)) _)) (by simp [Value.oneCell']) (by unfold maxLen; omega) (by omega) (by have := (hbw10).size; simp at this ⊢; omega) ?_; intro v' wa hown hgrow _; have HBa := Below.grown ((hbw10).alloc (hbw10).size _) hgrow (by have := (hbw10).size; simp at this ⊢; omega) (fun j hj => (ho10.lt j hj).1); have HO := Lib.hid hown; clear hown hgrow)))
                  go_roundg (U.length - (k + 1))
                  case measure => omega
                  case rel => exact ⟨k + 1, by omega, by go_num, HBa, by rw [HG.out, mvCells_append, List.length_append]; exact HO.out⟩
          · obtain rfl : k = U.length := by omega
            rw [List.take_length, ← HR.out] at ho
            have HRv : k47.R 47 wr w7.heap.size (fun _ => True) _ R := ⟨fun _ _ => trivial, _, ho, mv_reps _ _ _ _⟩
            go_wp2
            go_ret2
            exact ⟨_, rfl, Kd.R_lower HRv hBL.size, below_then hBL hBL.size hbw⟩

set_option maxHeartbeats 1000000 in
set_option maxRecDepth 100000 in
theorem trade_Compare.calls (A0_0 : Option Addr) (c0_0 : Nat) (l0_0 : List (S51)) (A0_1 : Option Addr) (c0_1 : Nat) (l0_1 : List (S39)) (A1_0 : Option Addr) (c1_0 : Nat) (l1_0 : List (S51)) (A1_1 : Option Addr) (c1_1 : Nat) (l1_1 : List (S39)) (r1 : List (S47)) (r2 : Int) (w : World) (hr0_0 : Kd.C k51 w A0_0 l0_0.length l0_0) (hc0_0 : l0_0.length ≤ c0_0) (hr0_1 : Kd.C k39 w A0_1 l0_1.length l0_1) (hc0_1 : l0_1.length ≤ c0_1) (hr1_0 : Kd.C k51 w A1_0 l1_0.length l1_0) (hc1_0 : l1_0.length ≤ c1_0) (hr1_1 : Kd.C k39 w A1_1 l1_1.length l1_1) (hc1_1 : l1_1.length ≤ c1_1) (h : trade_Compare.f l0_0 l0_1 l1_0 l1_1 = some (r1, r2)) :
    Calls Try.prog 21 #[.agg #[.slice A0_0 l0_0.length c0_0, .slice A0_1 l0_1.length c0_1], .agg #[.slice A1_0 l1_0.length c1_0, .slice A1_1 l1_1.length c1_1]] w fun e w' => ∃ v0_ : Value, e = .returned (.tuple #[v0_, .int .i64 r2]) ∧ Kd.R k47 47 w' w.heap.size (fun _ => True) v0_ r1 ∧ Below w.heap.size w w' := by
  have hu2 := Try.underlying26
  have h := Option.some.inj h
  have hB0 := ((Below.refl w.heap.size w).alloc (Nat.le_refl _) (.cells #[.slice A0_0 l0_0.length c0_0, .slice A0_1 l0_1.length c0_1] 26)).alloc (by simp) (.cells #[.slice A1_0 l1_0.length c1_0, .slice A1_1 l1_1.length c1_1] 26)
  by_cases hz : checkT l0_0 l0_1 = 0
  · have hv0 : Valid l0_0 l0_1 := ⟨hz⟩
    rw [if_neg (by omega)] at h
    by_cases hz1 : checkT l1_0 l1_1 = 0
    · rw [if_neg (by omega)] at h
      simp only [Prod.mk.injEq] at h
      obtain ⟨rfl, rfl⟩ := h
      exact compare_good A0_0 c0_0 l0_0 A0_1 c0_1 l0_1 A1_0 c1_0 l1_0 A1_1 c1_1 l1_1 w hr0_0 hc0_0 hr0_1 hc0_1 hr1_0 hc1_0 hr1_1 hc1_1 hv0 ⟨hz1⟩
    · rw [if_pos hz1] at h
      simp only [Prod.mk.injEq] at h
      obtain ⟨rfl, rfl⟩ := h
      have hx1 := heap_alloc_new (w.alloc (.cells #[.slice A0_0 l0_0.length c0_0, .slice A0_1 l0_1.length c0_1] 26)) (.cells #[.slice A1_0 l1_0.length c1_0, .slice A1_1 l1_1.length c1_1] 26)
      rw [World.size_alloc] at hx1
      have HG0 := fun W (hW : Below w.heap.size w W) => begin_good A0_0 A0_1 c0_0 c0_1 l0_0 l0_1 W (Kd.C_below hr0_0 hW) (Kd.C_below hr0_1 hW) hc0_0 hc0_1 hv0
      have HG1 := fun W (hW : Below w.heap.size w W) => begin_bad A1_0 A1_1 c1_0 c1_1 l1_0 l1_1 W (Kd.C_below hr1_0 hW) (Kd.C_below hr1_1 hW) hc1_0 hc1_1 hz1
      obtain ⟨z, hze⟩ : ∃ z, checkT l1_0 l1_1 = z := ⟨_, rfl⟩
      simp only [hze] at HG1 hz1 ⊢
      have hzb : (z != 0) = true := bne_iff_ne.mpr hz1
      clear hz hze hz1
      go_enter Try.func21, Try.ntmps21
      go_upto_region 4 with (go_at_call 42; (with_reducible refine (HG0 _ hB0).mono ?_); rintro e w1 ⟨g, rfl, hL1, hb1⟩)
      have hB1 := below_then hB0 hB0.size hb1
      replace hx1 := blk_below hx1 hb1
      obtain ⟨b0, b1⟩ := cells2 hx1
      clear HG0 hb1
      go_wp2_with (go_at_call 42; (with_reducible refine (HG1 _ hB1).mono ?_); rintro e w2 ⟨rfl, hb2⟩)
      go_ret2
      exact ⟨_, rfl, Kd.R_nil _ _ _ _ _, below_then hB1 hB1.size hb2⟩
  · rw [if_pos hz] at h
    simp only [Prod.mk.injEq] at h
    obtain ⟨rfl, rfl⟩ := h
    have hx0 := blk_alloc (heap_alloc_new w (.cells #[.slice A0_0 l0_0.length c0_0, .slice A0_1 l0_1.length c0_1] 26)) (.cells #[.slice A1_0 l1_0.length c1_0, .slice A1_1 l1_1.length c1_1] 26)
    have HG0 := fun W (hW : Below w.heap.size w W) => begin_bad A0_0 A0_1 c0_0 c0_1 l0_0 l0_1 W (Kd.C_below hr0_0 hW) (Kd.C_below hr0_1 hW) hc0_0 hc0_1 hz
    obtain ⟨z, hze⟩ : ∃ z, checkT l0_0 l0_1 = z := ⟨_, rfl⟩
    simp only [hze] at HG0 hz ⊢
    have hzb : (z != 0) = true := bne_iff_ne.mpr hz
    clear hz hze
    go_enter Try.func21, Try.ntmps21
    go_upto_region 1 with (fail)
    obtain ⟨W0, hW0⟩ : ∃ W0, W0 = (w.alloc (.cells #[.slice A0_0 l0_0.length c0_0, .slice A0_1 l0_1.length c0_1] 26)).alloc (.cells #[.slice A1_0 l1_0.length c1_0, .slice A1_1 l1_1.length c1_1] 26) := ⟨_, rfl⟩
    rw [← hW0] at hB0 hx0 ⊢
    clear hW0
    obtain ⟨a0, a1⟩ := cells2 hx0
    go_wp2_with (go_at_call 42; (with_reducible refine (HG0 _ hB0).mono ?_); rintro e w1 ⟨rfl, hb1⟩)
    go_ret2
    exact ⟨_, rfl, Kd.R_nil _ _ _ _ _, below_then hB0 hB0.size hb1⟩
end Go.Proofs.Ytfbimhnlcmdcpaa.Pa
