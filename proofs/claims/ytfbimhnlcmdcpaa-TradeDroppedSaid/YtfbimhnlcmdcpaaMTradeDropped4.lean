/- A part of the proof: After Drop the trades are valid and the heading is not there, each other trade remains, no reference is lost whose two headings remain, and a heading to which none refers goes alone: for all lists of numbers. Without conditions of its own. -/
import Derived.Test.YtfbimhnlcmdcpaaMTradeDropped3
import Derived.BigRegion
import Derived.Deep.RegionHeld3
import Derived.MapFrom
import Derived.RangeFuncNested
import Derived.RangeFuncBound
import Derived.RangeFuncCalls
import Derived.RangeFuncLeaves
import Derived.Shelf.Abstract
import Derived.WalkKit
import Derived.OwnWalkIn
import Derived.TacticsInMore
import Derived.LoopNIn
import Derived.LoopIn
import Derived.Laws.EntriesVeiled
import Derived.Scope
import Derived.Sort.LoopGhostIn
/- The contract of TradesOf: trades made of numbers. -/
namespace Go.Proofs.Ytfbimhnlcmdcpaa.Pa
open Go.RowKit Go.Proofs.YtfbimhnlcmdcpaaW.PrintWords Go.Proofs.YtfbimhnlcmdcpaaW.PrintLast Go.Proofs.YtfbimhnlcmdcpaaW.PrintMore
attribute [local go_sem] max2_int min2_int max_two min_two max_three min_three max_four min_four
set_option linter.unusedVariables false
set_option linter.unusedSimpArgs false

theorem infoI : (Try.prog.info? 3).map (fun i => (i.zero, i.size, i.bytes)) = some (some (.int .i64 0), 1, 8) := by kernel_rfl
/-- A row of numbers stored into a heading. -/
theorem also_put {W : World} {hb base : Nat} {ok : Nat → Prop} {x0 x1 x2 x3 v : Value} {l : List Int} (hk : W.heap[hb]? = some (.cells #[x0, x1, x2, x3] 39 (0, 0))) (hR : Kd.R (Kd.int .i64) 3 W base ok v l) :
    (W.setCell ⟨hb, 3, none⟩ v).heap[hb]? = some (.cells #[x0, x1, x2, v] 39 (0, 0)) ∧ Kd.R (Kd.int .i64) 3 (W.setCell ⟨hb, 3, none⟩ v) base ok v l :=
  ⟨blk_put hk 3 v rfl, Kd.R_mono (Kd.R_far (p := ⟨hb, 3, none⟩) (Kd.R_types hR hk (by decide)) (fun _ h => h.2) v) (fun _ h => h.1)⟩
/-- The state of TradesOf: dice at block g, the result's variable at r, the trades being made at b, numbers vw; all of it below block n. -/
structure TT (w0 w W : World) (g r b : Nat) (lst : List Int) (a s : Int) (vc vh vw : Value) (cs : List (S51)) (hs : List (S39)) (ws : List Int) (n : Nat) : Prop where
  mk ::
  gl : g < w.heap.size
  rl : w.heap.size ≤ r
  bw : w.heap.size ≤ b
  rn : r < n
  bn : b < n
  rb : r ≠ b
  nW : n ≤ W.heap.size
  wl : w0.heap.size ≤ w.heap.size
  box : W.heap[r]? = some (.cells #[.slice none 0 0, .slice none 0 0] 26 (0, 0))
  tt : W.heap[b]? = some (.cells #[vc, vh] 26 (0, 0))
  hc : Kd.R k51 51 W w.heap.size (fun k => k < n ∧ k ≠ g) vc cs
  hh : Kd.S k39 39 W w.heap.size (fun k => k < n ∧ k ≠ g) vh hs
  hw : Kd.R (Kd.int .i64) 3 W w.heap.size (fun k => k < n ∧ k ≠ g) vw ws
  di : IsS72 w0 W g lst a s
  bl : Below w0.heap.size w0 W
  kp : KeepBut w W g none
section
variable {w0 w W W1 : World} {g r b n : Nat} {lst : List Int} {a s a' s' : Int} {vc vh vw : Value} {cs : List (S51)} {hs : List (S39)} {ws : List Int}
theorem TT.step (h : TT w0 w W g r b lst a s vc vh vw cs hs ws n) (hm : ∀ k, k < n → k ≠ g → W1.heap[k]? = W.heap[k]?) (hz : W.heap.size ≤ W1.heap.size) (hdi : IsS72 w0 W1 g lst a' s') (hbl : Below w0.heap.size w0 W1) (hkp : KeepBut w W1 g none) : TT w0 w W1 g r b lst a' s' vc vh vw cs hs ws n :=
  ⟨h.gl, h.rl, h.bw, h.rn, h.bn, h.rb, Nat.le_trans h.nW hz, h.wl, (hm r h.rn (by have := h.gl; have := h.rl; omega)).trans h.box, (hm b h.bn (by have := h.gl; have := h.bw; omega)).trans h.tt,
    Kd.R_step h.hc (fun k hk _ => hm k hk.1 hk.2), Kd.S_step h.hh (fun k hk _ => hm k hk.1 hk.2), Kd.R_step h.hw (fun k hk _ => hm k hk.1 hk.2), hdi, hbl, hkp⟩
theorem TT.gn (h : TT w0 w W g r b lst a s vc vh vw cs hs ws n) : g < n := by have := h.gl; have := h.rl; have := h.rn; omega
theorem TT.wn (h : TT w0 w W g r b lst a s vc vh vw cs hs ws n) : w.heap.size ≤ n := by have := h.rl; have := h.rn; omega
theorem TT.below (h : TT w0 w W g r b lst a s vc vh vw cs hs ws n) (hb : Below n W W1) : TT w0 w W1 g r b lst a s vc vh vw cs hs ws n := by
  refine h.step (fun k hk _ => hb.block k hk) hb.size ?_ (below_weaken h.bl (Nat.le_trans h.wl h.wn) hb) ⟨Nat.le_trans h.kp.1 hb.size, fun i hi hg hr => (hb.block i (Nat.lt_of_lt_of_le hi h.wn)).trans (h.kp.2 i hi hg hr)⟩
  obtain ⟨A0, c0, h1, h2, h3⟩ := h.di
  exact ⟨A0, c0, (hb.block g h.gn).trans h1, h2, h3⟩
theorem TT.all (h : TT w0 w W g r b lst a s vc vh vw cs hs ws n) (hb : Below W.heap.size W W1) : TT w0 w W1 g r b lst a s vc vh vw cs hs ws n := h.below (hb.mono h.nW)
theorem TT.dice (h : TT w0 w W g r b lst a s vc vh vw cs hs ws n) (hdi : IsS72 w0 W1 g lst a' s') (hbl : Below w0.heap.size w0 W1) (hkp : KeepBut W W1 g none) : TT w0 w W1 g r b lst a' s' vc vh vw cs hs ws n :=
  h.step (fun k hk hg => hkp.2 k (Nat.lt_of_lt_of_le hk h.nW) hg (by simp)) hkp.1 hdi hbl (h.kp.trans hkp (.inl rfl))
theorem TT.renew {m : Nat} (h : TT w0 w W g r b lst a s vc vh vw cs hs ws n) (hm : n ≤ m) (hW : m ≤ W.heap.size) : TT w0 w W g r b lst a s vc vh vw cs hs ws m :=
  ⟨h.gl, h.rl, h.bw, Nat.lt_of_lt_of_le h.rn hm, Nat.lt_of_lt_of_le h.bn hm, h.rb, hW, h.wl, h.box, h.tt, Kd.R_mono h.hc (fun k hk => ⟨Nat.lt_of_lt_of_le hk.1 hm, hk.2⟩), Kd.S_mono h.hh (fun k hk => ⟨Nat.lt_of_lt_of_le hk.1 hm, hk.2⟩), Kd.R_mono h.hw (fun k hk => ⟨Nat.lt_of_lt_of_le hk.1 hm, hk.2⟩), h.di, h.bl, h.kp⟩
/-- Other numbers at hand. -/
theorem TT.row {v : Value} {xs : List Int} (h : TT w0 w W g r b lst a s vc vh vw cs hs ws n) (hR : Kd.R (Kd.int .i64) 3 W w.heap.size (fun _ => True) v xs) : TT w0 w W g r b lst a s vc vh v cs hs xs W.heap.size := by
  have h2 := h.renew h.nW (Nat.le_refl _)
  have h1 := IsS72.apart h.di (Kd.R_bound hR) (by decide)
  exact ⟨h2.gl, h2.rl, h2.bw, h2.rn, h2.bn, h2.rb, h2.nW, h2.wl, h2.box, h2.tt, h2.hc, h2.hh, Kd.R_mono h1 (fun k hk => ⟨hk.1.2.2.1, hk.2⟩), h2.di, h2.bl, h2.kp⟩
/-- What the loads of TradesOf's statements read. -/
theorem TT.loads {ad : Addr} {cw : Nat} (h : TT w0 w W g r b lst a s vc vh (.slice (some ad) ws.length cw) cs hs ws n) {i : Int} (h0 : 0 ≤ i) (h1 : i < ws.length) : W.cell? ⟨b, 0, none⟩ = some vc ∧ W.cell? (ad.add i.toNat) = some (.int .i64 (rd ws i)) := by
  refine ⟨(blk_cell h.tt 0).trans rfl, ?_⟩
  obtain ⟨ad', e, hx⟩ := Kd.at_int (Kd.R_reads' h.hw).2.2 i h0 h1
  cases e
  exact hx
theorem TT.strs {W2 : World} {ads : Addr} {n2 c2 : Nat} {so : List ByteArray} {base : Nat} {ok : Nat → Prop} (h : TT w0 w W g r b lst a s vc vh vw cs hs ws n) (hR : Kd.R Kd.string 9 W base ok (.slice (some ads) n2 c2) so) (hk : KeepBut W W2 g none) {i : Int} (h0 : 0 ≤ i) (h1 : i < so.length) : W2.cell? (ads.add i.toNat) = some (.string (rdOf ByteArray.empty so i)) := by
  have h2 := Kd.R_keep (IsS72.apart h.di hR (by decide)) hk (fun k hk => hk.2)
  obtain ⟨hn, _, hC⟩ := Kd.R_reads' h2
  obtain ⟨ad', e, hx⟩ := Kd.at_string hC i h0 h1
  cases e
  exact hx
/-- What is left when the result is stored. -/
theorem TT.final (h : TT w0 w W g r b lst a s vc vh vw cs hs ws n) :
    ((W.setCell ⟨r, 0, none⟩ vc).setCell ⟨r, 1, none⟩ vh).heap[r]? = some (.cells #[vc, vh] 26 (0, 0)) ∧ Kd.R k51 51 ((W.setCell ⟨r, 0, none⟩ vc).setCell ⟨r, 1, none⟩ vh) w.heap.size (fun _ => True) vc cs ∧ Kd.S k39 39 ((W.setCell ⟨r, 0, none⟩ vc).setCell ⟨r, 1, none⟩ vh) w.heap.size (fun _ => True) vh hs ∧ IsS72 w0 ((W.setCell ⟨r, 0, none⟩ vc).setCell ⟨r, 1, none⟩ vh) g lst a s ∧ Below w0.heap.size w0 ((W.setCell ⟨r, 0, none⟩ vc).setCell ⟨r, 1, none⟩ vh) ∧ KeepBut w ((W.setCell ⟨r, 0, none⟩ vc).setCell ⟨r, 1, none⟩ vh) g none := by
  have hgl := h.gl
  have hrl := h.rl
  have hb1 := blk_put h.box 0 vc (cs' := #[vc, .slice none 0 0]) rfl
  have h0 := Kd.R_far (p := ⟨r, 0, none⟩) (Kd.R_types h.hc h.box (by decide)) (fun k hk => hk.2) vc
  have h1 := Kd.S_far (p := ⟨r, 0, none⟩) (Kd.S_types h.hh h.box (by decide)) (fun k hk => hk.2) vc
  refine ⟨blk_put hb1 1 vh rfl, Kd.R_mono (Kd.R_far (p := ⟨r, 1, none⟩) h0 (fun k hk => hk.2) vh) (fun _ _ => trivial), Kd.S_mono (Kd.S_far (p := ⟨r, 1, none⟩) h1 (fun k hk => hk.2) vh) (fun _ _ => trivial), (h.di.far (by show g ≠ r; omega) _).far (by show g ≠ r; omega) _, below_set (below_set h.bl (Nat.le_trans h.wl hrl)) (Nat.le_trans h.wl hrl), keep_far (keep_far h.kp (by exact hrl) _) (by exact hrl) _⟩
/-- A heading laid and filled. -/
theorem TT.fill {hb : Nat} {x0 x1 x2 x3 : Value} (h : TT w0 w W g r b lst a s vc vh vw cs hs ws n) (hn : n ≤ hb) (hk : W.heap[hb]? = some (.cells #[x0, x1, x2, x3] 39 (0, 0))) (v0 v1 v2 v3 : Value) :
    ((((W.setCell ⟨hb, 0, none⟩ v0).setCell ⟨hb, 1, none⟩ v1).setCell ⟨hb, 2, none⟩ v2).setCell ⟨hb, 3, none⟩ v3).heap[hb]? = some (.cells #[v0, v1, v2, v3] 39 (0, 0)) ∧ TT w0 w ((((W.setCell ⟨hb, 0, none⟩ v0).setCell ⟨hb, 1, none⟩ v1).setCell ⟨hb, 2, none⟩ v2).setCell ⟨hb, 3, none⟩ v3) g r b lst a s vc vh vw cs hs ws n :=
  ⟨blk_put (blk_put (blk_put (blk_put hk 0 v0 (cs' := #[v0, x1, x2, x3]) rfl) 1 v1 (cs' := #[v0, v1, x2, x3]) rfl) 2 v2 (cs' := #[v0, v1, v2, x3]) rfl) 3 v3 rfl,
    h.below (((((Below.refl n W).setCell (p := ⟨hb, 0, none⟩) hn v0).setCell (p := ⟨hb, 1, none⟩) hn v1).setCell (p := ⟨hb, 2, none⟩) hn v2).setCell (p := ⟨hb, 3, none⟩) hn v3)⟩
theorem TT.laid (h : TT w0 w W g r b lst a s vc vh vw cs hs ws n) (cells : Array Value) (t : Nat) : TT w0 w (W.alloc (.cells cells t)) g r b lst a s vc vh vw cs hs ws n ∧ n ≤ W.heap.size ∧ W.heap.size ≠ g ∧ (W.alloc (.cells cells t)).heap[W.heap.size]? = some (.cells cells t (0, 0)) :=
  ⟨h.all ((Below.refl _ _).alloc (Nat.le_refl _) _), h.nW, by have := h.gn; have := h.nW; omega, heap_alloc_new W _⟩
theorem TT.put {hb : Nat} (h : TT w0 w W g r b lst a s vc vh vw cs hs ws n) (hn : n ≤ hb) (j : Nat) (v : Value) : TT w0 w (W.setCell ⟨hb, j, none⟩ v) g r b lst a s vc vh vw cs hs ws n := h.below ((Below.refl n W).setCell (p := ⟨hb, j, none⟩) hn v)
/-- A class more: the row grows (W1), then it is stored. -/
theorem TT.classes {vc' : Value} {cs' : List (S51)} (h : TT w0 w W g r b lst a s vc vh vw cs hs ws n) (hR : Kd.R k51 51 W1 w.heap.size (fun _ => True) vc' cs') (hb : Below w.heap.size W W1) (hg : W.grownBy W1 vc.ownBlock) :
    W1.cell? ⟨b, 0, none⟩ = some vc ∧ W1.frozen? ⟨b, 0, none⟩ = false ∧ TT w0 w (W1.setCell ⟨b, 0, none⟩ vc') g r b lst a s vc' vh vw cs' hs ws W1.heap.size := by
  have hne : ∀ k t cells, W.heap[k]? = some (.cells cells t (0, 0)) → t ≠ 51 → some k ≠ vc.ownBlock := fun k t cells hk ht => Kd.R_ne h.hc hk (Ne.symm ht)
  have htt : W1.heap[b]? = some (.cells #[vc, vh] 26 (0, 0)) := blk_grown h.tt hg (hne b _ _ h.tt (by decide))
  have hbox : W1.heap[r]? = some (.cells #[.slice none 0 0, .slice none 0 0] 26 (0, 0)) := blk_grown h.box hg (hne r _ _ h.box (by decide))
  have hdi : IsS72 w0 W1 g lst a s := IsS72.grown h.di hg (IsS72.own_ne h.di h.hc (by decide))
  have hh1 := Kd.S_over' h.hh (Kd.R_typed h.hc) (by decide) hg
  have hw1 := Kd.R_over' h.hw (Kd.R_typed h.hc) (by decide) hg
  have hbl : Below w0.heap.size w0 W1 := below_weaken h.bl h.wl hb
  have hkp : KeepBut w W1 g none := h.kp.trans (KeepBut.of_grown hg g) (Kd.R_base2 h.hc)
  have hgl := h.gl
  have hbw := h.bw
  have hz : W.heap.size ≤ W1.heap.size := hb.size
  have hS : (W1.setCell ⟨b, 0, none⟩ vc').heap.size = W1.heap.size := by simp [World.setCell]
  have hW := h.nW
  have hbn := h.bn
  have hrn := h.rn
  refine ⟨(blk_cell htt 0).trans rfl, blk_frozen htt 0, ⟨h.gl, h.rl, h.bw, by omega, by omega, h.rb, by rw [hS]; exact Nat.le_refl _, h.wl, ?_, blk_put htt 0 vc' rfl, ?_, ?_, ?_, ?_, ?_, ?_⟩⟩
  · exact blk_far hbox (by exact h.rb) _
  · have h1 := IsS72.apart hdi (Kd.R_bound hR) (by decide)
    have h2 := Kd.R_types h1 htt (by decide)
    exact Kd.R_mono (Kd.R_far (p := ⟨b, 0, none⟩) h2 (fun k hk => hk.2) vc') (fun k hk => ⟨hk.1.1.2.2.1, hk.1.2⟩)
  · have h2 := Kd.S_types hh1 htt (by decide)
    exact Kd.S_mono (Kd.S_far (p := ⟨b, 0, none⟩) h2 (fun k hk => hk.2) vc') (fun k hk => ⟨by have := hk.1.1; omega, hk.1.2⟩)
  · have h2 := Kd.R_types hw1 htt (by decide)
    exact Kd.R_mono (Kd.R_far (p := ⟨b, 0, none⟩) h2 (fun k hk => hk.2) vc') (fun k hk => ⟨by have := hk.1.1; omega, hk.1.2⟩)
  · exact hdi.far (by show g ≠ b; omega) _
  · exact below_set hbl (Nat.le_trans h.wl hbw)
  · exact keep_far hkp (by exact hbw) _
/-- A heading more. -/
theorem TT.heads {vh' : Value} {hs' : List (S39)} (h : TT w0 w W g r b lst a s vc vh vw cs hs ws n) (hR : Kd.S k39 39 W1 w.heap.size (fun _ => True) vh' hs') (hb : Below w.heap.size W W1) (hg : W.grownBy W1 vh.ownBlock) :
    W1.cell? ⟨b, 1, none⟩ = some vh ∧ W1.frozen? ⟨b, 1, none⟩ = false ∧ TT w0 w (W1.setCell ⟨b, 1, none⟩ vh') g r b lst a s vc vh' vw cs hs' ws W1.heap.size := by
  have hne : ∀ k t cells, W.heap[k]? = some (.cells cells t (0, 0)) → t ≠ 39 → some k ≠ vh.ownBlock := fun k t cells hk ht => Kd.S_ne h.hh hk (Ne.symm ht)
  have htt : W1.heap[b]? = some (.cells #[vc, vh] 26 (0, 0)) := blk_grown h.tt hg (hne b _ _ h.tt (by decide))
  have hbox : W1.heap[r]? = some (.cells #[.slice none 0 0, .slice none 0 0] 26 (0, 0)) := blk_grown h.box hg (hne r _ _ h.box (by decide))
  have hdi : IsS72 w0 W1 g lst a s := IsS72.grown h.di hg (IsS72.own_neS h.di h.hh (by decide))
  have hc1 := Kd.R_over' h.hc (Kd.S_typed h.hh) (by decide) hg
  have hw1 := Kd.R_over' h.hw (Kd.S_typed h.hh) (by decide) hg
  have hbl : Below w0.heap.size w0 W1 := below_weaken h.bl h.wl hb
  have hkp : KeepBut w W1 g none := h.kp.trans (KeepBut.of_grown hg g) (Kd.S_base2 h.hh)
  have hgl := h.gl
  have hbw := h.bw
  have hz : W.heap.size ≤ W1.heap.size := hb.size
  have hS : (W1.setCell ⟨b, 1, none⟩ vh').heap.size = W1.heap.size := by simp [World.setCell]
  have hW := h.nW
  have hbn := h.bn
  have hrn := h.rn
  refine ⟨(blk_cell htt 1).trans rfl, blk_frozen htt 1, ⟨h.gl, h.rl, h.bw, by omega, by omega, h.rb, by rw [hS]; exact Nat.le_refl _, h.wl, ?_, blk_put htt 1 vh' rfl, ?_, ?_, ?_, ?_, ?_, ?_⟩⟩
  · exact blk_far hbox (by exact h.rb) _
  · have h2 := Kd.R_types hc1 htt (by decide)
    exact Kd.R_mono (Kd.R_far (p := ⟨b, 1, none⟩) h2 (fun k hk => hk.2) vh') (fun k hk => ⟨by have := hk.1.1; omega, hk.1.2⟩)
  · have h1 := IsS72.apartS hdi (Kd.S_bound hR) (by decide)
    have h2 := Kd.S_types h1 htt (by decide)
    exact Kd.S_mono (Kd.S_far (p := ⟨b, 1, none⟩) h2 (fun k hk => hk.2) vh') (fun k hk => ⟨hk.1.1.2.2.1, hk.1.2⟩)
  · have h2 := Kd.R_types hw1 htt (by decide)
    exact Kd.R_mono (Kd.R_far (p := ⟨b, 1, none⟩) h2 (fun k hk => hk.2) vh') (fun k hk => ⟨by have := hk.1.1; omega, hk.1.2⟩)
  · exact hdi.far (by show g ≠ b; omega) _
  · exact below_set hbl (Nat.le_trans h.wl hbw)
  · exact keep_far hkp (by exact hbw) _
end

set_option maxHeartbeats 8000000 in
set_option maxRecDepth 100000 in
theorem wayzgoosekit_TradesOf.calls (k : Nat) (g : Nat) (s0_0 : List Int) (s0_1 : Int) (s0_2 : Int) (a1 : Int) (a2 : Int) (r1 : List (S51)) (r2 : List (S39)) (r3 : Int) (r4 : Int) (w0 w : World) (hI : IsS72 w0 w g s0_0 s0_1 s0_2) (hB : Below w0.heap.size w0 w) (h : wayzgoosekit_TradesOf.f k s0_0 s0_1 s0_2 a1 a2 = some (r1, r2, r3, r4)) :
    Calls Try.prog 13 #[.pointer (some ⟨g, 0, none⟩), .int .i64 a1, .int .i64 a2] w fun e w' => ∃ v0_ v1_ : Value, e = .returned (.agg #[v0_, v1_]) ∧ Kd.R k51 51 w' w.heap.size (fun _ => True) v0_ r1 ∧ Kd.S k39 39 w' w.heap.size (fun _ => True) v1_ r2 ∧ IsS72 w0 w' g s0_0 r3 r4 ∧ Below w0.heap.size w0 w' ∧ KeepBut w w' g none := by
  have hu1 := Try.underlying26
  have hu2 := Try.underlying51
  have hu3 := Try.underlying39
  unfold wayzgoosekit_TradesOf.f at h
  obtain ⟨so, hso, h⟩ := Option.bind_eq_some_iff.1 h
  obtain ⟨⟨ns, a0, d0⟩, hor, h⟩ := Option.bind_eq_some_iff.1 h
  obtain ⟨⟨x9, ai, di⟩, hfr, h⟩ := Option.bind_eq_some_iff.1 h
  have H := Aside0.mk h
  clear h
  have hgl : g < w.heap.size := hI.lt
  have hwl := hB.size
  obtain ⟨w1, hw1⟩ : ∃ W, W = (w.alloc (.cells #[.slice none 0 0, .slice none 0 0] 26)).alloc (.cells #[.slice none 0 0, .slice none 0 0] 26) := ⟨_, rfl⟩
  have hT : TT w0 w w1 g w.heap.size (w.heap.size + 1) s0_0 s0_1 s0_2 (.slice none 0 0) (.slice none 0 0) (.slice none 0 0) [] [] [] (w.heap.size + 1 + 1) := by
    have hb1 := ((Below.refl w.heap.size w).alloc (Nat.le_refl _) (.cells #[.slice none 0 0, .slice none 0 0] 26)).alloc (by simp) (.cells #[.slice none 0 0, .slice none 0 0] 26)
    rw [← hw1] at hb1
    have hz1 : w1.heap.size = w.heap.size + 1 + 1 := by rw [hw1, World.size_alloc, World.size_alloc]
    refine ⟨hgl, Nat.le_refl _, by omega, by omega, by omega, by omega, by omega, hwl, ?_, ?_, Kd.R_nil _ _ _ _ _, Kd.S_nil _ _ _ _ _, Kd.R_nil _ _ _ _ _, hI.below hb1, below_step hB hb1, KeepBut.of_below hb1 g none⟩
    · rw [hw1]; exact blk_alloc (heap_alloc_new w _) _
    · have := heap_alloc_new (w.alloc (.cells #[.slice none 0 0, .slice none 0 0] 26)) (.cells #[.slice none 0 0, .slice none 0 0] 26)
      rw [World.size_alloc] at this
      rw [hw1]; exact this
  go_enter Try.func13, Try.ntmps13
  go_upto_region 2 with (fail)
  rw [← hw1]
  clear hw1 hI hB
  go_upto_region 3 with (first
    | (go_at_call 37; go_loud ((with_reducible refine (wayzgoosekit_sorts.calls _ _ hso).mono ?_); rintro e w2 ⟨vs, rfl, hs2, hb2⟩; obtain ⟨As, cs, rfl, hls, hCs⟩ := Kd.R_reads hs2; have hT2 := hT.all hb2; clear hs2 hb2 hCs))
    | (go_at_call 23; go_loud ((with_reducible refine (wayzgoosekit_Dice_Order.calls k g _ _ _ _ _ _ _ w0 _ hT2.di hT2.bl hor).mono ?_); rintro e w3 ⟨vn, rfl, hn3, hi3, hb3, hk3⟩; obtain ⟨An, cn, rfl, hln, -⟩ := Kd.R_reads hn3; have hT3 := hT2.dice hi3 hb3 hk3; clear hi3 hb3)))
  have hT := hT3.row (Kd.R_lower hn3 hT2.kp.1)
  clear hn3 hT2 hk3 hT3
  go_upto_region 4 with (go_at_call 38; go_loud ((with_reducible refine (wayzgoosekit_Dice_From.calls g _ _ _ _ _ _ _ _ w0 _ hT.di hT.bl hfr).mono ?_); rintro e w4 ⟨rfl, hi4, hb4, hk4⟩; have hT4 := hT.dice hi4 hb4 hk4; clear hi4 hb4 hk4))
  have hT := hT4
  clear hT4
  go_loopg [9] k (fun gk v9 wr => ∃ (x : Int) (a d : Int) (cs : List (S51)) (vc : Value) (n : Nat), v9 = .int .i64 x ∧ Aside0 (wayzgoosekit_TradesOf.l0 gk a2 ns x s0_0 a d cs = some (r1, r2, r3, r4)) ∧ TT w0 w wr g w.heap.size (w.heap.size + 1) s0_0 a d vc (.slice none 0 0) (.slice An ns.length cn) cs [] ns n)
  case atStart => exact ⟨x9, ai, di, [], _, _, rfl, H, hT⟩
  case round =>
    clear hT hfr hor hso H
    obtain ⟨x, a, d, cs, vc, n, rfl, HA, hT⟩ := hrel
    cases gk with
    | zero => exact absurd HA.out (by simp [wayzgoosekit_TradesOf.l0])
    | succ k1 =>
      have h := HA.out
      clear HA
      simp only [wayzgoosekit_TradesOf.l0] at h
      by_cases c1 : x > 0
      · rw [if_pos c1] at h
        obtain ⟨so, hso, h⟩ := Option.bind_eq_some_iff.1 h
        by_cases c2 : (0 : Int) ≤ cs.length
        · rw [if_pos c2] at h
          by_cases c3 : (cs.length : Int) < ns.length
          · rw [if_pos c3] at h
            by_cases c4 : 0 ≤ rd ns (cs.length : Int)
            · rw [if_pos c4] at h
              by_cases c5 : rd ns (cs.length : Int) < so.length
              · rw [if_pos c5] at h
                obtain ⟨⟨u, a', d'⟩, hfr, h⟩ := Option.bind_eq_some_iff.1 h
                by_cases c6 : cs.length < 5864062014805
                · rw [if_pos c6] at h
                  have H := Aside0.mk h
                  clear h
                  have hgt : decide (0 < x) = true := decide_eq_true c1
                  clear c1
                  go_upto_region 6 with (fail)
                  obtain ⟨Ac, cc, rfl, hlc, -⟩ := Kd.R_reads hT.hc
                  obtain ⟨adn, rfl⟩ : ∃ ad, An = some ad := by
                    obtain ⟨ad, e, -⟩ := Kd.at_int (Kd.R_reads' hT.hw).2.2 _ c2 c3
                    exact ⟨ad, e⟩
                  have hTd := hT.all (below_drew (Below.refl _ _))
                  have hL := fun W a d (hT : TT w0 w W g w.heap.size (w.heap.size + 1) s0_0 a d (.slice Ac cs.length cc) (.slice none 0 0) (.slice (some adn) ns.length cn) cs [] ns n) => hT.loads c2 c3
                  simp only [Int.toNat_natCast] at hL
                  refine wp_region_M (S := fun W => W.cell? ⟨w.heap.size + 1, 0, none⟩ = some (.slice Ac cs.length cc) ∧ W.cell? (adn.add cs.length) = some (.int .i64 (rd ns (cs.length : Int)))) [19, 20, 21] (by kernel_rfl) (hL _ _ _ hTd) (fun hHeld => ?_)
                  refine wpAnyM_take [0, 1, 19, 20, 21] (i := 0) (oi := _) (v := ?hv0) rfl (by kernel_rfl) (fun _ _ _ h => h) (Or.inl ⟨by rfl, ?hy0⟩) (by assumption) ?re0
                  case hy0 => intro W hSw; (try dsimp only at hSw); go_simp; try with_reducible rfl
                  try simp only [Act.put, List.setIfInBounds_toArray, List.set_cons_zero, List.set_cons_succ]
                  refine wpAnyM_take [1, 19, 20, 21] (i := 1) (oi := _) (v := ?hv1) rfl (by kernel_rfl) (fun _ _ _ h => h) (Or.inl ⟨by rfl, ?hy1⟩) (by assumption) ?re1
                  case hy1 => intro W hSw; (try dsimp only at hSw); go_simp; try with_reducible rfl
                  try simp only [Act.put, List.setIfInBounds_toArray, List.set_cons_zero, List.set_cons_succ]
                  refine wpAnyM_take [3, 7, 8, 9, 10, 17, 18, 19, 20, 21] (i := 3) (oi := _) (v := ?hv3) rfl (by kernel_rfl) (fun _ _ _ h => h) (Or.inl ⟨by rfl, ?hy3⟩) (by assumption) ?re3
                  case hy3 => intro W hSw; (try dsimp only at hSw); go_simp; try with_reducible rfl
                  try simp only [Act.put, List.setIfInBounds_toArray, List.set_cons_zero, List.set_cons_succ]
                  refine wpAnyM_take [4, 5, 6, 7, 8, 9, 10, 17, 18, 19, 20, 21] (i := 4) (oi := _) (v := ?hv4) rfl (by kernel_rfl) (fun _ _ _ h => h) (Or.inl ⟨by rfl, ?hy4⟩) (by assumption) ?re4
                  case hy4 => intro W hSw; (try dsimp only at hSw); go_simp; try with_reducible rfl
                  try simp only [Act.put, List.setIfInBounds_toArray, List.set_cons_zero, List.set_cons_succ]
                  refine wpAnyM_take [5, 6, 7, 8, 9, 10, 17, 18, 19, 20, 21] (i := 5) (oi := _) (v := ?hv5) rfl (by kernel_rfl) (fun _ _ _ h => h) (Or.inl ⟨by rfl, ?hy5⟩) (by assumption) ?re5
                  case hy5 => intro W hSw; (try dsimp only at hSw); go_simp; try with_reducible rfl
                  try simp only [Act.put, List.setIfInBounds_toArray, List.set_cons_zero, List.set_cons_succ]
                  refine wpAnyM_take [6, 7, 8, 9, 10, 17, 18, 19, 20, 21] (i := 6) (oi := _) (v := ?hv6) rfl (by kernel_rfl) (fun _ _ _ h => h) (Or.inl ⟨by rfl, ?hy6⟩) (by assumption) ?re6
                  case hy6 => intro W hSw; (try dsimp only at hSw); go_simp; try with_reducible rfl
                  try simp only [Act.put, List.setIfInBounds_toArray, List.set_cons_zero, List.set_cons_succ]
                  refine wpAnyM_take [7, 8, 9, 10, 17, 18, 19, 20, 21] (i := 7) (oi := _) (v := ?hv7) rfl (by kernel_rfl) (fun _ _ _ h => h) (Or.inl ⟨by rfl, ?hy7⟩) (by assumption) ?re7
                  case hy7 => intro W hSw; (try dsimp only at hSw); go_simp; try with_reducible rfl
                  try simp only [Act.put, List.setIfInBounds_toArray, List.set_cons_zero, List.set_cons_succ]
                  refine wpAnyM_take [8, 9, 10, 17, 18, 19, 20, 21] (i := 8) (oi := _) (v := ?hv8) rfl (by kernel_rfl) (fun _ _ _ h => h) (Or.inl ⟨by rfl, ?hy8⟩) (by assumption) ?re8
                  case hy8 => intro W hSw; (try dsimp only at hSw); go_simp; try with_reducible rfl
                  try simp only [Act.put, List.setIfInBounds_toArray, List.set_cons_zero, List.set_cons_succ]
                  refine wpAnyM_take [11, 16, 17, 18, 19, 20, 21] (i := 11) (oi := _) (v := ?hv11) rfl (by kernel_rfl) (fun _ _ _ h => h) (Or.inl ⟨by rfl, ?hy11⟩) (by assumption) ?re11
                  case hy11 => intro W hSw; (try dsimp only at hSw); go_simp; try with_reducible rfl
                  try simp only [Act.put, List.setIfInBounds_toArray, List.set_cons_zero, List.set_cons_succ]
                  refine wpAnyM_take [12, 13, 14, 15, 16, 17, 18, 19, 20, 21] (i := 12) (oi := _) (v := ?hv12) rfl (by kernel_rfl) (fun _ _ _ h => h) (Or.inl ⟨by rfl, ?hy12⟩) (by assumption) ?re12
                  case hy12 => intro W hSw; (try dsimp only at hSw); go_simp; try with_reducible rfl
                  try simp only [Act.put, List.setIfInBounds_toArray, List.set_cons_zero, List.set_cons_succ]
                  refine wpAnyM_take [13, 14, 15, 16, 17, 18, 19, 20, 21] (i := 13) (oi := _) (v := ?hv13) rfl (by kernel_rfl) (fun _ _ _ h => h) (Or.inl ⟨by rfl, ?hy13⟩) (by assumption) ?re13
                  case hy13 => intro W hSw; (try dsimp only at hSw); go_simp; try with_reducible rfl
                  try simp only [Act.put, List.setIfInBounds_toArray, List.set_cons_zero, List.set_cons_succ]
                  refine wpAnyM_take [14, 15, 16, 17, 18, 19, 20, 21] (i := 14) (oi := _) (v := ?hv14) rfl (by kernel_rfl) (fun _ _ _ h => h) (Or.inl ⟨by rfl, ?hy14⟩) (by assumption) ?re14
                  case hy14 => intro W hSw; (try dsimp only at hSw); go_simp; try with_reducible rfl
                  try simp only [Act.put, List.setIfInBounds_toArray, List.set_cons_zero, List.set_cons_succ]
                  refine wpAnyM_take [15, 16, 17, 18, 19, 20, 21] (i := 15) (oi := _) (v := ?hv15) rfl (by kernel_rfl) (fun _ _ _ h => h) (Or.inl ⟨by rfl, ?hy15⟩) (by assumption) ?re15
                  case hy15 => intro W hSw; (try dsimp only at hSw); go_simp; try with_reducible rfl
                  try simp only [Act.put, List.setIfInBounds_toArray, List.set_cons_zero, List.set_cons_succ]
                  refine wpAnyM_one (i := 2) (o := _) (by kernel_rfl) rfl (fun K hK => ?_)
                  go_simp
                  go_at_call 37
                  refine (wayzgoosekit_sorts.calls _ _ hso).mono ?_
                  rintro e w2 ⟨vs, rfl, hs2, hb2⟩
                  obtain ⟨As, csz, rfl, hls, hCs⟩ := Kd.R_reads hs2
                  have hT2 := hTd.all hb2
                  obtain ⟨ads, e, hx2⟩ := Kd.at_string hCs _ c4 c5
                  cases e
                  refine hK.out _ _ (fun _ => hL _ _ _ hT2) (fun hHeld => ?_)
                  replace hHeld := hHeld (by decide)
                  clear hK
                  clear K
                  try simp only [Act.put, List.setIfInBounds_toArray, List.set_cons_zero, List.set_cons_succ]
                  refine wpAnyM_more (S' := fun W => (W.cell? ⟨w.heap.size + 1, 0, none⟩ = some (.slice Ac cs.length cc) ∧ W.cell? (adn.add cs.length) = some (.int .i64 (rd ns (cs.length : Int)))) ∧ W.cell? (ads.add (rd ns (cs.length : Int)).toNat) = some (.string (rdOf ByteArray.empty so (rd ns (cs.length : Int))))) (fun _ h => h.1) _ _ _ _ ?_
                  replace hHeld := And.intro hHeld hx2
                  refine wpAnyM_take [9, 10, 17, 18, 19, 20, 21] (i := 9) (oi := _) (v := ?hv9) rfl (by kernel_rfl) (fun _ _ _ h => h) (Or.inl ⟨by rfl, ?hy9⟩) (by assumption) ?re9
                  case hy9 => intro W hSw; (try dsimp only at hSw); go_simp; try with_reducible rfl
                  try simp only [Act.put, List.setIfInBounds_toArray, List.set_cons_zero, List.set_cons_succ]
                  refine wpAnyM_take [10, 17, 18, 19, 20, 21] (i := 10) (oi := _) (v := ?hv10) rfl (by kernel_rfl) (fun _ _ _ h => h) (Or.inl ⟨by rfl, ?hy10⟩) (by assumption) ?re10
                  case hy10 => intro W hSw; (try dsimp only at hSw); go_simp; try with_reducible rfl
                  try simp only [Act.put, List.setIfInBounds_toArray, List.set_cons_zero, List.set_cons_succ]
                  refine wpAnyM_one (i := 16) (o := _) (by kernel_rfl) rfl (fun K hK => ?_)
                  go_simp
                  try simp only [i64_w]
                  go_at_call 38
                  refine (wayzgoosekit_Dice_From.calls g _ _ _ _ _ _ _ _ w0 _ hT2.di hT2.bl hfr).mono ?_
                  rintro e w3 ⟨rfl, hi3, hb3, hk3⟩
                  have hT3 := hT2.dice hi3 hb3 hk3
                  have hx3 := hT2.strs hs2 hk3 c4 c5
                  refine hK.out _ _ (fun _ => ⟨hL _ _ _ hT3, hx3⟩) (fun hHeld => ?_)
                  replace hHeld := hHeld (by decide)
                  clear hK
                  clear K
                  try simp only [Act.put, List.setIfInBounds_toArray, List.set_cons_zero, List.set_cons_succ]
                  refine wpAnyM_take [17, 18, 19, 20, 21] (i := 17) (oi := _) (v := ?hv17) rfl (by kernel_rfl) (fun _ _ _ h => h) (Or.inl ⟨by rfl, ?hy17⟩) (by assumption) ?re17
                  case hy17 => intro W hSw; (try dsimp only at hSw); go_simp; try with_reducible rfl
                  try simp only [Act.put, List.setIfInBounds_toArray, List.set_cons_zero, List.set_cons_succ]
                  have hba := (Below.refl w3.heap.size w3).alloc (Nat.le_refl _) (.cells #[.string (rdOf ByteArray.empty so (rd ns (cs.length : Int))), .int .i64 u] 51)
                  refine wpAnyM_one (i := 18) (o := _) (by kernel_rfl) rfl (fun K hK => ?_)
                  go_simp
                  refine hK.out _ _ (fun _ => ⟨hL _ _ _ (hT3.all hba), pw_cell_below hba hx3⟩) (fun hHeld => ?_)
                  replace hHeld := hHeld (by decide)
                  clear hK
                  clear K
                  try simp only [Act.put, List.setIfInBounds_toArray, List.set_cons_zero, List.set_cons_succ]
                  refine wpAnyM_one (i := 19) (o := _) (by kernel_rfl) rfl (fun K hK => ?_)
                  refine Kd.R_append_step k51 (w0 := w3) (W := w3) w.heap.size (by rfl) _ _ 23 51 _ 24 (by rfl) Try.underlying23 info51 (by rfl) (by decide) (by decide) (.slice Ac cs.length cc) cs ⟨(rdOf ByteArray.empty so (rd ns (cs.length : Int))), u⟩ [.string (rdOf ByteArray.empty so (rd ns (cs.length : Int))), .int .i64 u] (fun _ => True) (fun _ => False) (by rfl) (by rfl) (k51_mkM _ _ _ _) (fun _ h => h.elim) (fun _ _ => trivial) (Kd.R_mono hT3.hc (fun _ _ => trivial)) (Below.refl _ _) hT3.kp.1 (by omega) ?_
                  intro v5 w5 hv5 hb5 hg5 hat5
                  obtain ⟨A5, n5, rfl⟩ := Kd.R_slice hv5
                  obtain ⟨hq5, hf5, hT5⟩ := hT3.classes hv5 hb5 hg5
                  refine hK.out _ _ (fun h => absurd (by decide) h) (fun _ => ?_)
                  clear hK
                  clear K
                  try simp only [Act.put, List.setIfInBounds_toArray, List.set_cons_zero, List.set_cons_succ]
                  refine wpAnyM_one (i := 20) (o := _) (by kernel_rfl) rfl (fun K hK => ?_)
                  go_simp
                  refine hK.out _ _ (fun h => absurd (by decide) h) (fun _ => ?_)
                  clear hK
                  clear K
                  try simp only [Act.put, List.setIfInBounds_toArray, List.set_cons_zero, List.set_cons_succ]
                  refine wpAnyM_one (i := 21) (o := _) (by kernel_rfl) rfl (fun K hK => ?_)
                  go_simp
                  refine hK.out _ _ (fun h => absurd (by decide) h) (fun _ => ?_)
                  clear hK
                  clear K
                  try simp only [Act.put, List.setIfInBounds_toArray, List.set_cons_zero, List.set_cons_succ]
                  refine wpAnyM_done (by kernel_rfl) ?_ _
                  try simp only [Act.put, List.setIfInBounds_toArray, List.set_cons_zero, List.set_cons_succ]
                  go_wp2
                  go_roundg k1
                  case measure => omega
                  case rel =>
                    simp only [List.length_append, List.length_singleton] at hT5
                    exact ⟨_, _, _, _, _, _, rfl, H, hT5⟩
                · rw [if_neg c6] at h; cases h
              · rw [if_neg c5] at h; cases h
            · rw [if_neg c4] at h; cases h
          · rw [if_neg c3] at h; cases h
        · rw [if_neg c2] at h; cases h
      · rw [if_neg c1] at h
        have hgt : decide (0 < x) = false := decide_eq_false c1
        clear c1
        obtain ⟨ca, hca, h⟩ := Option.bind_eq_some_iff.1 h
        obtain ⟨⟨mh, a', d'⟩, hto, h⟩ := Option.bind_eq_some_iff.1 h
        obtain ⟨⟨ws, a'', d''⟩, hpo, h⟩ := Option.bind_eq_some_iff.1 h
        have H := Aside0.mk h
        clear h
        obtain ⟨Ac, cc, rfl, hlc, -⟩ := Kd.R_reads hT.hc
        go_upto_region 8 with (first
          | (go_at_call 40; go_loud ((with_reducible refine (wayzgoosekit_callings.calls _ _ hca).mono ?_); rintro e w2 ⟨vs, rfl, hs2, hb2⟩; obtain ⟨As, csz, rfl, hls, hCs⟩ := Kd.R_reads hs2; have hT2 := hT.all hb2; clear hs2 hb2 hCs))
          | (go_at_call 32; go_loud ((with_reducible refine (wayzgoosekit_Dice_To.calls g _ _ _ _ _ _ _ w0 _ hT2.di hT2.bl hto).mono ?_); rintro e w3 ⟨rfl, hi3, hb3, hk3⟩; have hT3 := hT2.dice hi3 hb3 hk3; clear hi3 hb3 hk3))
          | (go_at_call 39; go_loud ((with_reducible refine (wayzgoosekit_partOf.calls k1 g _ _ _ _ _ _ _ _ w0 _ hT3.di hT3.bl hpo).mono ?_); rintro e w4 ⟨vw, rfl, hn4, hi4, hb4, hk4⟩; obtain ⟨Aw, cw, rfl, hlw, -⟩ := Kd.R_reads hn4; have hT4 := hT3.dice hi4 hb4 hk4; clear hi4 hb4 hk4)))
        have hT5 := hT4.row (Kd.R_lower hn4 hT3.kp.1)
        clear hT hT2 hT3 hT4 hn4
        go_upto_region 9 with (fail)
        go_wp2
        go_loopg [12] k1 (fun gk v12 wr => ∃ (x a d : Int) (hs : List (S39)) (vh : Value) (n : Nat), v12 = .int .i64 x ∧ Aside0 (wayzgoosekit_TradesOf.l1 gk ws (ws.length : Int) x s0_0 a d cs hs = some (r1, r2, r3, r4)) ∧ TT w0 w wr g w.heap.size (w.heap.size + 1) s0_0 a d (.slice Ac cs.length cc) vh (.slice Aw ws.length cw) cs hs ws n)
        case atStart => exact ⟨0, a'', d'', [], _, _, rfl, H, hT5⟩
        case round =>
          clear hT5 hca hto hpo H
          obtain ⟨x, a, d, hs, vh, n, rfl, HA, hT⟩ := hrel
          cases gk with
          | zero => exact absurd HA.out (by simp [wayzgoosekit_TradesOf.l1])
          | succ k2 =>
            have h := HA.out
            clear HA
            simp only [wayzgoosekit_TradesOf.l1] at h
            by_cases c1 : x < (ws.length : Int)
            · rw [if_pos c1] at h
              obtain ⟨ca, hca, h⟩ := Option.bind_eq_some_iff.1 h
              by_cases c2 : 0 ≤ x
              · rw [if_pos c2, if_pos c1] at h
                by_cases c4 : 0 ≤ rd ws x
                · rw [if_pos c4] at h
                  by_cases c5 : rd ws x < (ca.length : Int)
                  · rw [if_pos c5] at h
                    obtain ⟨⟨u, a', d'⟩, hto, h⟩ := Option.bind_eq_some_iff.1 h
                    have H := Aside0.mk h
                    clear h
                    have hlt : decide (x < (ws.length : Int)) = true := decide_eq_true c1
                    obtain ⟨adw, e⟩ : ∃ ad, Aw = some ad := by
                      obtain ⟨ad, e, -⟩ := Kd.at_int (Kd.R_reads' hT.hw).2.2 _ c2 c1
                      exact ⟨ad, e⟩
                    cases e
                    have hTd := hT.all (below_drew (Below.refl _ _))
                    have hL := fun W a d (hT : TT w0 w W g w.heap.size (w.heap.size + 1) s0_0 a d (.slice Ac cs.length cc) vh (.slice (some adw) ws.length cw) cs hs ws n) => hT.loads c2 c1
                    go_upto_region 12 with (fail)
                    go_cut [13] (fun v13 wc => ∃ (hb : Nat), v13 = .pointer (some ⟨hb, 0, none⟩) ∧ n ≤ hb ∧ wc.heap[hb]? = some (.cells #[.string (rdOf ByteArray.empty ca (rd ws x)), .int .i64 u, .int .i64 (-1), .slice none 0 0] 39 (0, 0)) ∧ TT w0 w wc g w.heap.size (w.heap.size + 1) s0_0 a' d' (.slice Ac cs.length cc) vh (.slice (some adw) ws.length cw) cs hs ws n)
                    case first =>
                      refine wp_region_M (S := fun W => W.cell? ⟨w.heap.size + 1, 0, none⟩ = some (.slice Ac cs.length cc) ∧ W.cell? (adw.add x.toNat) = some (.int .i64 (rd ws x))) [15] (by kernel_rfl) (hL _ _ _ hTd) (fun hHeld => ?_)
                      refine wpAnyM_take [1, 3, 4, 5, 6, 13, 15] (i := 1) (oi := _) (v := ?hv1x12) rfl (by kernel_rfl) (fun _ _ _ h => h) (Or.inl ⟨by rfl, ?hy1x12⟩) (by assumption) ?re1x12
                      case hy1x12 => intro W hSw; (try dsimp only at hSw); go_simp; try with_reducible rfl
                      try simp only [Act.put, List.setIfInBounds_toArray, List.set_cons_zero, List.set_cons_succ]
                      refine wpAnyM_take [2, 3, 4, 5, 6, 13, 15] (i := 2) (oi := _) (v := ?hv2x12) rfl (by kernel_rfl) (fun _ _ _ h => h) (Or.inl ⟨by rfl, ?hy2x12⟩) (by assumption) ?re2x12
                      case hy2x12 => intro W hSw; (try dsimp only at hSw); go_simp; try with_reducible rfl
                      try simp only [Act.put, List.setIfInBounds_toArray, List.set_cons_zero, List.set_cons_succ]
                      refine wpAnyM_take [3, 4, 5, 6, 13, 15] (i := 3) (oi := _) (v := ?hv3x12) rfl (by kernel_rfl) (fun _ _ _ h => h) (Or.inl ⟨by rfl, ?hy3x12⟩) (by assumption) ?re3x12
                      case hy3x12 => intro W hSw; (try dsimp only at hSw); go_simp; try with_reducible rfl
                      try simp only [Act.put, List.setIfInBounds_toArray, List.set_cons_zero, List.set_cons_succ]
                      refine wpAnyM_take [4, 5, 6, 13, 15] (i := 4) (oi := _) (v := ?hv4x12) rfl (by kernel_rfl) (fun _ _ _ h => h) (Or.inl ⟨by rfl, ?hy4x12⟩) (by assumption) ?re4x12
                      case hy4x12 => intro W hSw; (try dsimp only at hSw); go_simp; try with_reducible rfl
                      try simp only [Act.put, List.setIfInBounds_toArray, List.set_cons_zero, List.set_cons_succ]
                      refine wpAnyM_take [7, 12, 13, 15] (i := 7) (oi := _) (v := ?hv7x12) rfl (by kernel_rfl) (fun _ _ _ h => h) (Or.inl ⟨by rfl, ?hy7x12⟩) (by assumption) ?re7x12
                      case hy7x12 => intro W hSw; (try dsimp only at hSw); go_simp; try with_reducible rfl
                      try simp only [Act.put, List.setIfInBounds_toArray, List.set_cons_zero, List.set_cons_succ]
                      refine wpAnyM_take [8, 9, 10, 11, 12, 13, 15] (i := 8) (oi := _) (v := ?hv8x12) rfl (by kernel_rfl) (fun _ _ _ h => h) (Or.inl ⟨by rfl, ?hy8x12⟩) (by assumption) ?re8x12
                      case hy8x12 => intro W hSw; (try dsimp only at hSw); go_simp; try with_reducible rfl
                      try simp only [Act.put, List.setIfInBounds_toArray, List.set_cons_zero, List.set_cons_succ]
                      refine wpAnyM_take [9, 10, 11, 12, 13, 15] (i := 9) (oi := _) (v := ?hv9x12) rfl (by kernel_rfl) (fun _ _ _ h => h) (Or.inl ⟨by rfl, ?hy9x12⟩) (by assumption) ?re9x12
                      case hy9x12 => intro W hSw; (try dsimp only at hSw); go_simp; try with_reducible rfl
                      try simp only [Act.put, List.setIfInBounds_toArray, List.set_cons_zero, List.set_cons_succ]
                      refine wpAnyM_take [10, 11, 12, 13, 15] (i := 10) (oi := _) (v := ?hv10x12) rfl (by kernel_rfl) (fun _ _ _ h => h) (Or.inl ⟨by rfl, ?hy10x12⟩) (by assumption) ?re10x12
                      case hy10x12 => intro W hSw; (try dsimp only at hSw); go_simp; try with_reducible rfl
                      try simp only [Act.put, List.setIfInBounds_toArray, List.set_cons_zero, List.set_cons_succ]
                      refine wpAnyM_take [11, 12, 13, 15] (i := 11) (oi := _) (v := ?hv11x12) rfl (by kernel_rfl) (fun _ _ _ h => h) (Or.inl ⟨by rfl, ?hy11x12⟩) (by assumption) ?re11x12
                      case hy11x12 => intro W hSw; (try dsimp only at hSw); go_simp; try with_reducible rfl
                      try simp only [Act.put, List.setIfInBounds_toArray, List.set_cons_zero, List.set_cons_succ]
                      refine wpAnyM_two (i := 0) (j := 14) (o := _) (o' := _) (by kernel_rfl) rfl rfl (fun K hK => ?_) (fun K hK => ?_)
                      · go_simp
                        go_at_call 40
                        refine (wayzgoosekit_callings.calls _ _ hca).mono ?_
                        rintro e w2 ⟨vs, rfl, hs2, hb2⟩
                        obtain ⟨As, csz, rfl, hls, hCs⟩ := Kd.R_reads hs2
                        have hT2 := hTd.all hb2
                        obtain ⟨ads, e, hx2⟩ := Kd.at_string hCs _ c4 c5
                        cases e
                        refine hK.out _ _ (fun _ => hL _ _ _ hT2) (fun hHeld => ?_)
                        replace hHeld := hHeld (by decide)
                        clear hK
                        clear K
                        try simp only [Act.put, List.setIfInBounds_toArray, List.set_cons_zero, List.set_cons_succ]
                        refine wpAnyM_more (S' := fun W => (W.cell? ⟨w.heap.size + 1, 0, none⟩ = some (.slice Ac cs.length cc) ∧ W.cell? (adw.add x.toNat) = some (.int .i64 (rd ws x))) ∧ W.cell? (ads.add (rd ws x).toNat) = some (.string (rdOf ByteArray.empty ca (rd ws x)))) (fun _ h => h.1) _ _ _ _ ?_
                        replace hHeld := And.intro hHeld hx2
                        refine wpAnyM_take [5, 6, 13, 15] (i := 5) (oi := _) (v := ?hv5x12a) rfl (by kernel_rfl) (fun _ _ _ h => h) (Or.inl ⟨by rfl, ?hy5x12a⟩) (by assumption) ?re5x12a
                        case hy5x12a => intro W hSw; (try dsimp only at hSw); go_simp; try with_reducible rfl
                        try simp only [Act.put, List.setIfInBounds_toArray, List.set_cons_zero, List.set_cons_succ]
                        refine wpAnyM_take [6, 13, 15] (i := 6) (oi := _) (v := ?hv6x12a) rfl (by kernel_rfl) (fun _ _ _ h => h) (Or.inl ⟨by rfl, ?hy6x12a⟩) (by assumption) ?re6x12a
                        case hy6x12a => intro W hSw; (try dsimp only at hSw); go_simp; try with_reducible rfl
                        try simp only [Act.put, List.setIfInBounds_toArray, List.set_cons_zero, List.set_cons_succ]
                        refine wpAnyM_two (i := 12) (j := 14) (o := _) (o' := _) (by kernel_rfl) rfl rfl (fun K hK => ?_) (fun K hK => ?_)
                        · go_simp
                          try simp only [i64_w]
                          go_at_call 32
                          refine (wayzgoosekit_Dice_To.calls g _ _ _ _ _ _ _ w0 _ hT2.di hT2.bl hto).mono ?_
                          rintro e w3 ⟨rfl, hi3, hb3, hk3⟩
                          have hT3 := hT2.dice hi3 hb3 hk3
                          have hx3 := hT2.strs hs2 hk3 c4 c5
                          refine hK.out _ _ (fun _ => ⟨hL _ _ _ hT3, hx3⟩) (fun hHeld => ?_)
                          replace hHeld := hHeld (by decide)
                          clear hK
                          clear K
                          try simp only [Act.put, List.setIfInBounds_toArray, List.set_cons_zero, List.set_cons_succ]
                          refine wpAnyM_take [13, 15] (i := 13) (oi := _) (v := ?hv13x12b) rfl (by kernel_rfl) (fun _ _ _ h => h) (Or.inl ⟨by rfl, ?hy13x12b⟩) (by assumption) ?re13x12b
                          case hy13x12b => intro W hSw; (try dsimp only at hSw); go_simp; try with_reducible rfl
                          try simp only [Act.put, List.setIfInBounds_toArray, List.set_cons_zero, List.set_cons_succ]
                          obtain ⟨hTa, hN, hNg, hBK⟩ := hT3.laid #[.string ⟨#[]⟩, .int .i64 0, .int .i64 0, .slice none 0 0] 39
                          refine wpAnyM_one (i := 14) (o := _) (by kernel_rfl) rfl (fun K hK => ?_)
                          go_simp
                          refine hK.out _ _ (fun _ => ⟨hL _ _ _ hTa, pw_cell_below ((Below.refl _ _).alloc (Nat.le_refl _) _) hx3⟩) (fun hHeld => ?_)
                          replace hHeld := hHeld (by decide)
                          clear hK
                          clear K
                          try simp only [Act.put, List.setIfInBounds_toArray, List.set_cons_zero, List.set_cons_succ]
                          have hq0 := (blk_cell hBK 0).trans rfl
                          have hq1 := (blk_cell hBK 1).trans rfl
                          have hq2 := (blk_cell hBK 2).trans rfl
                          have hq3 := (blk_cell hBK 3).trans rfl
                          have hf0 := blk_frozen hBK 0
                          have hf1 := blk_frozen hBK 1
                          have hf2 := blk_frozen hBK 2
                          have hf3 := blk_frozen hBK 3
                          obtain ⟨hTe, -, -, hBK2⟩ := hT3.laid #[.string (rdOf ByteArray.empty ca (rd ws x)), .int .i64 u, .int .i64 (-1), .slice none 0 0] 39
                          refine wpAnyM_one (i := 15) (o := _) (by kernel_rfl) rfl (fun K hK => ?_)
                          go_simp
                          refine hK.out _ _ (fun h => absurd (by decide) h) (fun _ => ?_)
                          clear hK
                          clear K
                          try simp only [Act.put, List.setIfInBounds_toArray, List.set_cons_zero, List.set_cons_succ]
                          refine wpAnyM_done (by kernel_rfl) ?_ _
                          try simp only [Act.put, List.setIfInBounds_toArray, List.set_cons_zero, List.set_cons_succ]
                          go_wp2
                          go_meet
                          case rel => exact ⟨_, rfl, hN, hBK2, hTe⟩
                        · obtain ⟨hTa, hN, hNg, hBK⟩ := hT2.laid #[.string ⟨#[]⟩, .int .i64 0, .int .i64 0, .slice none 0 0] 39
                          have hsa := Kd.R_below hs2 ((Below.refl w2.heap.size w2).alloc (Nat.le_refl _) (.cells #[.string ⟨#[]⟩, .int .i64 0, .int .i64 0, .slice none 0 0] 39))
                          go_simp
                          refine hK.out _ _ (fun _ => ⟨hL _ _ _ hTa, pw_cell_below ((Below.refl _ _).alloc (Nat.le_refl _) _) hx2⟩) (fun hHeld => ?_)
                          replace hHeld := hHeld (by decide)
                          clear hK
                          clear K
                          try simp only [Act.put, List.setIfInBounds_toArray, List.set_cons_zero, List.set_cons_succ]
                          refine wpAnyM_one (i := 12) (o := _) (by kernel_rfl) rfl (fun K hK => ?_)
                          go_simp
                          try simp only [i64_w]
                          go_at_call 32
                          refine (wayzgoosekit_Dice_To.calls g _ _ _ _ _ _ _ w0 _ hTa.di hTa.bl hto).mono ?_
                          rintro e w3 ⟨rfl, hi3, hb3, hk3⟩
                          have hT3 := hTa.dice hi3 hb3 hk3
                          have hx3 := hTa.strs hsa hk3 c4 c5
                          replace hBK := hk3.blk hBK hNg (by simp)
                          refine hK.out _ _ (fun _ => ⟨hL _ _ _ hT3, hx3⟩) (fun hHeld => ?_)
                          replace hHeld := hHeld (by decide)
                          clear hK
                          clear K
                          try simp only [Act.put, List.setIfInBounds_toArray, List.set_cons_zero, List.set_cons_succ]
                          refine wpAnyM_take [13, 15] (i := 13) (oi := _) (v := ?hv13x12c) rfl (by kernel_rfl) (fun _ _ _ h => h) (Or.inl ⟨by rfl, ?hy13x12c⟩) (by assumption) ?re13x12c
                          case hy13x12c => intro W hSw; (try dsimp only at hSw); go_simp; try with_reducible rfl
                          try simp only [Act.put, List.setIfInBounds_toArray, List.set_cons_zero, List.set_cons_succ]
                          have hq0 := (blk_cell hBK 0).trans rfl
                          have hq1 := (blk_cell hBK 1).trans rfl
                          have hq2 := (blk_cell hBK 2).trans rfl
                          have hq3 := (blk_cell hBK 3).trans rfl
                          have hf0 := blk_frozen hBK 0
                          have hf1 := blk_frozen hBK 1
                          have hf2 := blk_frozen hBK 2
                          have hf3 := blk_frozen hBK 3
                          obtain ⟨hBK2, hTe⟩ := hT3.fill hN hBK (.string (rdOf ByteArray.empty ca (rd ws x))) (.int .i64 u) (.int .i64 (-1)) (.slice none 0 0)
                          refine wpAnyM_one (i := 15) (o := _) (by kernel_rfl) rfl (fun K hK => ?_)
                          go_simp
                          refine hK.out _ _ (fun h => absurd (by decide) h) (fun _ => ?_)
                          clear hK
                          clear K
                          try simp only [Act.put, List.setIfInBounds_toArray, List.set_cons_zero, List.set_cons_succ]
                          refine wpAnyM_done (by kernel_rfl) ?_ _
                          try simp only [Act.put, List.setIfInBounds_toArray, List.set_cons_zero, List.set_cons_succ]
                          go_wp2
                          go_meet
                          case rel => exact ⟨_, rfl, hN, hBK2, hTe⟩
                      · obtain ⟨hTa, hN, hNg, hBK⟩ := hTd.laid #[.string ⟨#[]⟩, .int .i64 0, .int .i64 0, .slice none 0 0] 39
                        have hz : wr.drew.heap.size = wr.heap.size := rfl
                        rw [hz] at hN hNg hBK
                        go_simp
                        refine hK.out _ _ (fun _ => hL _ _ _ hTa) (fun hHeld => ?_)
                        replace hHeld := hHeld (by decide)
                        clear hK
                        clear K
                        try simp only [Act.put, List.setIfInBounds_toArray, List.set_cons_zero, List.set_cons_succ]
                        refine wpAnyM_one (i := 0) (o := _) (by kernel_rfl) rfl (fun K hK => ?_)
                        go_simp
                        go_at_call 40
                        refine (wayzgoosekit_callings.calls _ _ hca).mono ?_
                        rintro e w2 ⟨vs, rfl, hs2, hb2⟩
                        obtain ⟨As, csz, rfl, hls, hCs⟩ := Kd.R_reads hs2
                        have hT2 := hTa.all hb2
                        obtain ⟨ads, e, hx2⟩ := Kd.at_string hCs _ c4 c5
                        cases e
                        replace hBK := blk_below hBK hb2
                        refine hK.out _ _ (fun _ => hL _ _ _ hT2) (fun hHeld => ?_)
                        replace hHeld := hHeld (by decide)
                        clear hK
                        clear K
                        try simp only [Act.put, List.setIfInBounds_toArray, List.set_cons_zero, List.set_cons_succ]
                        refine wpAnyM_more (S' := fun W => (W.cell? ⟨w.heap.size + 1, 0, none⟩ = some (.slice Ac cs.length cc) ∧ W.cell? (adw.add x.toNat) = some (.int .i64 (rd ws x))) ∧ W.cell? (ads.add (rd ws x).toNat) = some (.string (rdOf ByteArray.empty ca (rd ws x)))) (fun _ h => h.1) _ _ _ _ ?_
                        replace hHeld := And.intro hHeld hx2
                        refine wpAnyM_take [5, 6, 13, 15] (i := 5) (oi := _) (v := ?hv5x12d) rfl (by kernel_rfl) (fun _ _ _ h => h) (Or.inl ⟨by rfl, ?hy5x12d⟩) (by assumption) ?re5x12d
                        case hy5x12d => intro W hSw; (try dsimp only at hSw); go_simp; try with_reducible rfl
                        try simp only [Act.put, List.setIfInBounds_toArray, List.set_cons_zero, List.set_cons_succ]
                        refine wpAnyM_take [6, 13, 15] (i := 6) (oi := _) (v := ?hv6x12d) rfl (by kernel_rfl) (fun _ _ _ h => h) (Or.inl ⟨by rfl, ?hy6x12d⟩) (by assumption) ?re6x12d
                        case hy6x12d => intro W hSw; (try dsimp only at hSw); go_simp; try with_reducible rfl
                        try simp only [Act.put, List.setIfInBounds_toArray, List.set_cons_zero, List.set_cons_succ]
                        refine wpAnyM_one (i := 12) (o := _) (by kernel_rfl) rfl (fun K hK => ?_)
                        go_simp
                        try simp only [i64_w]
                        go_at_call 32
                        refine (wayzgoosekit_Dice_To.calls g _ _ _ _ _ _ _ w0 _ hT2.di hT2.bl hto).mono ?_
                        rintro e w3 ⟨rfl, hi3, hb3, hk3⟩
                        have hT3 := hT2.dice hi3 hb3 hk3
                        have hx3 := hT2.strs hs2 hk3 c4 c5
                        replace hBK := hk3.blk hBK hNg (by simp)
                        refine hK.out _ _ (fun _ => ⟨hL _ _ _ hT3, hx3⟩) (fun hHeld => ?_)
                        replace hHeld := hHeld (by decide)
                        clear hK
                        clear K
                        try simp only [Act.put, List.setIfInBounds_toArray, List.set_cons_zero, List.set_cons_succ]
                        refine wpAnyM_take [13, 15] (i := 13) (oi := _) (v := ?hv13x12e) rfl (by kernel_rfl) (fun _ _ _ h => h) (Or.inl ⟨by rfl, ?hy13x12e⟩) (by assumption) ?re13x12e
                        case hy13x12e => intro W hSw; (try dsimp only at hSw); go_simp; try with_reducible rfl
                        try simp only [Act.put, List.setIfInBounds_toArray, List.set_cons_zero, List.set_cons_succ]
                        have hq0 := (blk_cell hBK 0).trans rfl
                        have hq1 := (blk_cell hBK 1).trans rfl
                        have hq2 := (blk_cell hBK 2).trans rfl
                        have hq3 := (blk_cell hBK 3).trans rfl
                        have hf0 := blk_frozen hBK 0
                        have hf1 := blk_frozen hBK 1
                        have hf2 := blk_frozen hBK 2
                        have hf3 := blk_frozen hBK 3
                        obtain ⟨hBK2, hTe⟩ := hT3.fill hN hBK (.string (rdOf ByteArray.empty ca (rd ws x))) (.int .i64 u) (.int .i64 (-1)) (.slice none 0 0)
                        refine wpAnyM_one (i := 15) (o := _) (by kernel_rfl) rfl (fun K hK => ?_)
                        go_simp
                        refine hK.out _ _ (fun h => absurd (by decide) h) (fun _ => ?_)
                        clear hK
                        clear K
                        try simp only [Act.put, List.setIfInBounds_toArray, List.set_cons_zero, List.set_cons_succ]
                        refine wpAnyM_done (by kernel_rfl) ?_ _
                        try simp only [Act.put, List.setIfInBounds_toArray, List.set_cons_zero, List.set_cons_succ]
                        go_wp2
                        go_meet
                        case rel => exact ⟨_, rfl, hN, hBK2, hTe⟩
                    case rest =>
                      clear hTd hL hT
                      obtain ⟨hb, rfl, hN, hBK, hT⟩ := hcut
                      obtain ⟨w5, hw5⟩ : ∃ w5, w5 = wc := ⟨_, rfl⟩
                      subst hw5
                      go_upto_region 13 with (fail)
                      go_cut [80] (fun v80 wc => ∃ (kq : Nat) (b80 : Bool) (aq dq : Int), v80 = .bool b80 ∧ Aside0 (wayzgoosekit_TradesOf.j2 kq ws (ws.length : Int) x b80 s0_0 aq dq cs hs (rdOf ByteArray.empty ca (rd ws x)) u (-1) = some (r1, r2, r3, r4)) ∧ kq ≤ k2 ∧ wc.heap[hb]? = some (.cells #[.string (rdOf ByteArray.empty ca (rd ws x)), .int .i64 u, .int .i64 (-1), .slice none 0 0] 39 (0, 0)) ∧ TT w0 w wc g w.heap.size (w.heap.size + 1) s0_0 aq dq (.slice Ac cs.length cc) vh (.slice (some adw) ws.length cw) cs hs ws n)
                      case first =>
                        have h := H.out
                        by_cases c6 : (ws.length : Int) > 1
                        · rw [if_pos c6] at h
                          obtain ⟨⟨b80, a2', d2'⟩, hon, h⟩ := Option.bind_eq_some_iff.1 h
                          have H2 := Aside0.mk h
                          clear h H
                          have hgt1 : decide (1 < (ws.length : Int)) = true := decide_eq_true c6
                          have hgt2 : decide (1 < ws.length) = true := decide_eq_true (by omega)
                          go_wp2_with (go_at_call 41; go_loud ((with_reducible refine (wayzgoosekit_Dice_Once.calls g _ _ _ _ _ _ _ w0 _ hT.di hT.bl hon).mono ?_); rintro e w6 ⟨rfl, hi6, hb6, hk6⟩); have hT6 := hT.dice hi6 hb6 hk6; have hBK6 := hk6.blk hBK (by have := hT.gn; omega) (by simp))
                          go_meet
                          case rel => exact ⟨_, _, _, _, rfl, H2, Nat.le_refl _, hBK6, hT6⟩
                        · rw [if_neg c6] at h
                          have H2 := Aside0.mk h
                          clear h H
                          have hgt1 : decide (1 < (ws.length : Int)) = false := decide_eq_false c6
                          have hgt2 : decide (1 < ws.length) = false := decide_eq_false (by omega)
                          go_wp2
                          go_meet
                          case rel => exact ⟨_, _, _, _, rfl, H2, Nat.le_refl _, hBK, hT⟩
                      case rest =>
                        clear H hto hca hBK hT
                        obtain ⟨kq, b80, aq, dq, rfl, HJ, hkq, hBK, hT⟩ := hcut
                        cases kq with
                        | zero => exact absurd HJ.out (by simp [wayzgoosekit_TradesOf.j2])
                        | succ kj =>
                          have h := HJ.out
                          clear HJ
                          simp only [wayzgoosekit_TradesOf.j2] at h
                          obtain ⟨Ah, ch, rfl, hlh, -⟩ := Kd.S_reads hT.hh
                          obtain ⟨X, hX⟩ : ∃ X, X = (rdOf ByteArray.empty ca (rd ws x)) := ⟨_, rfl⟩
                          rw [← hX] at h hBK
                          clear hX
                          cases b80 with
                          | true =>
                            rw [if_pos rfl] at h
                            obtain ⟨⟨y, a3, d3⟩, hto, h⟩ := Option.bind_eq_some_iff.1 h
                            by_cases c7 : (ws.length : Int) = 0
                            · rw [if_pos c7] at h; cases h
                            · rw [if_neg c7] at h
                              by_cases c8 : hs.length < 2513169434916
                              · rw [if_pos c8] at h
                                obtain ⟨z, hz⟩ : ∃ z, Int.tmod (wrap64 (wrap64 (x + 1) + y)) (ws.length : Int) = z := ⟨_, rfl⟩
                                simp only [hz] at h
                                have H := Aside0.mk h
                                clear h
                                go_upto_region 14 with (fail)
                                have hTd := hT.all (below_drew (Below.refl _ _))
                                have hng : hb ≠ g := by have := hT.gn; omega
                                have c7b : ¬ ws.length = 0 := by omega
                                have c7c : ¬ ws = [] := by rintro rfl; exact c7b rfl
                                go_region_with ((try simp only [i64_w]); go_at_call 32; (with_reducible refine (wayzgoosekit_Dice_To.calls g _ _ _ _ _ _ _ w0 _ hTd.di hTd.bl hto).mono ?_); rintro e w6 ⟨rfl, hi6, hb6, hk6⟩; have hT6 := hTd.dice hi6 hb6 hk6; have hBK6 := hk6.blk (g' := hb) (o := .cells #[.string X, .int .i64 u, .int .i64 (-1), .slice none 0 0] 39) hBK hng (by simp); have hq1 := (blk_cell hBK6 1).trans rfl; have hq2 := (blk_cell hBK6 2).trans rfl; have hf1 := blk_frozen hBK6 1; have hf2 := blk_frozen hBK6 2)
                                simp only [i64_w]
                                rw [hz]
                                have hB7 := blk_put (blk_put hBK6 1 (.int .i64 (-1)) (cs' := #[.string X, .int .i64 (-1), .int .i64 (-1), .slice none 0 0]) rfl) 2 (.int .i64 z) (cs' := #[.string X, .int .i64 (-1), .int .i64 z, .slice none 0 0]) rfl
                                have hT7 := (hT6.put hN 1 (.int .i64 (-1))).put hN 2 (.int .i64 z)
                                obtain ⟨w7, hw7⟩ : ∃ W, W = (w6.setCell ⟨hb, 1, none⟩ (.int .i64 (-1))).setCell ⟨hb, 2, none⟩ (.int .i64 z) := ⟨_, rfl⟩
                                rw [← hw7] at hB7 hT7 ⊢
                                clear hw7 hq1 hq2 hf1 hf2 hBK6 hT6 hi6 hb6 hk6 hz hBK hT hTd
                                go_upto_region 15 with (fail)
                                have t0 := (blk_cell hT7.tt 0).trans rfl
                                have t1 := (blk_cell hT7.tt 1).trans rfl
                                have q0 := (blk_cell hB7 0).trans rfl
                                have q1 := (blk_cell hB7 1).trans rfl
                                have q2 := (blk_cell hB7 2).trans rfl
                                have q3 := (blk_cell hB7 3).trans rfl
                                go_wp2_with (at_builtin; go_loud (refine Kd.S_append k39 (w0 := w7) (W := w7) w.heap.size (by rfl) _ _ 24 39 _ 56 (by rfl) Try.underlying24 info39 (by rfl) (by decide) (by decide) (.slice Ah hs.length ch) hs ⟨X, -1, z, []⟩ [.string X, .int .i64 (-1), .int .i64 z, .slice none 0 0] (fun _ => True) (fun _ => False) (by rfl) (by rfl) (k39_mkM _ _ _ _ (Kd.R_nil _ _ _ _ _)) (fun _ h => h.elim) (fun _ _ => trivial) (Kd.S_mono hT7.hh (fun _ _ => ⟨trivial, fun h => h⟩)) (Below.refl _ _) hT7.kp.1 (by omega) ?_); intro v8 w8 hv8 hb8 hg8 hat8; obtain ⟨A8, n8, rfl⟩ := Kd.S_slice hv8; obtain ⟨hq8, hf8, hT8⟩ := hT7.heads hv8 hb8 hg8)
                                go_roundg kj
                                case measure => omega
                                case rel =>
                                  simp only [List.length_append, List.length_singleton] at hT8
                                  exact ⟨_, _, _, _, _, _, rfl, H, hT8⟩
                              · rw [if_neg c8] at h; cases h
                          | false =>
                            rw [if_neg (by simp)] at h
                            have H := Aside0.mk h
                            clear h
                            have hng : hb ≠ g := by have := hT.gn; omega
                            go_upto_region 17 with (fail)
                            go_wp2
                            go_loopg [14] kj (fun gk v14 wr => ∃ (j a d : Int) (ul : List Int) (vu : Value), v14 = .int .i64 j ∧ Aside0 (wayzgoosekit_TradesOf.l2 gk ws (ws.length : Int) x j s0_0 a d cs hs X u (-1) ul = some (r1, r2, r3, r4)) ∧ gk ≤ kj ∧ wr.heap[hb]? = some (.cells #[.string X, .int .i64 u, .int .i64 (-1), vu] 39 (0, 0)) ∧ Kd.R (Kd.int .i64) 3 wr w.heap.size (fun k => n ≤ k) vu ul ∧ TT w0 w wr g w.heap.size (w.heap.size + 1) s0_0 a d (.slice Ac cs.length cc) (.slice Ah hs.length ch) (.slice (some adw) ws.length cw) cs hs ws n)
                            case atStart => exact ⟨0, _, _, [], _, rfl, H, Nat.le_refl _, hBK, Kd.R_nil _ _ _ _ _, hT⟩
                            case round =>
                              clear H hBK hT
                              obtain ⟨j, a, d, ul, vu, rfl, HA, hgk, hBK, hu, hT⟩ := hrel
                              cases gk with
                              | zero => exact absurd HA.out (by simp [wayzgoosekit_TradesOf.l2])
                              | succ k4 =>
                                have h := HA.out
                                clear HA
                                simp only [wayzgoosekit_TradesOf.l2] at h
                                obtain ⟨Au, cu, rfl, hlu, -⟩ := Kd.R_reads hu
                                have b0 := (blk_cell hBK 0).trans rfl
                                have b1 := (blk_cell hBK 1).trans rfl
                                have b2 := (blk_cell hBK 2).trans rfl
                                have b3 := (blk_cell hBK 3).trans rfl
                                have g1 := blk_frozen hBK 1
                                have g3 := blk_frozen hBK 3
                                by_cases c6 : j < (ws.length : Int)
                                · rw [if_pos c6] at h
                                  have d6 : decide (j < (ws.length : Int)) = true := decide_eq_true c6
                                  by_cases c7 : j = x
                                  · rw [if_pos c7] at h
                                    have H := Aside0.mk h
                                    clear h
                                    have d7 : (j != x) = false := by rw [c7]; exact bne_self_eq_false x
                                    clear c7
                                    go_wp2
                                    go_roundg k4
                                    case measure => omega
                                    case rel => exact ⟨_, _, _, _, _, rfl, H, by omega, hBK, hu, hT⟩
                                  · rw [if_neg c7] at h
                                    have d7 : (j != x) = true := bne_iff_ne.mpr c7
                                    obtain ⟨⟨b, a2', d2'⟩, hon, h⟩ := Option.bind_eq_some_iff.1 h
                                    cases b with
                                    | true =>
                                      rw [if_pos rfl] at h
                                      by_cases c8 : ul.length < 17592186044416
                                      · rw [if_pos c8] at h
                                        have H := Aside0.mk h
                                        clear h
                                        go_wp2_with (first
                                          | (go_at_call 41; go_loud ((with_reducible refine (wayzgoosekit_Dice_Once.calls g _ _ _ _ _ _ _ w0 _ hT.di hT.bl hon).mono ?_); rintro e w6 ⟨rfl, hi6, hb6, hk6⟩); have hT6 := hT.dice hi6 hb6 hk6; have hBK6 := hk6.blk hBK hng (by simp); have hu6 := Kd.R_mono (Kd.R_keep (IsS72.apart hT.di hu (by decide)) hk6 (fun _ h => h.2)) (fun _ h => h.1); have c0 := (blk_cell hBK6 0).trans rfl; have c1 := (blk_cell hBK6 1).trans rfl; have c2 := (blk_cell hBK6 2).trans rfl; have c3 := (blk_cell hBK6 3).trans rfl; have f1 := blk_frozen hBK6 1; have f3 := blk_frozen hBK6 3)
                                          | (at_builtin; go_loud (refine Kd.R_append (Kd.int .i64) (w0 := w6) (W := w6) w.heap.size (by rfl) _ _ 22 3 (.int .i64 0) 8 (by rfl) Try.underlying22 infoI (by rfl) (by decide) (by decide) (.slice Au ul.length cu) ul j [.int .i64 j] (fun k => n ≤ k) (fun _ => False) (by rfl) (by rfl) rfl (fun _ h => h.elim) (fun k hk => Nat.le_trans hT6.nW hk) hu6 (Below.refl _ _) hT6.kp.1 (by omega) ?_); intro v8 w8 hv8 hb8 hg8 hat8; have hT8 := hT6.below ((Below.refl n w6).grown hg8 hT6.nW (fun k hk => hu6.1 k hk)); have hBK8 := blk_grown hBK6 hg8 (Kd.R_ne hu6 hBK6 (by decide)); obtain ⟨A8, n8, rfl⟩ := Kd.R_slice hv8; have c3 := (blk_cell hBK8 3).trans rfl; have f3 := blk_frozen hBK8 3))
                                        go_roundg k4
                                        case measure => omega
                                        case rel =>
                                          obtain ⟨hB9, hu9⟩ := also_put hBK8 hv8
                                          have hT9 := hT8.put hN 3 (.slice A8 (ul ++ [j]).length n8)
                                          simp only [List.length_append, List.length_singleton] at hB9 hu9 hT9
                                          exact ⟨_, _, _, _, _, rfl, H, by omega, hB9, hu9, hT9⟩
                                      · rw [if_neg c8] at h; cases h
                                    | false =>
                                      rw [if_neg (by simp)] at h
                                      have H := Aside0.mk h
                                      clear h
                                      go_wp2_with (go_at_call 41; go_loud ((with_reducible refine (wayzgoosekit_Dice_Once.calls g _ _ _ _ _ _ _ w0 _ hT.di hT.bl hon).mono ?_); rintro e w6 ⟨rfl, hi6, hb6, hk6⟩); have hT6 := hT.dice hi6 hb6 hk6; have hBK6 := hk6.blk hBK hng (by simp); have hu6 := Kd.R_mono (Kd.R_keep (IsS72.apart hT.di hu (by decide)) hk6 (fun _ h => h.2)) (fun _ h => h.1); have c0 := (blk_cell hBK6 0).trans rfl; have c1 := (blk_cell hBK6 1).trans rfl; have c2 := (blk_cell hBK6 2).trans rfl; have c3 := (blk_cell hBK6 3).trans rfl; have f1 := blk_frozen hBK6 1; have f3 := blk_frozen hBK6 3)
                                      go_roundg k4
                                      case measure => omega
                                      case rel => exact ⟨_, _, _, _, _, rfl, H, by omega, hBK6, hu6, hT6⟩
                                · rw [if_neg c6] at h
                                  have d6 : decide (j < (ws.length : Int)) = false := decide_eq_false c6
                                  by_cases c7 : (ul.length : Int) > 0
                                  · rw [if_pos c7] at h
                                    have d7 : decide (0 < (ul.length : Int)) = true := decide_eq_true c7
                                    have d7b : decide (0 < ul.length) = true := decide_eq_true (by omega)
                                    obtain ⟨⟨b, a2', d2'⟩, hon, h⟩ := Option.bind_eq_some_iff.1 h
                                    cases b with
                                    | true =>
                                      rw [if_pos rfl] at h
                                      by_cases c8 : hs.length < 2513169434916
                                      · rw [if_pos c8] at h
                                        have H := Aside0.mk h
                                        clear h
                                        go_upto_region 23 with (go_at_call 41; go_loud ((with_reducible refine (wayzgoosekit_Dice_Once.calls g _ _ _ _ _ _ _ w0 _ hT.di hT.bl hon).mono ?_); rintro e w6 ⟨rfl, hi6, hb6, hk6⟩); have hT6 := hT.dice hi6 hb6 hk6; have hBK6 := hk6.blk hBK hng (by simp); have hu6 := Kd.R_mono (Kd.R_keep (IsS72.apart hT.di hu (by decide)) hk6 (fun _ h => h.2)) (fun _ h => h.1); have c0 := (blk_cell hBK6 0).trans rfl; have c1 := (blk_cell hBK6 1).trans rfl; have c2 := (blk_cell hBK6 2).trans rfl; have c3 := (blk_cell hBK6 3).trans rfl; have f1 := blk_frozen hBK6 1; have f3 := blk_frozen hBK6 3)
                                        obtain ⟨w7, hw7⟩ : ∃ W, W = w6.setCell ⟨hb, 1, none⟩ (.int .i64 (-1)) := ⟨_, rfl⟩
                                        have hB7 := blk_put hBK6 1 (.int .i64 (-1)) (cs' := #[.string X, .int .i64 (-1), .int .i64 (-1), .slice Au ul.length cu]) rfl
                                        have hT7 := hT6.put hN 1 (.int .i64 (-1))
                                        have hu7 := Kd.R_mono (Kd.R_far (p := ⟨hb, 1, none⟩) (Kd.R_types hu6 hBK6 (by decide)) (fun _ h => h.2) (.int .i64 (-1))) (fun _ h => h.1)
                                        rw [← hw7] at hB7 hT7 hu7 ⊢
                                        clear hw7 c0 c1 c2 c3 f1 f3 hBK6 hT6 hu6 b0 b1 b2 b3 g1 g3
                                        have t0 := (blk_cell hT7.tt 0).trans rfl
                                        have t1 := (blk_cell hT7.tt 1).trans rfl
                                        have q0 := (blk_cell hB7 0).trans rfl
                                        have q1 := (blk_cell hB7 1).trans rfl
                                        have q2 := (blk_cell hB7 2).trans rfl
                                        have q3 := (blk_cell hB7 3).trans rfl
                                        go_wp2_with (at_builtin; go_loud (refine Kd.S_append k39 (w0 := w7) (W := w7) w.heap.size (by rfl) _ _ 24 39 _ 56 (by rfl) Try.underlying24 info39 (by rfl) (by decide) (by decide) (.slice Ah hs.length ch) hs ⟨X, -1, -1, ul⟩ [.string X, .int .i64 (-1), .int .i64 (-1), .slice Au ul.length cu] (fun _ => True) (fun k => n ≤ k) (by rfl) (by rfl) (k39_mkM _ _ _ _ hu7) (fun k hk => ⟨trivial, fun e => by have := ((Kd.S_R hT7.hh).1 k e.symm).1; omega⟩) (fun _ _ => trivial) (Kd.S_mono hT7.hh (fun k hk => ⟨trivial, by omega⟩)) (Below.refl _ _) hT7.kp.1 (by omega) ?_); intro v8 w8 hv8 hb8 hg8 hat8; obtain ⟨A8, n8, rfl⟩ := Kd.S_slice hv8; obtain ⟨hq8, hf8, hT8⟩ := hT7.heads hv8 hb8 hg8)
                                        go_roundg k4
                                        case measure => omega
                                        case rel =>
                                          simp only [List.length_append, List.length_singleton] at hT8
                                          exact ⟨_, _, _, _, _, _, rfl, H, hT8⟩
                                      · rw [if_neg c8] at h; cases h
                                    | false =>
                                      rw [if_neg (by simp)] at h
                                      by_cases c8 : hs.length < 2513169434916
                                      · rw [if_pos c8] at h
                                        have H := Aside0.mk h
                                        clear h
                                        go_upto_region 23 with (go_at_call 41; go_loud ((with_reducible refine (wayzgoosekit_Dice_Once.calls g _ _ _ _ _ _ _ w0 _ hT.di hT.bl hon).mono ?_); rintro e w6 ⟨rfl, hi6, hb6, hk6⟩); have hT6 := hT.dice hi6 hb6 hk6; have hBK6 := hk6.blk hBK hng (by simp); have hu6 := Kd.R_mono (Kd.R_keep (IsS72.apart hT.di hu (by decide)) hk6 (fun _ h => h.2)) (fun _ h => h.1); have c0 := (blk_cell hBK6 0).trans rfl; have c1 := (blk_cell hBK6 1).trans rfl; have c2 := (blk_cell hBK6 2).trans rfl; have c3 := (blk_cell hBK6 3).trans rfl; have f1 := blk_frozen hBK6 1; have f3 := blk_frozen hBK6 3)
                                        clear c0 c1 c2 c3 f1 f3 b0 b1 b2 b3 g1 g3
                                        obtain ⟨w7, hw7⟩ : ∃ W, W = w6 := ⟨_, rfl⟩
                                        have hB7 := hBK6
                                        have hT7 := hT6
                                        have hu7 := hu6
                                        rw [← hw7] at hB7 hT7 hu7 ⊢
                                        clear hw7
                                        have t0 := (blk_cell hT7.tt 0).trans rfl
                                        have t1 := (blk_cell hT7.tt 1).trans rfl
                                        have q0 := (blk_cell hB7 0).trans rfl
                                        have q1 := (blk_cell hB7 1).trans rfl
                                        have q2 := (blk_cell hB7 2).trans rfl
                                        have q3 := (blk_cell hB7 3).trans rfl
                                        go_wp2_with (at_builtin; go_loud (refine Kd.S_append k39 (w0 := w7) (W := w7) w.heap.size (by rfl) _ _ 24 39 _ 56 (by rfl) Try.underlying24 info39 (by rfl) (by decide) (by decide) (.slice Ah hs.length ch) hs ⟨X, u, -1, ul⟩ [.string X, .int .i64 u, .int .i64 (-1), .slice Au ul.length cu] (fun _ => True) (fun k => n ≤ k) (by rfl) (by rfl) (k39_mkM _ _ _ _ hu7) (fun k hk => ⟨trivial, fun e => by have := ((Kd.S_R hT7.hh).1 k e.symm).1; omega⟩) (fun _ _ => trivial) (Kd.S_mono hT7.hh (fun k hk => ⟨trivial, by omega⟩)) (Below.refl _ _) hT7.kp.1 (by omega) ?_); intro v8 w8 hv8 hb8 hg8 hat8; obtain ⟨A8, n8, rfl⟩ := Kd.S_slice hv8; obtain ⟨hq8, hf8, hT8⟩ := hT7.heads hv8 hb8 hg8)
                                        go_roundg k4
                                        case measure => omega
                                        case rel =>
                                          simp only [List.length_append, List.length_singleton] at hT8
                                          exact ⟨_, _, _, _, _, _, rfl, H, hT8⟩
                                      · rw [if_neg c8] at h; cases h
                                  · rw [if_neg c7] at h
                                    have d7 : decide (0 < (ul.length : Int)) = false := decide_eq_false c7
                                    have d7b : decide (0 < ul.length) = false := decide_eq_false (by omega)
                                    by_cases c8 : hs.length < 2513169434916
                                    · rw [if_pos c8] at h
                                      have H := Aside0.mk h
                                      clear h
                                      go_upto_region 23 with (fail)
                                      obtain ⟨w7, hw7⟩ : ∃ W, W = wr := ⟨_, rfl⟩
                                      have hB7 := hBK
                                      have hT7 := hT
                                      have hu7 := hu
                                      rw [← hw7] at hB7 hT7 hu7 ⊢
                                      clear hw7 b0 b1 b2 b3 g1 g3
                                      have t0 := (blk_cell hT7.tt 0).trans rfl
                                      have t1 := (blk_cell hT7.tt 1).trans rfl
                                      have q0 := (blk_cell hB7 0).trans rfl
                                      have q1 := (blk_cell hB7 1).trans rfl
                                      have q2 := (blk_cell hB7 2).trans rfl
                                      have q3 := (blk_cell hB7 3).trans rfl
                                      go_wp2_with (at_builtin; go_loud (refine Kd.S_append k39 (w0 := w7) (W := w7) w.heap.size (by rfl) _ _ 24 39 _ 56 (by rfl) Try.underlying24 info39 (by rfl) (by decide) (by decide) (.slice Ah hs.length ch) hs ⟨X, u, -1, ul⟩ [.string X, .int .i64 u, .int .i64 (-1), .slice Au ul.length cu] (fun _ => True) (fun k => n ≤ k) (by rfl) (by rfl) (k39_mkM _ _ _ _ hu7) (fun k hk => ⟨trivial, fun e => by have := ((Kd.S_R hT7.hh).1 k e.symm).1; omega⟩) (fun _ _ => trivial) (Kd.S_mono hT7.hh (fun k hk => ⟨trivial, by omega⟩)) (Below.refl _ _) hT7.kp.1 (by omega) ?_); intro v8 w8 hv8 hb8 hg8 hat8; obtain ⟨A8, n8, rfl⟩ := Kd.S_slice hv8; obtain ⟨hq8, hf8, hT8⟩ := hT7.heads hv8 hb8 hg8)
                                      go_roundg k4
                                      case measure => omega
                                      case rel =>
                                        simp only [List.length_append, List.length_singleton] at hT8
                                        exact ⟨_, _, _, _, _, _, rfl, H, hT8⟩
                                    · rw [if_neg c8] at h; cases h
                  · rw [if_neg c5] at h; cases h
                · rw [if_neg c4] at h; cases h
              · rw [if_neg c2] at h; cases h
            · rw [if_neg c1] at h
              have hlt : decide (x < (ws.length : Int)) = false := decide_eq_false c1
              simp only [Option.some.injEq, Prod.mk.injEq] at h
              obtain ⟨rfl, rfl, rfl, rfl⟩ := h
              obtain ⟨Ah, ch, rfl, hlh, -⟩ := Kd.S_reads hT.hh
              have hc0 := (blk_cell hT.tt 0).trans rfl
              have hc1 := (blk_cell hT.tt 1).trans rfl
              have hb0 := (blk_cell hT.box 0).trans rfl
              have hb1 := (blk_cell hT.box 1).trans rfl
              have hf0 := blk_frozen hT.box 0
              have hf1 := blk_frozen hT.box 1
              obtain ⟨hq, hRq, hSq, hIq, hBq, hKq⟩ := hT.final
              go_wp2
              refine bodyPost_ret (results_cell_row rfl _ _ w.heap.size 26 #[.slice Ac cs.length cc, .slice Ah hs.length ch] (0, 0) _ rfl hq Try.underlying26 rfl (by kernel_rfl)) rfl ?_
              exact ⟨_, _, rfl, hRq, hSq, hIq, hBq, hKq⟩
end Go.Proofs.Ytfbimhnlcmdcpaa.Pa
/- The contract of nets. -/
namespace Go.Proofs.Ytfbimhnlcmdcpaa.Pa
open Go.RowKit Go.Proofs.YtfbimhnlcmdcpaaW.PrintWords Go.Proofs.YtfbimhnlcmdcpaaW.PrintLast Go.Proofs.YtfbimhnlcmdcpaaW.PrintMore
set_option linter.unusedVariables false
set_option linter.unusedSimpArgs false

theorem stN_full (hs : List Hd) (k : Nat) : stN hs k (nextT (hs.getD k zHd)).length = stN hs (k + 1) 0 := by
  funext i
  unfold stN
  by_cases h1 : i < k
  · rw [if_pos h1, if_pos (by omega)]
  · by_cases h2 : i = k
    · subst h2
      rw [if_neg h1, if_pos rfl, if_pos (by omega), List.take_length]
    · rw [if_neg h1, if_neg h2, if_neg (by omega)]
      split <;> rfl
theorem stN_next (hs : List Hd) (k j : Nat) (L : List Int) (hL : nextT (hs.getD k zHd) = L) (p : Nat) (hj : j < L.length) (hp : L.getD j 0 = p) : upd (stN hs k j) k (stN hs k j k ||| 2 ^ p) = stN hs k (j + 1) := by
  funext i
  unfold upd stN
  by_cases h2 : i = k
  · subst h2
    rw [if_pos rfl, if_neg (by omega), if_pos rfl, if_neg (by omega), if_pos rfl, hL, List.take_succ_eq_append_getElem hj]
    unfold addAll
    rw [List.foldl_append]
    have : L[j] = (p : Int) := by rw [← hp, List.getD_eq_getElem?_getD, List.getElem?_eq_getElem hj]; rfl
    simp [this]
  · rw [if_neg h2, if_neg h2, if_neg h2]
theorem stN_lt {cs : List Cl} {hs : List Hd} (hv : Valid cs hs) (k j : Nat) (hk : k < hs.length) (i : Nat) : stN hs k j i < 256 := by
  have m1 := hv.split.2.1
  have key : ∀ q, q < hs.length → ∀ n, n ∈ nextT (hs.getD q zHd) → n < 8 := fun q hq n hn => by
    obtain ⟨j, hj, rfl⟩ := List.mem_iff_getElem.1 hn
    obtain ⟨p, hp, hpl⟩ := nextT_in hv q hq j hj
    rw [List.getD_eq_getElem?_getD, List.getElem?_eq_getElem hj] at hp
    have : (nextT (hs.getD q zHd))[j] = (p : Int) := hp
    omega
  unfold stN
  split
  · exact addAll_lt _ (key i (by omega)) 0 (by omega)
  · split
    · exact addAll_lt _ (fun n hn => key k hk n (List.mem_of_mem_take hn)) 0 (by omega)
    · omega
def netVal (st : Nat → Nat) : Value := .agg #[.int .u8 (st 0), .int .u8 (st 1), .int .u8 (st 2), .int .u8 (st 3), .int .u8 (st 4), .int .u8 (st 5)]
def netT (hs : List Hd) : Nat → Nat := stN hs hs.length 0

theorem cells6 {w : World} {b : Nat} {t : TypeId} {a0 a1 a2 a3 a4 a5 : Value} (hb : w.heap[b]? = some (.cells #[a0, a1, a2, a3, a4, a5] t (0, 0))) :
    w.cell? ⟨b, 0, none⟩ = some a0 ∧ w.cell? ⟨b, 1, none⟩ = some a1 ∧ w.cell? ⟨b, 2, none⟩ = some a2 ∧ w.cell? ⟨b, 3, none⟩ = some a3 ∧ w.cell? ⟨b, 4, none⟩ = some a4 ∧ w.cell? ⟨b, 5, none⟩ = some a5 := by
  refine ⟨?_, ?_, ?_, ?_, ?_, ?_⟩ <;> simp [World.cell?, hb]

theorem results_c1 {P : Program} {fn : Func} {p : Tmp} {ty : TypeId} (h : fn.results = #[.cell p ty]) (tmps : Array Value) (w : World) (g : Nat) (t : TypeId) (cs : Array Value) (fr : Nat × Nat) (d : TypeDesc)
    (hp : tmps.getD p undef = .pointer (some ⟨g, 0, none⟩)) (hg : w.heap[g]? = some (.cells cs t fr))
    (hu : P.underlying ty = some d) (hd : (match d with | .struct _ | .array _ _ => true | _ => false) = true) (hi : (P.info? ty).map (·.size) = some cs.size) :
    (results fn tmps).run P w = .ok (.agg cs) w := by
  have hp' : tmps[p]?.getD undef = .pointer (some ⟨g, 0, none⟩) := by simpa using hp
  simp [results, h, hp', asAddr, run_loadVar_row w g t ty cs fr d hg hu hd hi]

set_option maxHeartbeats 4000000 in
set_option maxRecDepth 100000 in
theorem nets_any (g : Nat) (cs : List Cl) (hs : List Hd) (w : World) (hL : IsList w g cs hs) (hv : Valid cs hs) :
    Calls Try.prog 87 #[.pointer (some ⟨g, 0, none⟩)] w fun e w' => e = .returned (netVal (netT hs)) ∧ Below w.heap.size w w' := by
  obtain ⟨m0, m1, -, -⟩ := hv.split
  have hu3 := Try.underlying81
  have hun := Try.underlying134
  obtain ⟨A0, c0, A1, c1, A2, c2, A3, c3, hg, l0, l1, r0, r1, r2, r3⟩ := hL.ok
  obtain ⟨g0, g1, g2, g3⟩ := cells4 hg
  have hz : ∀ i, stN hs 0 0 i = 0 := fun i => by unfold stN; split; omega; split <;> rfl
  have hN : Hid (netT hs = stN hs hs.length 0) := rfl
  obtain ⟨T, hT⟩ : ∃ T, netT hs = T := ⟨_, rfl⟩
  rw [hT] at hN ⊢
  clear hL hT
  have HZ : Hid (netCells (stN hs 0 0) = #[.int .u8 0, .int .u8 0, .int .u8 0, .int .u8 0, .int .u8 0, .int .u8 0]) := by show _ = _; simp only [netCells, hz]; rfl
  clear hz
  have hglt : g < w.heap.size := World.block_lt_of_cell? _ _ g3
  have eg := World.new_ne w ⟨g, 3, none⟩ g3
  have eg2 : g ≠ w.heap.size + 1 := by omega
  go_enter Try.func87, Try.ntmps87
  go_wp2
  go_loopg [13] hs.length (fun gk v wr => ∃ k : Nat, k + gk = hs.length ∧ v = .int .i64 k ∧ wr.heap[w.heap.size]? = some (.cells #[.int .u8 0, .int .u8 0, .int .u8 0, .int .u8 0, .int .u8 0, .int .u8 0] 134 (0, 0)) ∧ wr.heap[w.heap.size + 1]? = some (.cells (netCells (stN hs k 0)) 134 (0, 0)) ∧ Below w.heap.size w wr)
  case atStart =>
    refine ⟨0, by omega, rfl, ?_, ?_, ((Below.refl w.heap.size w).alloc (Nat.le_refl _) _).alloc (by simp) _⟩
    · exact blk_below (heap_alloc_new w _) ((Below.refl _ _).alloc (Nat.le_refl _) _)
    · rw [HZ.out]
      have := heap_alloc_new (w.alloc (.cells #[.int .u8 0, .int .u8 0, .int .u8 0, .int .u8 0, .int .u8 0, .int .u8 0] 134)) (.cells #[.int .u8 0, .int .u8 0, .int .u8 0, .int .u8 0, .int .u8 0, .int .u8 0] 134)
      rwa [World.size_alloc] at this
  case round =>
    obtain ⟨k, hk, rfl, hr, hx, hb⟩ := hrel
    by_cases hlt : k < hs.length
    · have q3 := pw_cell_below hb g3
      obtain ⟨ad, v, e, hcv, hkv⟩ := kindAt (Kd.C_below r3 hb) k hlt
      cases e
      have hkv0 : KindVal w (hs.getD k zHd) v := by
        obtain ⟨ad', v', e', hcv', hkv'⟩ := kindAt r3 k hlt
        have : v = v' := by
          cases e'
          have := pw_cell_below hb hcv'
          rw [hcv] at this
          exact Option.some.inj this
        rw [this]; exact hkv'
      have HIn := fun j hj => nextT_in hv k hlt j hj
      have HSt := fun j => stN_lt hv k j hlt k
      have HFu := Lib.hid (stN_full hs k)
      have HNx := fun L hL j p hj hp => Lib.hid (stN_next hs k j L hL p hj hp)
      have hnx := next_any hkv0 (w.heap.size + 1) (by omega)
      obtain ⟨L, hL⟩ : ∃ L, nextT (hs.getD k zHd) = L := ⟨_, rfl⟩
      rw [hL] at HIn HFu hnx
      replace HNx := HNx L hL
      clear hL hkv hkv0
      rcases hnx with ⟨-, pv, rfl, HN⟩ | ⟨-, -, pv, rfl, HN⟩ | ⟨-, -, pv, rfl, HN⟩
      all_goals
        have HN := HN wr hb (blk_lt hx)
        have hm1 := fun n W => meth_ptr n pv W
        have hm2 := fun n W => meth_art n pv W
        have hm3 := fun n W => meth_idx n pv W
        go_wp2_with (first
          | (go_at_call 141; (with_reducible refine HN.mono ?_); rintro e W2 ⟨Ax, cx, rfl, hb2, hC⟩; have hx2 := blk_below hx hb2; have hr2 := blk_below hr hb2; have HB2 := below_then hb hb.size hb2; clear hx hr hb hb2)
          | (go_at_call 140; (with_reducible refine HN.mono ?_); rintro e W2 ⟨Ax, cx, rfl, hb2, hC⟩; have hx2 := blk_below hx hb2; have hr2 := blk_below hr hb2; have HB2 := below_then hb hb.size hb2; clear hx hr hb hb2)
          | (go_at_call 142; (with_reducible refine HN.mono ?_); rintro e W2 ⟨Ax, cx, rfl, hb2, hC⟩; have hx2 := blk_below hx hb2; have hr2 := blk_below hr hb2; have HB2 := below_then hb hb.size hb2; clear hx hr hb hb2))
        go_loopg [21] L.length (fun gj v wr => ∃ j : Nat, j + gj = L.length ∧ v = .int .i64 j ∧ W2.grownBy wr (some (w.heap.size + 1)) ∧ wr.heap[w.heap.size + 1]? = some (.cells (netCells (stN hs k j)) 134 (0, 0)))
        case atStart => exact ⟨0, by omega, rfl, World.grownBy.refl _ _, hx2⟩
        case round =>
          obtain ⟨j, hj, rfl, hgr, hx⟩ := hrel
          by_cases hjl : j < L.length
          · obtain ⟨p, hp, hpl⟩ := HIn j hjl
            obtain ⟨aj, ej, hcj⟩ := intAt (hC wr hgr) j hjl
            cases ej
            rw [hp] at hcj
            have hLm : L.length ≤ 9223372036854775807 := (hC wr hgr).2.1
            have hck := netCells_get hx k (by omega)
            have hfz := blk_frozen hx k
            have HW := fun W => heads_with (stN hs k j k) p (HSt j) (by omega) W
            have HNj := HNx j p hjl hp
            obtain ⟨S, hS⟩ : ∃ S, stN hs k j k = S := ⟨_, rfl⟩
            rw [hS] at hck HNj
            simp only [hS] at HW
            have hxn := netCells_set hx (S ||| 2 ^ p) k (by omega)
            rw [HNj.out] at hxn
            have HXn := Lib.hid hxn
            have hk6 : (k : Int) < 6 := by omega
            clear hS hxn HNj
            go_wp2_with (go_at_call 74; (with_reducible refine (HW _).mono ?_); rintro e w5 ⟨rfl, rfl⟩)
            go_roundg (L.length - (j + 1))
            case measure => omega
            case rel => exact ⟨j + 1, by omega, by go_num, hgr.trans (grownBy_setCell _ _ _), HXn.out⟩
          · obtain rfl : j = L.length := by omega
            rw [HFu.out] at hx
            have hr3 := (hgr.block w.heap.size (blk_lt hr2) (by simp)).trans hr2
            have HB3 := HB2.grown hgr HB2.size (fun q hq => by cases hq; omega)
            go_wp2
            go_roundg (hs.length - (k + 1))
            case measure => omega
            case rel => exact ⟨k + 1, by omega, by go_num, hr3, hx, HB3⟩
    · obtain rfl : k = hs.length := by omega
      rw [← hN.out] at hx
      obtain ⟨x0, x1, x2, x3, x4, x5⟩ := cells6 hx
      obtain ⟨z0, z1, z2, z3, z4, z5⟩ := cells6 hr
      have zf := fun j => blk_frozen hr j
      have hne : w.heap.size ≠ w.heap.size + 1 := by omega
      have hq := netCells_set (netCells_set (netCells_set (netCells_set (netCells_set (netCells_set (st := fun _ => 0) (b := w.heap.size) hr (T 0) 0 (by omega)) (T 1) 1 (by omega)) (T 2) 2 (by omega)) (T 3) 3 (by omega)) (T 4) 4 (by omega)) (T 5) 5 (by omega)
      have hB2 := (((((hb.setCell (p := ⟨w.heap.size, 0, none⟩) (Nat.le_refl _) (.int .u8 (T 0))).setCell (p := ⟨w.heap.size, 1, none⟩) (Nat.le_refl _) (.int .u8 (T 1))).setCell (p := ⟨w.heap.size, 2, none⟩) (Nat.le_refl _) (.int .u8 (T 2))).setCell (p := ⟨w.heap.size, 3, none⟩) (Nat.le_refl _) (.int .u8 (T 3))).setCell (p := ⟨w.heap.size, 4, none⟩) (Nat.le_refl _) (.int .u8 (T 4))).setCell (p := ⟨w.heap.size, 5, none⟩) (Nat.le_refl _) (.int .u8 (T 5))
      have HQ := Lib.hid hq
      clear hq
      go_wp2
      refine bodyPost_ret (results_c1 rfl _ _ _ _ _ _ _ rfl HQ.out hun rfl (by kernel_rfl)) rfl ?_
      exact ⟨rfl, hB2⟩
end Go.Proofs.Ytfbimhnlcmdcpaa.Pa
/- The contract of found. -/
namespace Go.Proofs.Ytfbimhnlcmdcpaa.Pa
open Go.RowKit Go.Proofs.YtfbimhnlcmdcpaaW.PrintWords Go.Proofs.YtfbimhnlcmdcpaaW.PrintLast Go.Proofs.YtfbimhnlcmdcpaaW.PrintMore
set_option linter.unusedVariables false
set_option linter.unusedSimpArgs false

/-- one step more, over the first k headings -/
def stepS (st : Nat → Nat) (all : Nat) : Nat → Nat
  | 0 => all
  | k + 1 => if all.testBit k = true then stepS st all k ||| st k else stepS st all k
def foundS (st : Nat → Nat) (a : Nat) : Nat → Nat
  | 0 => a
  | n + 1 => stepS st (foundS st a n) 6
theorem or8 {a b : Nat} (ha : a < 256) (hb : b < 256) : a ||| b < 256 := Nat.or_lt_two_pow (n := 8) ha hb
theorem stepS_lt {st : Nat → Nat} (hs : ∀ i, st i < 256) {all : Nat} (ha : all < 256) : ∀ k, stepS st all k < 256
  | 0 => ha
  | k + 1 => by
    have ih := stepS_lt hs ha k
    show (if _ then _ else _) < 256
    split
    · exact or8 ih (hs k)
    · exact ih
theorem foundS_lt {st : Nat → Nat} (hs : ∀ i, st i < 256) {a : Nat} (ha : a < 256) : ∀ n, foundS st a n < 256
  | 0 => ha
  | n + 1 => stepS_lt hs (foundS_lt hs ha n) 6

theorem index_net (st : Nat → Nat) (W : World) : ∀ i : Nat, i < 6 → Sem.run Try.prog (Instr.index 134 (.agg #[.int .u8 (st 0), .int .u8 (st 1), .int .u8 (st 2), .int .u8 (st 3), .int .u8 (st 4), .int .u8 (st 5)]) (.int .i64 i)) W = .ok (.int .u8 (st i)) W := by
  apply six <;> kernel_rfl

set_option maxHeartbeats 2000000 in
set_option maxRecDepth 100000 in
theorem found_any (st : Nat → Nat) (hs : ∀ i, st i < 256) (h n : Nat) (hh : h < 8) (hn : n ≤ 6) (w : World) :
    Calls Try.prog 90 #[netVal st, .int .i64 h, .int .i64 n] w fun e w' => e = .returned (.int .u8 (foundS st (2 ^ h) n : Int)) ∧ Below w.heap.size w w' := by
  have hun := Try.underlying134
  have hB0 := (Below.refl w.heap.size w).alloc (Nat.le_refl _) (.cells (netCells st) 134)
  have hbx := heap_alloc_new w (.cells (netCells st) 134)
  have HW0 := fun W => heads_with0 h hh W
  have hp8 := pow_lt h hh
  have HF : Hid (foundS st (2 ^ h) 0 = 2 ^ h) := rfl
  have hl := foundS_lt hs hp8
  have hsl := fun {all} ha k => stepS_lt (all := all) hs ha k
  have HFn : ∀ k, Hid (foundS st (2 ^ h) (k + 1) = stepS st (foundS st (2 ^ h) k) 6) := fun k => rfl
  obtain ⟨P, hP⟩ : ∃ P, 2 ^ h = P := ⟨_, rfl⟩
  rw [hP] at hp8 HF
  simp only [hP] at HW0 HFn hl ⊢
  clear hP
  simp only [netVal]
  go_enter Try.func90, Try.ntmps90
  go_wp2_with (go_at_call 74; (with_reducible refine (HW0 _).mono ?_); rintro e w5 ⟨rfl, rfl⟩)
  simp only [netCells] at hB0 hbx
  obtain ⟨W1, hW1⟩ : ∃ W1, W1 = w.alloc (.cells #[.int .u8 (st 0), .int .u8 (st 1), .int .u8 (st 2), .int .u8 (st 3), .int .u8 (st 4), .int .u8 (st 5)] 134) := ⟨_, rfl⟩
  rw [← hW1] at hB0 hbx ⊢
  clear hW1
  go_loopg [7, 14] n (fun gk v7 v wr => ∃ k : Nat, k + gk = n ∧ v = .int .i64 k ∧ v7 = .int .u8 (foundS st P k : Int) ∧ W1 = wr)
  case atStart => exact ⟨0, by omega, rfl, by rw [HF.out], rfl⟩
  case round =>
    obtain ⟨k, hk, rfl, rfl, rfl⟩ := hrel
    by_cases hlt : k < n
    · obtain ⟨x0, x1, x2, x3, x4, x5⟩ := cells6 hbx
      have HFk := HFn k
      have hlk := hl k
      obtain ⟨S, hS⟩ : ∃ S, foundS st P k = S := ⟨_, rfl⟩
      rw [hS] at HFk hlk ⊢
      clear hS
      go_wp2
      go_loopg [8, 18] 6 (fun gk v7 v wr => ∃ k : Nat, k + gk = 6 ∧ v = .int .i64 k ∧ v7 = .int .u8 (stepS st S k : Int) ∧ W1 = wr)
      case atStart => exact ⟨0, by omega, rfl, rfl, rfl⟩
      case round =>
        obtain ⟨i, hi, rfl, rfl, rfl⟩ := hrel
        by_cases hlt6 : i < 6
        · have HH := fun W => heads_has S i hlk (by omega) W
          have HB : Hid (stepS st S (i + 1) = if S.testBit i = true then stepS st S i ||| st i else stepS st S i) := rfl
          have hli := hsl hlk i
          have HO := Lib.hid (bitsOr (stepS st S i) (st i) hli (hs i))
          obtain ⟨b, hb⟩ : ∃ b, S.testBit i = b := ⟨_, rfl⟩
          rw [hb] at HB
          simp only [hb] at HH
          have hix := fun W => index_net st W i hlt6
          have hi6 : (i : Int) < 6 := by omega
          clear hb
          cases b with
          | true =>
            have HB2 : Hid (stepS st S (i + 1) = stepS st S i ||| st i) := by show _ = _; rw [HB.out]; rfl
            have hor := HO.out
            go_wp2_with (go_at_call 75; (with_reducible refine (HH _).mono ?_); rintro e w5 ⟨rfl, rfl⟩)
            go_roundg (6 - (i + 1))
            case measure => omega
            case rel => exact ⟨i + 1, by omega, by go_num, by rw [HB2.out], rfl⟩
          | false =>
            have HB2 : Hid (stepS st S (i + 1) = stepS st S i) := by show _ = _; rw [HB.out]; rfl
            go_wp2_with (go_at_call 75; (with_reducible refine (HH _).mono ?_); rintro e w5 ⟨rfl, rfl⟩)
            go_roundg (6 - (i + 1))
            case measure => omega
            case rel => exact ⟨i + 1, by omega, by go_num, by rw [HB2.out], rfl⟩
        · obtain rfl : i = 6 := by omega
          rw [← HFk.out]
          go_wp2
          go_roundg (n - (k + 1))
          case measure => omega
          case rel => exact ⟨k + 1, by omega, by go_num, rfl, rfl⟩
    · obtain rfl : k = n := by omega
      go_wp2
      go_ret
      exact ⟨rfl, hB0⟩
end Go.Proofs.Ytfbimhnlcmdcpaa.Pa
/- The contract of join's test: is no trade hidden, some references added. -/
namespace Go.Proofs.Ytfbimhnlcmdcpaa.Pa
open Go.RowKit Go.Proofs.YtfbimhnlcmdcpaaW.PrintWords Go.Proofs.YtfbimhnlcmdcpaaW.PrintLast Go.Proofs.YtfbimhnlcmdcpaaW.PrintMore
set_option linter.unusedVariables false
set_option linter.unusedSimpArgs false

abbrev Rf := Nat × Nat
def kRf : Kd Rf := Kd.iso (Kd.pair (Kd.int .i64) (Kd.int .i64)) (fun r : Rf => ((r.1 : Int), (r.2 : Int)))
theorem kRf_open {w : World} {x : Rf} {cs : List Value} (h : kRf.K w x cs) : cs = [.int .i64 (x.1 : Int), .int .i64 (x.2 : Int)] := by
  obtain ⟨c0, c1, rfl, rfl, rfl⟩ := h
  rfl
theorem rfAt {w : World} {A : Option Addr} {n : Nat} {xs : List Rf} (h : Kd.C kRf w A n xs) (k : Nat) (hk : k < n) :
    ∃ ad, A = some ad ∧ w.cell? (ad.add (k * 2)) = some (.int .i64 ((xs.getD k (0, 0)).1 : Int)) ∧ w.cell? ⟨(ad.add (k * 2)).block, (ad.add (k * 2)).off + 1, none⟩ = some (.int .i64 ((xs.getD k (0, 0)).2 : Int)) := by
  obtain ⟨ad, c, e, _, hK, hc0⟩ := Kd.C_get h (0, 0) (k : Int) (by omega) (by omega)
  rw [Int.toNat_natCast] at hK hc0
  have hc : ∀ j u, c[j]? = some u → w.cell? (ad.add (k * 2 + j)) = some u := hc0
  have := kRf_open hK
  subst this
  exact ⟨ad, e, hc 0 _ rfl, by rw [← add_field _ _ 1 (by omega)]; exact hc 1 _ rfl⟩

/-- the nets with some references more -/
def netR (st : Nat → Nat) (refs : List Rf) : Nat → Nat := refs.foldl (fun st r => upd st r.1 (st r.1 ||| 2 ^ r.2)) st
def goodT (due : Nat) (st : Nat → Nat) (head steps : Nat) (refs : List Rf) : Bool := (List.range 8).all (fun i => !due.testBit i || (foundS (netR st refs) (2 ^ head) steps).testBit i)
theorem upd_lt {st : Nat → Nat} (hs : ∀ i, st i < 256) {h v : Nat} (hv : v < 256) : ∀ i, upd st h v i < 256 := fun i => by
  unfold upd; split; exact hv; exact hs i
theorem netR_lt {refs : List Rf} (hr : ∀ r, r ∈ refs → r.2 < 8) : ∀ {st : Nat → Nat}, (∀ i, st i < 256) → ∀ i, netR st refs i < 256 := by
  induction refs with
  | nil => exact fun hs => hs
  | cons r l ih => exact fun hs => ih (fun q hq => hr q (List.mem_cons_of_mem _ hq)) (upd_lt hs (or_lt _ _ (hs r.1) (hr r List.mem_cons_self)))
theorem netR_take (st : Nat → Nat) (refs : List Rf) (j : Nat) (hj : j < refs.length) : netR st (refs.take (j + 1)) = upd (netR st (refs.take j)) (refs.getD j (0, 0)).1 (netR st (refs.take j) (refs.getD j (0, 0)).1 ||| 2 ^ (refs.getD j (0, 0)).2) := by
  have : refs.getD j (0, 0) = refs[j] := by rw [List.getD_eq_getElem?_getD, List.getElem?_eq_getElem hj]; rfl
  rw [this, List.take_succ_eq_append_getElem hj]
  unfold netR
  rw [List.foldl_append]
  rfl

set_option maxHeartbeats 4000000 in
set_option maxRecDepth 100000 in
theorem with_any (A : Option Addr) (c : Nat) (refs : List Rf) (bn bd bh bs : Nat) (st : Nat → Nat) (due head steps : Nat) (w : World)
    (hC : kRf.C w A refs.length refs) (hr : ∀ r, r ∈ refs → r.1 < 6 ∧ r.2 < 6) (hst : ∀ i, st i < 256) (hdue : due < 256) (hh : head < 8) (hs : steps ≤ 6)
    (hbn : w.heap[bn]? = some (.cells (netCells st) 134 (0, 0))) (hbd : w.cell? ⟨bd, 0, none⟩ = some (.int .u8 due)) (hbh : w.cell? ⟨bh, 0, none⟩ = some (.int .i64 head)) (hbs : w.cell? ⟨bs, 0, none⟩ = some (.int .i64 steps)) :
    Calls Try.prog 89 #[.slice A refs.length c, .pointer (some ⟨bn, 0, none⟩), .pointer (some ⟨bd, 0, none⟩), .pointer (some ⟨bh, 0, none⟩), .pointer (some ⟨bs, 0, none⟩)] w fun e w' => e = .returned (.bool (goodT due st head steps refs)) ∧ Below w.heap.size w w' := by
  have hun := Try.underlying134
  have hur := Try.underlying139
  obtain ⟨y0, y1, y2, y3, y4, y5⟩ := cells6 hbn
  have hB0 := (Below.refl w.heap.size w).alloc (Nat.le_refl _) (.cells (netCells st) 134)
  have hbx := heap_alloc_new w (.cells (netCells st) 134)
  have hlm : refs.length ≤ 9223372036854775807 := hC.2.1
  have HG : Hid (goodT due st head steps refs = (Go.bits .andNot .u8 (due : Int) (foundS (netR st (refs.take refs.length)) (2 ^ head) steps : Int) == 0)) := by
    show _ = _
    rw [List.take_length, bitsAndNot _ _ hdue (foundS_lt (netR_lt (fun r h => by have := (hr r h).2; omega) hst) (pow_lt head hh) steps)]
    rfl
  obtain ⟨R, hR⟩ : ∃ R, goodT due st head steps refs = R := ⟨_, rfl⟩
  rw [hR] at HG ⊢
  clear hR
  go_enter Try.func89, Try.ntmps89
  go_wp2
  simp only [netCells] at hB0 hbx
  obtain ⟨W1, hW1⟩ : ∃ W1, W1 = w.alloc (.cells #[.int .u8 (st 0), .int .u8 (st 1), .int .u8 (st 2), .int .u8 (st 3), .int .u8 (st 4), .int .u8 (st 5)] 134) := ⟨_, rfl⟩
  rw [← hW1] at hB0 hbx ⊢
  clear hW1
  go_loopg [13] refs.length (fun gk v wr => ∃ j : Nat, j + gk = refs.length ∧ v = .int .i64 j ∧ Below w.heap.size w wr ∧ wr.heap[w.heap.size]? = some (.cells (netCells (netR st (refs.take j))) 134 (0, 0)))
  case atStart => exact ⟨0, by omega, rfl, hB0, hbx⟩
  case round =>
    obtain ⟨j, hj, rfl, hb, hx⟩ := hrel
    by_cases hlt : j < refs.length
    · obtain ⟨ad, e, h0, h1⟩ := rfAt (Kd.C_below hC hb) j hlt
      cases e
      have hin := hr (refs.getD j (0, 0)) (by rw [List.getD_eq_getElem?_getD, List.getElem?_eq_getElem hlt]; exact List.getElem_mem _)
      have hnl := netR_lt (fun r h => by have := (hr r (List.mem_of_mem_take h)).2; omega : ∀ r, r ∈ refs.take j → r.2 < 8) hst
      have HT := Lib.hid (netR_take st refs j hlt)
      obtain ⟨T, hT⟩ : ∃ T, netR st (refs.take j) = T := ⟨_, rfl⟩
      obtain ⟨r, hre⟩ : ∃ r, refs.getD j (0, 0) = r := ⟨_, rfl⟩
      rw [hT] at hx hnl HT
      rw [hre] at h0 h1 hin HT
      clear hT hre
      obtain ⟨a, b⟩ := r
      obtain ⟨ha, hb6⟩ := hin
      simp only at h0 h1 ha hb6 HT
      have hlt' : (j : Int) < refs.length := by omega
      go_upto_region 5 with (fail)
      have hx1 := fun o => blk_alloc hx o
      have HBa := fun o => hb.alloc hb.size o
      have hbx2 := heap_alloc_new wr (.cells #[.int .i64 a, .int .i64 b] 139)
      have hnw : w.heap.size < wr.heap.size := blk_lt hx
      obtain ⟨W2, hW2⟩ : ∃ W2, W2 = wr.alloc (.cells #[.int .i64 a, .int .i64 b] 139) := ⟨_, rfl⟩
      replace hx1 := hx1 (.cells #[.int .i64 a, .int .i64 b] 139)
      replace HBa := HBa (.cells #[.int .i64 a, .int .i64 b] 139)
      rw [← hW2] at hx1 HBa hbx2 ⊢
      obtain ⟨q0, q1⟩ := cells2 hbx2
      clear hW2 hb h0 h1 hx
      have hca := netCells_get hx1 a ha
      have hfz := blk_frozen hx1 a
      have HW := fun W => heads_with (T a) b (hnl a) (by omega) W
      obtain ⟨S, hS⟩ : ∃ S, T a = S := ⟨_, rfl⟩
      rw [hS] at hca HT
      simp only [hS] at HW
      have HXn := Lib.hid (netCells_set hx1 (S ||| 2 ^ b) a ha)
      rw [← HT.out] at HXn
      have hk6 : (a : Int) < 6 := by omega
      clear hS
      go_region_law ((go_simp; go_at_call 74; (with_reducible refine (HW _).mono ?_); rintro e w5 ⟨rfl, rfl⟩))
      all_goals
        go_wp2
        go_roundg (refs.length - (j + 1))
        case measure => omega
        case rel => exact ⟨j + 1, by omega, by go_num, (HBa.setCell (p := ⟨w.heap.size, a, none⟩) (Nat.le_refl _) _).drew, HXn.out⟩
    · obtain rfl : j = refs.length := by omega
      have hnl := netR_lt (fun r h => by have := (hr r (List.mem_of_mem_take h)).2; omega : ∀ r, r ∈ refs.take refs.length → r.2 < 8) hst
      have HF := fun W => found_any (netR st (refs.take refs.length)) hnl head steps hh hs W
      obtain ⟨x0, x1, x2, x3, x4, x5⟩ := cells6 hx
      obtain ⟨F, hF⟩ : ∃ F, foundS (netR st (refs.take refs.length)) (2 ^ head) steps = F := ⟨_, rfl⟩
      rw [hF] at HG
      simp only [hF, netVal] at HF
      obtain ⟨T, hT⟩ : ∃ T, netR st (refs.take refs.length) = T := ⟨_, rfl⟩
      simp only [hT] at HF x0 x1 x2 x3 x4 x5
      replace hbd := pw_cell_below hb hbd
      replace hbh := pw_cell_below hb hbh
      replace hbs := pw_cell_below hb hbs
      clear hF hT hx hnl
      go_wp2
      go_region_law ((go_simp; go_at_call 90; (with_reducible refine (HF _).mono ?_); rintro e w3 ⟨rfl, hb3⟩; have hbd3 := pw_cell_below hb3 hbd))
      all_goals
        go_wp2
        go_ret
        exact ⟨by rw [HG.out]; rfl, below_then hb.drew hb.drew.size hb3⟩
end Go.Proofs.Ytfbimhnlcmdcpaa.Pa
/- A map of references: look-up and update. -/
namespace Go.Proofs.Ytfbimhnlcmdcpaa.Pa
open Go.RowKit Go.Proofs.YtfbimhnlcmdcpaaW.PrintWords Go.Proofs.YtfbimhnlcmdcpaaW.PrintLast Go.Proofs.YtfbimhnlcmdcpaaW.PrintMore
set_option linter.unusedVariables false
set_option linter.unusedSimpArgs false

def rfV (r : Rf) : Value := .agg #[.int .i64 (r.1 : Int), .int .i64 (r.2 : Int)]
theorem rf_eqIn (d : Nat) (w : World) (x0 y0 x1 y1 : Int) :
    (Op.equalIn (d + 2) 139 (.agg #[.int .i64 x0, .int .i64 x1]) (.agg #[.int .i64 y0, .int .i64 y1])).run Try.prog w = .ok ((x0 == y0) && (x1 == y1)) w := by
  refine eqA_of Try.underlying139 (by kernel_rfl) ?_
  refine eqf_cons (by rfl) (by go_simp; rfl) (by go_simp; rfl) (by go_simp) ?_
  exact eqf_last (by rfl) (by go_simp; rfl) (by go_simp; rfl) (by go_simp)
theorem rf_eq (a b : Rf) (w : World) : (Op.equal 139 (rfV a) (rfV b)).run Try.prog w = .ok (a == b) w := by
  have h := rf_eqIn 9998 w a.1 b.1 a.2 b.2
  have e : (((a.1 : Int) == (b.1 : Int)) && ((a.2 : Int) == (b.2 : Int))) = (a == b) := by
    obtain ⟨a1, a2⟩ := a
    obtain ⟨b1, b2⟩ := b
    rw [Bool.eq_iff_iff]
    simp only [Bool.and_eq_true, beq_iff_eq, Prod.mk.injEq]
    omega
  rw [e] at h
  exact h

/-- a map of references that are there -/
structure RMap (w : World) (b : Nat) (S : List Rf) : Prop where mk ::
  ok : ∃ es clock, w.heap[b]? = some (.map es clock) ∧ es.toList.map (fun e => (e.key, e.val)) = S.map (fun r => (rfV r, Value.bool true))

theorem rf_find (k : Rf) (w : World) : ∀ (S : List Rf) (es : List MapEntry) (i : Nat), es.map (fun e => (e.key, e.val)) = S.map (fun r => (rfV r, Value.bool true)) →
    (Instr.findAsking 139 (rfV k) es i).run Try.prog w = .ok (if S.contains k = true then some (i + S.idxOf k, .bool true) else none) w
  | [], [], i, _ => by simp [Instr.findAsking]
  | r :: S, [], i, h => by simp at h
  | [], e :: es, i, h => by simp at h
  | r :: S, e :: es, i, h => by
    simp only [List.map_cons, List.cons.injEq, Prod.mk.injEq] at h
    obtain ⟨⟨hk, hv⟩, ht⟩ := h
    rw [Instr.findAsking, hk]
    simp only [Sem.run_bind, rf_eq, Result.andThen_ok]
    by_cases hkr : k = r
    · subst hkr
      simp [hv]
    · have h1 : (k == r) = false := beq_eq_false_iff_ne.mpr hkr
      have h2 : (r == k) = false := beq_eq_false_iff_ne.mpr (Ne.symm hkr)
      have ih := rf_find k w S es (i + 1) ht
      simp only [h1, Bool.false_eq_true, if_false, ih, List.contains_cons, Bool.false_or, List.idxOf_cons, h2, cond_false]
      split <;> simp <;> omega
theorem rf_check (b : Bool) (k : Rf) (w : World) : (Instr.checkKey b 10000 139 (rfV k)).run Try.prog w = .ok () w := by kernel_rfl
theorem rf_findKey (k : Rf) (S : List Rf) (es : List MapEntry) (w : World) (h : es.map (fun e => (e.key, e.val)) = S.map (fun r => (rfV r, Value.bool true))) :
    (Instr.findKey 139 (rfV k) es).run Try.prog w = .ok (if S.contains k = true then some (S.idxOf k, .bool true) else none) w := by
  have hf := rf_find k w S es 0 h
  rw [Nat.zero_add] at hf
  unfold Instr.findKey
  simp only [Sem.run_bind, run_underlying Try.underlying139, Result.andThen_ok]
  cases es with
  | nil =>
    cases S with
    | nil => simp [Instr.findNow]
    | cons r S => simp at h
  | cons e es =>
    have hn : Instr.findNow (TypeDesc.struct (Try.prog.fieldsOf 139)) (rfV k) (e :: es) 0 = none := rfl
    have hu : Try.prog.underlying 139 = some (TypeDesc.struct (Try.prog.fieldsOf 139)) := by kernel_rfl
    rw [Try.underlying139] at hu
    rw [Option.some.inj hu, hn]
    exact hf
theorem RMap.look {w : World} {b : Nat} {S : List Rf} (h : RMap w b S) (k : Rf) : (Instr.lookup 164 (.map (some b)) (rfV k) false).run Try.prog w = .ok (.bool (S.contains k)) w := by
  obtain ⟨es, clock, hb, hl⟩ := h.ok
  have hf := rf_findKey k S es.toList w hl
  unfold Instr.lookup
  simp only [Sem.run_bind, run_underlying Try.underlying164, Result.andThen_ok, MapKept.run_getObj_map hb, Sem.run_pure, rf_check, hf]
  have hz : (zeroValue 4).run Try.prog w = .ok (.bool false) w := by kernel_rfl
  cases hc : S.contains k <;> simp [hz, Result.andThen]
theorem rf_same (n : Nat) (k : Rf) : Instr.sameBits (n + 2) (rfV k) (rfV k) = true := by simp [rfV, Instr.sameBits]
theorem rf_stays (k : Rf) (w : World) : (Instr.keyThatStays (rfV k) (rfV k)).run Try.prog w = .ok (rfV k) w := by
  unfold Instr.keyThatStays
  rw [if_pos (rf_same 9998 k)]
  simp
theorem grownBy_set (w : World) (b : Nat) (o : Obj) : w.grownBy { w with heap := w.heap.setIfInBounds b o } (some b) :=
  ⟨rfl, rfl, rfl, by simp, fun k _ hk => by
    have : b ≠ k := fun e => hk (by rw [e])
    simp only [Array.getElem?_setIfInBounds_ne this]⟩
def putRf (S : List Rf) (k : Rf) : List Rf := if S.contains k = true then S else S ++ [k]
theorem RMap.put {w : World} {b : Nat} {S : List Rf} (h : RMap w b S) (k : Rf) :
    ∃ w1, (Instr.mapUpdate 164 (.map (some b)) (rfV k) (.bool true)).run Try.prog w = .ok () w1 ∧ RMap w1 b (putRf S k) ∧ w.grownBy w1 (some b) := by
  obtain ⟨es, clock, hb, hl⟩ := h.ok
  have hf := rf_findKey k S es.toList w hl
  have hlt : b < w.heap.size := (Array.getElem?_eq_some_iff.1 hb).1
  unfold Instr.mapUpdate putRf
  simp only [Sem.run_bind, run_underlying Try.underlying164, Result.andThen_ok, MapKept.run_getObj_map hb, rf_check, hf]
  cases hc : S.contains k with
  | false =>
    refine ⟨_, by simp [MapKept.run_setObj_map _ hb]; rfl, ⟨_, _, by simp [hlt]; exact ⟨rfl, rfl⟩, ?_⟩, grownBy_set _ _ _⟩
    simp [hl]
  | true =>
    have hm : k ∈ S := by simpa using hc
    have hi : S.idxOf k < S.length := List.idxOf_lt_length_of_mem hm
    have hle : es.toList.length = S.length := by
      have := congrArg List.length hl
      simpa using this
    have hie : S.idxOf k < es.size := by simpa using (show S.idxOf k < es.toList.length by omega)
    have hke : (es.toList.map (fun e => (e.key, e.val)))[S.idxOf k]? = some (rfV k, Value.bool true) := by
      rw [hl, List.getElem?_map, List.getElem?_eq_getElem hi]
      simp
    rw [List.getElem?_map] at hke
    obtain ⟨e, he, hkv⟩ := Option.map_eq_some_iff.1 hke
    simp only [Prod.mk.injEq] at hkv
    have he2 : es[S.idxOf k]? = some e := by simpa using he
    simp only [if_true, he2, Option.map_some, Option.getD_some, hkv.1, Sem.run_bind, rf_stays, Result.andThen_ok]
    refine ⟨_, by simp [MapKept.run_setObj_map _ hb]; rfl, ⟨_, _, by simp [hlt]; exact ⟨rfl, rfl⟩, ?_⟩, grownBy_set _ _ _⟩
    rw [← hl]
    apply List.ext_getElem?
    intro j
    simp only [List.getElem?_map, Array.getElem?_toList, Array.getElem?_modify]
    split
    · rename_i hj
      subst hj
      rw [he2]
      simp [hkv]
    · rfl
end Go.Proofs.Ytfbimhnlcmdcpaa.Pa
/- The contract of free. -/
namespace Go.Proofs.Ytfbimhnlcmdcpaa.Pa
open Go.RowKit Go.Proofs.YtfbimhnlcmdcpaaW.PrintWords Go.Proofs.YtfbimhnlcmdcpaaW.PrintLast Go.Proofs.YtfbimhnlcmdcpaaW.PrintMore
set_option linter.unusedVariables false
set_option linter.unusedSimpArgs false

theorem mem_putRf (S : List Rf) (k x : Rf) : x ∈ putRf S k ↔ x ∈ S ∨ x = k := by
  unfold putRf
  split
  · rename_i h
    have hm : k ∈ S := by simpa using h
    constructor
    · exact .inl
    · rintro (h | rfl)
      · exact h
      · exact hm
  · simp
/-- the references of the first k headings, and the first j of heading k -/
def Known (hs : List Hd) (k j : Nat) (S : List Rf) : Prop := ∀ f t : Nat, (f, t) ∈ S ↔ (f < k ∧ (t : Int) ∈ nextT (hs.getD f zHd)) ∨ (f = k ∧ (t : Int) ∈ (nextT (hs.getD k zHd)).take j)
theorem Known.zero (hs : List Hd) : Known hs 0 0 [] := fun f t => by simp
theorem Known.next {hs : List Hd} {k j : Nat} {S : List Rf} (h : Known hs k j S) {L : List Int} (hL : nextT (hs.getD k zHd) = L) {p : Nat} (hj : j < L.length) (hp : L.getD j 0 = p) : Known hs k (j + 1) (putRf S (k, p)) := fun f t => by
  rw [mem_putRf, h f t, hL, List.take_succ_eq_append_getElem hj]
  have : L[j] = (p : Int) := by rw [← hp, List.getD_eq_getElem?_getD, List.getElem?_eq_getElem hj]; rfl
  rw [this]
  simp only [Prod.mk.injEq, List.mem_append, List.mem_singleton]
  have hc : ((t : Int) = (p : Int)) ↔ t = p := by omega
  rw [hc]
  constructor
  · rintro ((h | h) | h)
    · exact .inl h
    · exact .inr ⟨h.1, .inl h.2⟩
    · exact .inr ⟨h.1, .inr h.2⟩
  · rintro (h | ⟨h1, h2 | h2⟩)
    · exact .inl (.inl h)
    · exact .inl (.inr ⟨h1, h2⟩)
    · exact .inr ⟨h1, h2⟩
theorem Known.full {hs : List Hd} {k : Nat} {S : List Rf} {L : List Int} (hL : nextT (hs.getD k zHd) = L) (h : Known hs k L.length S) : Known hs (k + 1) 0 S := fun f t => by
  rw [h f t, hL, List.take_length]
  constructor
  · rintro (⟨h1, h2⟩ | ⟨rfl, h2⟩)
    · exact .inl ⟨by omega, h2⟩
    · exact .inl ⟨by omega, by rw [hL]; exact h2⟩
  · rintro (⟨h1, h2⟩ | ⟨_, h2⟩)
    · by_cases hf : f = k
      · subst hf
        exact .inr ⟨rfl, by rw [← hL]; exact h2⟩
      · exact .inl ⟨by omega, h2⟩
    · simp at h2

theorem RMap.below {w w1 : World} {b : Nat} {S : List Rf} (h : RMap w b S) (hb : Below w.heap.size w w1) : RMap w1 b S := by
  obtain ⟨es, clock, h1, h2⟩ := h.ok
  exact ⟨es, clock, blk_below h1 hb, h2⟩
/-- may a reference from f to t be added -/
def freeP (hs : List Hd) (f t : Nat) : Bool := !(f == t) && !((nextT (hs.getD f zHd)).contains (t : Int))
def freeRow (hs : List Hd) (f m : Nat) : List Rf := ((List.range m).filter (freeP hs f)).map (fun t => (f, t))
def freeTo (hs : List Hd) : Nat → List Rf
  | 0 => []
  | f + 1 => freeTo hs f ++ (if (hs.getD f zHd).f2 ≠ -1 then [] else freeRow hs f hs.length)
def freeT (hs : List Hd) : List Rf := freeTo hs hs.length
def rfCells (l : List Rf) : List Value := l.flatMap (fun r => [.int .i64 (r.1 : Int), .int .i64 (r.2 : Int)])
theorem freeRow_succ (hs : List Hd) (f m : Nat) : freeRow hs f (m + 1) = freeRow hs f m ++ (if freeP hs f m = true then [(f, m)] else []) := by
  unfold freeRow
  rw [List.range_succ, List.filter_append, List.map_append]
  congr 1
  by_cases h : freeP hs f m = true <;> simp [h]
theorem freeRow_len (hs : List Hd) (f m : Nat) : (freeRow hs f m).length ≤ m := by
  unfold freeRow
  rw [List.length_map]
  have := List.length_filter_le (freeP hs f) (List.range m)
  rwa [List.length_range] at this
theorem freeTo_len (hs : List Hd) : ∀ k, (freeTo hs k).length ≤ k * hs.length
  | 0 => by simp [freeTo]
  | k + 1 => by
    have ih := freeTo_len hs k
    show (freeTo hs k ++ _).length ≤ _
    rw [List.length_append, Nat.add_mul, Nat.one_mul]
    split
    · simp; omega
    · have := freeRow_len hs k hs.length
      omega
theorem Known.free {hs : List Hd} {S : List Rf} {n : Nat} (h : Known hs n 0 S) {f t : Nat} (hf : f < n) : S.contains (f, t) = (nextT (hs.getD f zHd)).contains (t : Int) := by
  rw [Bool.eq_iff_iff, List.contains_iff_mem, List.contains_iff_mem, h f t]
  constructor
  · rintro (h | h)
    · exact h.2
    · simp at h
  · exact fun h => .inl ⟨hf, h⟩
theorem rfCells_append (a b : List Rf) : rfCells (a ++ b) = rfCells a ++ rfCells b := by simp [rfCells]
theorem rfCells_len (a : List Rf) : (rfCells a).length = a.length * 2 := by
  induction a with
  | nil => rfl
  | cons r l ih =>
    show ([_, _] ++ rfCells l).length = _
    simp [ih]; omega
theorem infoRf : (Try.prog.info? 139).map (fun i => (i.zero, i.size, i.bytes)) = some (some (.agg #[.int .i64 0, .int .i64 0]), 2, 16) := by kernel_rfl

attribute [local go_sem high] rf_eqIn
set_option maxHeartbeats 4000000 in
set_option maxRecDepth 100000 in
theorem free_any (g : Nat) (cs : List Cl) (hs : List Hd) (w : World) (hL : IsList w g cs hs) (hv : Valid cs hs) :
    Calls Try.prog 88 #[.pointer (some ⟨g, 0, none⟩)] w fun e w' => ∃ v, e = .returned v ∧ w'.ownsRow w.heap.size 139 2 v (freeT hs).length (rfCells (freeT hs)) ∧ Below w.heap.size w w' := by
  obtain ⟨m0, m1, -, -⟩ := hv.split
  have hu3 := Try.underlying81
  have hur := Try.underlying139
  have hup := Try.underlying113
  obtain ⟨i0, hi, hz0, hz1, hz2⟩ := info_parts infoRf
  obtain ⟨A0, c0, A1, c1, A2, c2, A3, c3, hg, l0, l1, r0, r1, r2, r3⟩ := hL.ok
  obtain ⟨g0, g1, g2, g3⟩ := cells4 hg
  have hglt : g < w.heap.size := World.block_lt_of_cell? _ _ g3
  have eg := World.new_ne w ⟨g, 3, none⟩ g3
  have HR : Hid (freeT hs = freeTo hs hs.length) := rfl
  obtain ⟨R, hR⟩ : ∃ R, freeT hs = R := ⟨_, rfl⟩
  rw [hR] at HR ⊢
  clear hL hR
  have hmm := @run_makeMap Try.prog
  go_enter Try.func88, Try.ntmps88
  go_wp2
  go_loopg [21] hs.length (fun gk v wr => ∃ (k : Nat) (S : List Rf), k + gk = hs.length ∧ v = .int .i64 k ∧ RMap wr w.heap.size S ∧ Known hs k 0 S ∧ Below w.heap.size w wr)
  case atStart => exact ⟨0, [], by omega, rfl, ⟨_, _, heap_alloc_new w _, rfl⟩, Known.zero hs, (Below.refl w.heap.size w).alloc (Nat.le_refl _) _⟩
  case round =>
    obtain ⟨k, S, hk, rfl, hm, hkn, hb⟩ := hrel
    have hblt : w.heap.size < wr.heap.size := by
      obtain ⟨es, clock, hes, _⟩ := hm.ok
      exact blk_lt hes
    by_cases hlt : k < hs.length
    · have q3 := pw_cell_below hb g3
      obtain ⟨ad, v, e, hcv, hkv⟩ := kindAt (Kd.C_below r3 hb) k hlt
      cases e
      have hkv0 : KindVal w (hs.getD k zHd) v := by
        obtain ⟨ad', v', e', hcv', hkv'⟩ := kindAt r3 k hlt
        have : v = v' := by
          cases e'
          have := pw_cell_below hb hcv'
          rw [hcv] at this
          exact Option.some.inj this
        rw [this]; exact hkv'
      have HIn := fun j hj => nextT_in hv k hlt j hj
      have hnx := next_any hkv0 w.heap.size (Nat.le_refl _)
      obtain ⟨L, hL⟩ : ∃ L, nextT (hs.getD k zHd) = L := ⟨_, rfl⟩
      rw [hL] at HIn hnx
      clear hkv hkv0
      rcases hnx with ⟨-, pv, rfl, HN⟩ | ⟨-, -, pv, rfl, HN⟩ | ⟨-, -, pv, rfl, HN⟩
      all_goals
        have HN := HN wr hb hblt
        have hm1 := fun n W => meth_ptr n pv W
        have hm2 := fun n W => meth_art n pv W
        have hm3 := fun n W => meth_idx n pv W
        go_wp2_with (first
          | (go_at_call 141; (with_reducible refine HN.mono ?_); rintro e W2 ⟨Ax, cx, rfl, hb2, hC⟩; have hx2 := hm.below hb2; have HB2 := below_then hb hb.size hb2; clear hm hb hb2)
          | (go_at_call 140; (with_reducible refine HN.mono ?_); rintro e W2 ⟨Ax, cx, rfl, hb2, hC⟩; have hx2 := hm.below hb2; have HB2 := below_then hb hb.size hb2; clear hm hb hb2)
          | (go_at_call 142; (with_reducible refine HN.mono ?_); rintro e W2 ⟨Ax, cx, rfl, hb2, hC⟩; have hx2 := hm.below hb2; have HB2 := below_then hb hb.size hb2; clear hm hb hb2))
        go_loopg [29] L.length (fun gj v wr => ∃ (j : Nat) (S : List Rf), j + gj = L.length ∧ v = .int .i64 j ∧ W2.grownBy wr (some w.heap.size) ∧ RMap wr w.heap.size S ∧ Known hs k j S)
        case atStart => exact ⟨0, S, by omega, rfl, World.grownBy.refl _ _, hx2, hkn⟩
        case round =>
          obtain ⟨j, S, hj, rfl, hgr, hx, hkj⟩ := hrel
          by_cases hjl : j < L.length
          · obtain ⟨p, hp, hpl⟩ := HIn j hjl
            obtain ⟨aj, ej, hcj⟩ := intAt (hC wr hgr) j hjl
            cases ej
            rw [hp] at hcj
            have hLm : L.length ≤ 9223372036854775807 := (hC wr hgr).2.1
            obtain ⟨w9, hrun, hR9, hg9⟩ := hx.put (k, p)
            have HKn := hkj.next hL hjl hp
            simp only [rfV] at hrun
            go_wp2
            go_roundg (L.length - (j + 1))
            case measure => omega
            case rel => exact ⟨j + 1, _, by omega, by go_num, hgr.trans hg9, hR9, HKn⟩
          · obtain rfl : j = L.length := by omega
            have HKf := Known.full hL hkj
            have HB3 := HB2.grown hgr HB2.size (fun q hq => by cases hq; omega)
            go_wp2
            go_roundg (hs.length - (k + 1))
            case measure => omega
            case rel => exact ⟨k + 1, _, by omega, by go_num, hx, HKf, HB3⟩
    · obtain rfl : k = hs.length := by omega
      clear hmm hglt eg
      have q3 := pw_cell_below hb g3
      have hr3 := Kd.C_below r3 hb
      have hfr := fun f t (hf : f < hs.length) => hkn.free (t := t) hf
      obtain ⟨Wm, hWm⟩ : ∃ Wm, Wm = wr := ⟨_, rfl⟩
      subst hWm
      clear hk hkn
      go_wp2
      go_loopg [8, 44] hs.length (fun gk v8 v wr => ∃ k : Nat, k + gk = hs.length ∧ v = .int .i64 k ∧ Below Wm.heap.size Wm wr ∧ wr.ownsRow Wm.heap.size 139 2 v8 (freeTo hs k).length (rfCells (freeTo hs k)))
      case atStart => exact ⟨0, by omega, rfl, Below.refl _ _, own_nil _ _ _ _⟩
      case round =>
        obtain ⟨k, hk, rfl, hbw, ho⟩ := hrel
        by_cases hlt : k < hs.length
        · have q33 := pw_cell_below hbw q3
          obtain ⟨ad, v, e, hcv, hkv⟩ := kindAt (Kd.C_below hr3 hbw) k hlt
          cases e
          have hfr := fun t => hfr k t hlt
          have HFt : Hid (freeTo hs (k + 1) = freeTo hs k ++ (if (hs.getD k zHd).f2 ≠ -1 then [] else freeRow hs k hs.length)) := rfl
          have HFn := fun m => Lib.hid (freeRow_succ hs k m)
          have hrl := fun m => freeRow_len hs k m
          have hFl := freeTo_len hs k
          have hFP : ∀ t, Hid (freeP hs k t = (!(k == t) && !(nextT (hs.getD k zHd)).contains (t : Int))) := fun t => rfl
          have hR0 : Hid (freeRow hs k 0 = []) := rfl
          obtain ⟨x, hx⟩ : ∃ x, hs.getD k zHd = x := ⟨_, rfl⟩
          obtain ⟨Fk, hFk⟩ : ∃ Fk, freeTo hs k = Fk := ⟨_, rfl⟩
          obtain ⟨fr, hfrr⟩ : ∃ fr, freeRow hs k = fr := ⟨_, rfl⟩
          rw [hx] at hkv HFt
          simp only [hx] at hFP hfr
          rw [hFk] at ho HFt hFl
          rw [hfrr] at HFt hR0
          simp only [hfrr] at HFn hrl
          have hF36 : Fk.length ≤ 36 := Nat.le_trans hFl (by have := Nat.mul_le_mul (show k ≤ 6 by omega) m1; omega)
          clear hx hFk hfrr hFl
          rcases hkv with ⟨k1, rfl⟩ | ⟨k1, k2, B3, d3, rfl, k3, k4⟩ | ⟨k1, k2, B3, d3, rfl, k3, k4⟩
          · have hta := ta_ptr (.agg #[.int .i64 x.f2])
            have HG : Hid (freeTo hs (k + 1) = Fk) := by show _ = _; rw [HFt.out, if_pos k1, List.append_nil]
            clear k1 HFt
            go_wp2
            go_roundg (hs.length - (k + 1))
            case measure => omega
            case rel => exact ⟨k + 1, by omega, by go_num, hbw.alloc hbw.size _, by rw [HG.out]; exact ho.alloc _⟩
          all_goals
            have HG : Hid (freeTo hs (k + 1) = Fk ++ fr hs.length) := by show _ = _; rw [HFt.out, if_neg (by omega)]
            have hta1 := ta_ptr_art (.agg #[.int .i64 x.f1, .slice B3 x.f3.length d3])
            have hta2 := ta_ptr_idx (.agg #[.slice B3 x.f3.length d3])
            clear HFt k1 k2
            go_upto_region 17 with (fail)
            have hbw1 := hbw.alloc hbw.size (.cells #[.int .i64 0] 113)
            have ho1 := ho.alloc (.cells #[.int .i64 0] 113)
            obtain ⟨W1, hW1⟩ : ∃ W1, W1 = wr.alloc (.cells #[.int .i64 0] 113) := ⟨_, rfl⟩
            rw [← hW1] at hbw1 ho1 ⊢
            clear hW1 hbw ho q33 hta1 hta2 hcv
            have q34 := pw_cell_below hbw1 q3
            go_wp2
            go_loopg [8, 60] hs.length (fun gk v8 v wr => ∃ t : Nat, t + gk = hs.length ∧ v = .int .i64 t ∧ Below Wm.heap.size Wm wr ∧ wr.ownsRow Wm.heap.size 139 2 v8 (Fk ++ fr t).length (rfCells (Fk ++ fr t)))
            case atStart => exact ⟨0, by omega, rfl, hbw1, by rw [hR0.out, List.append_nil]; exact ho1⟩
            case round =>
              clear hbw1 ho1 q34
              clear W1
              obtain ⟨t, ht, rfl, hbw, ho⟩ := hrel
              by_cases htl : t < hs.length
              · have HN := HFn t
                have hP := hFP t
                have hfl := hrl t
                have hlk := hfr t
                obtain ⟨c, hc⟩ : ∃ c, (nextT x).contains (t : Int) = c := ⟨_, rfl⟩
                rw [hc] at hP hlk
                obtain ⟨F, hF⟩ : ∃ F, fr t = F := ⟨_, rfl⟩
                rw [hF] at ho HN hfl
                clear hc hF
                have HM := fun W (hW : Below Wm.heap.size Wm W) => (hm.below hW).look (k, t)
                simp only [hlk, rfV] at HM
                go_upto_region 21 with (fail)
                have hbw1 := hbw.alloc hbw.size (.cells #[.int .i64 k, .int .i64 t] 139)
                have ho1 := ho.alloc (.cells #[.int .i64 k, .int .i64 t] 139)
                have hbx := cells2 (heap_alloc_new wr (.cells #[.int .i64 k, .int .i64 t] 139))
                obtain ⟨W1, hW1⟩ : ∃ W1, W1 = wr.alloc (.cells #[.int .i64 k, .int .i64 t] 139) := ⟨_, rfl⟩
                rw [← hW1] at hbw1 ho1 hbx ⊢
                clear hW1 hbw ho
                obtain ⟨x0, x1⟩ := hbx
                have hlo := HM W1 hbw1
                have hsz := hbw1.size
                have hkk : ((k : Int) == (k : Int)) = true := beq_self_eq_true _
                by_cases hkt : k = t
                · have hkt2 : ((t : Int) == (k : Int)) = true := beq_iff_eq.mpr (by omega)
                  have HG2 : Hid (fr (t + 1) = F) := by show _ = _; rw [HN.out, hP.out, hkt]; simp
                  clear hP HN hkt
                  go_wp2
                  go_roundg (hs.length - (t + 1))
                  case measure => omega
                  case rel => exact ⟨t + 1, by omega, by go_num, hbw1, by rw [HG2.out]; exact ho1⟩
                · have hkt2 : ((t : Int) == (k : Int)) = false := beq_eq_false_iff_ne.mpr (by omega)
                  have hkt3 : (k == t) = false := beq_eq_false_iff_ne.mpr hkt
                  cases c with
                  | true =>
                    have HG2 : Hid (fr (t + 1) = F) := by show _ = _; rw [HN.out, hP.out, hkt3]; simp
                    clear hP HN hkt hkt3
                    go_wp2
                    go_roundg (hs.length - (t + 1))
                    case measure => omega
                    case rel => exact ⟨t + 1, by omega, by go_num, hbw1, by rw [HG2.out]; exact ho1⟩
                  | false =>
                    have HG2 : Hid (fr (t + 1) = F ++ [(k, t)]) := by show _ = _; rw [HN.out, hP.out, hkt3]; simp
                    have hll : (Fk ++ F).length ≤ 42 := by rw [List.length_append]; omega
                    clear hP HN hkt hkt3
                    go_wp2_with (at_builtin; refine wpList_append_own _ rfl _ _ 136 rfl Wm.heap.size 139 i0 (.agg #[.int .i64 0, .int .i64 0]) 2 16 Try.underlying136 hi hz0 hz1 hz2 rfl (by decide) _ _ _ rfl (ho1.alloc _) ⟨W1.heap.size, 0, none⟩ 1 1 [.int .i64 (k : Int), .int .i64 (t : Int)] rfl rfl (World.news_of_block (cs := #[.int .i64 (k : Int), .int .i64 (t : Int)]) (t := 139) (fr := (0, 0)) (heap_alloc_new W1 _)) (by simp [Value.oneCell']) (by unfold maxLen; omega) (by omega) (by simp; omega) ?_; intro v' w3 hown3 hgrow3 _; have HB3 := Below.grown (hbw1.alloc hbw1.size _) hgrow3 (by have := hbw1.size; simp; omega) (fun j hj => (ho1.lt j hj).1); have HO := Lib.hid hown3; clear hown3 hgrow3)
                    go_roundg (hs.length - (t + 1))
                    case measure => omega
                    case rel => exact ⟨t + 1, by omega, by go_num, HB3, by rw [HG2.out, ← List.append_assoc, rfCells_append, List.length_append]; exact HO.out⟩
              · obtain rfl : t = hs.length := by omega
                rw [← HG.out] at ho
                go_wp2
                go_roundg (hs.length - (k + 1))
                case measure => omega
                case rel => exact ⟨k + 1, by omega, by go_num, hbw, ho⟩
        · obtain rfl : k = hs.length := by omega
          rw [← HR.out] at ho
          go_wp2
          go_ret
          exact ⟨_, rfl, own_weaken ho hb.size, below_then hb hb.size hbw⟩
end Go.Proofs.Ytfbimhnlcmdcpaa.Pa
/- The contract of picks: all lists of so many references, until one is enough. -/
namespace Go.Proofs.Ytfbimhnlcmdcpaa.Pa
open Go.RowKit Go.Proofs.YtfbimhnlcmdcpaaW.PrintWords Go.Proofs.YtfbimhnlcmdcpaaW.PrintLast Go.Proofs.YtfbimhnlcmdcpaaW.PrintMore
attribute [local go_sem] Oper.semAt_some
set_option linter.unusedVariables false
set_option linter.unusedSimpArgs false

/-- all lists of k elements, in order -/
def combos {α : Type} : List α → Nat → List (List α)
  | _, 0 => [[]]
  | [], _ + 1 => []
  | x :: l, k + 1 => (combos l k).map (x :: ·) ++ combos l (k + 1)
theorem combos_zero {α : Type} (l : List α) : combos l 0 = [[]] := by cases l <;> rfl
theorem combos_drop {α : Type} (l : List α) (z : α) (i k : Nat) (hi : i < l.length) : combos (l.drop i) (k + 1) = (combos (l.drop (i + 1)) k).map (l.getD i z :: ·) ++ combos (l.drop (i + 1)) (k + 1) := by
  have : l.getD i z = l[i] := by rw [List.getD_eq_getElem?_getD, List.getElem?_eq_getElem hi]; rfl
  rw [List.drop_eq_getElem_cons hi, this]
  rfl
theorem combos_end {α : Type} (l : List α) (k : Nat) : combos (l.drop l.length) (k + 1) = [] := by rw [List.drop_length]; rfl

/-- append where there is room, and where the new slice lies, at a step of a region that draws -/
theorem step_append_fits {P : Program} {w : World} {ops : Array Oper} {o : Oper} {a : Act} {K : Act → World → Prop} {Q : Exit → Act → World → Prop} {E : Prop} (hgd : o.guard = none) (s x : Operand) (t : TypeId)
    (ho : o.op = .call { callee := .builtin .append, args := #[s, x], argTypes := #[t, t] })
    (base : Nat) (e : TypeId) (i : TypeInfo) (size : Nat) (ht : P.underlying t = some (.slice e)) (hi : P.info? e = some i) (hsize : i.size = size)
    (g n cap : Nat) (xs : List Value) (hs : a.eval s = .slice (some ⟨g, 0, none⟩) n cap) (hown : w.ownsRow base e size (.slice (some ⟨g, 0, none⟩) n cap) n xs)
    (ad : Addr) (m c : Nat) (news : List Value) (hx : a.eval x = .slice (some ad) m c) (hl : news.length = m * size) (hnews : ∀ j u, news[j]? = some u → w.cell? (ad.add j) = some u) (h1 : ∀ u ∈ news, u.oneCell' = true) (hroom : n + m ≤ cap)
    (h : ∀ w', w'.ownsRow base e size (.slice (some ⟨g, 0, none⟩) (n + m) cap) (n + m) (xs ++ news) → w.grownBy w' (some g) → K (a.put o.dst (.slice (some ⟨g, 0, none⟩) (n + m) cap)) w') :
    if Region.wanted o (yielded ops a.tmps) = true then Oper.wp P o a w K Q else E := by
  have hw : Region.wanted o (yielded ops a.tmps) = true := by simp [Region.wanted, hgd]
  rw [if_pos hw]
  obtain ⟨w', hr, h2, h3⟩ := run_append_fits (P := P) w base t o.type e i size ht hi hsize g n cap xs hown ad m c news hl hnews h1 hroom
  unfold Oper.wp execOp
  simp only [ho, resolve, invoke, builtin, Sem.run_bind, Sem.run_pure, Result.andThen_ok, List.map_toArray, List.map_cons, List.map_nil, hs, hx, hr]
  exact h w' h2 h3

/-- a shorter beginning of the same row -/
theorem own_prefix {w : World} {base : Nat} {e : TypeId} {size g n m cap : Nat} {xs ys : List Value} (h : w.ownsRow base e size (.slice (some ⟨g, 0, none⟩) (n + m) cap) (n + m) (xs ++ ys)) (hx : xs.length = n * size) :
    w.ownsRow base e size (.slice (some ⟨g, 0, none⟩) n cap) n xs := by
  rcases h.2 with ⟨h0, _⟩ | ⟨g', cap', cur, hv, hb, hg, hn, hc, hs, ht⟩
  · cases h0
  · simp only [Value.slice.injEq, Option.some.injEq, Addr.mk.injEq, and_true, true_and] at hv
    obtain ⟨rfl, rfl⟩ := hv
    refine ⟨hx, .inr ⟨g, cap, cur, rfl, hb, hg, by omega, hc, hs, ?_⟩⟩
    have h2 := congrArg (List.take (n * size)) ht
    rw [List.take_take, List.take_left' hx, Nat.min_eq_left (Nat.mul_le_mul_right _ (by omega))] at h2
    exact h2

/-- what a round of the loop answers -/
def RoundOk (B : Nat) (WB : World) (many : Nat) (l : Nat) (free : List Rf) (good : List Rf → Bool) (Stop : List Rf → World → Prop) : Prop :=
  ∀ (W : World) (v : Value) (refs : List Rf), Below B WB W → W.ownsRow B 139 2 v refs.length (rfCells refs) → refs.length = many → (∀ r, r ∈ refs → r ∈ free) →
    YieldAt Fence.wide 0 Try.prog l #[v] W fun e W' => (good refs = false ∧ e = .returned (.bool true) ∧ Below W.heap.size W W') ∨ (good refs = true ∧ e = .returned (.bool false) ∧ Stop refs W')

theorem room_of_wide (k : Nat) : Fence.wide.room k := fun d h => by cases h
theorem RoundIn.any {m m' : Nat} {P : Program} {l : Nat} {f : FuncId} {tmps : Array Value} {assign body : Code} {w : World} {R : Ending → World → Prop}
    (h : RoundIn Fence.wide m P l f tmps assign body w R) : RoundIn Fence.wide m' P l f tmps assign body w R := ⟨h.1, fun c cs _ => h.2 c cs (room_of_wide _)⟩

/-- what the cells of the iterator hold -/
structure Boxes (W : World) (bm b_y bl bg : Nat) (many l : Nat) (A : Option Addr) (c : Nat) (free : List Rf) : Prop where
  m : W.cell? ⟨bm, 0, none⟩ = some (.int .i64 many)
  y : W.cell? ⟨b_y, 0, none⟩ = some (.func (.yield l) #[] #[])
  l : W.cell? ⟨bl, 0, none⟩ = some (.slice A free.length c)
  g : W.cell? ⟨bg, 0, none⟩ = some (.func (.func 112) #[] #[.pointer (some ⟨bm, 0, none⟩), .pointer (some ⟨b_y, 0, none⟩), .pointer (some ⟨bl, 0, none⟩), .pointer (some ⟨bg, 0, none⟩)])
  C : kRf.C W A free.length free
theorem Boxes.below {W W1 : World} {bm b_y bl bg many l : Nat} {A : Option Addr} {c : Nat} {free : List Rf} (h : Boxes W bm b_y bl bg many l A c free) (hb : Below W.heap.size W W1) : Boxes W1 bm b_y bl bg many l A c free :=
  ⟨pw_cell_below hb h.m, pw_cell_below hb h.y, pw_cell_below hb h.l, pw_cell_below hb h.g, Kd.C_below h.C hb⟩

/-- what grow answers -/
def GrowPost (base G many : Nat) (W : World) (good : List Rf → Bool) (Stop : List Rf → World → Prop) (pre : List Rf) (cands : List (List Rf)) (e : Ending) (W' : World) : Prop :=
  ∃ b, e = .returned (.bool b) ∧ ((b = true ∧ cands.find? (fun c => good (pre ++ c)) = none ∧ W.grownBy W' (some G) ∧ W'.ownsRow base 139 2 (.slice (some ⟨G, 0, none⟩) pre.length many) pre.length (rfCells pre)) ∨ (b = false ∧ ∃ c, cands.find? (fun c => good (pre ++ c)) = some c ∧ Stop (pre ++ c) W'))

set_option maxHeartbeats 2000000 in
set_option maxRecDepth 100000 in
theorem grow_zero {WB : World} {bm b_y bl bg many l : Nat} {A : Option Addr} {c : Nat} {free : List Rf} {good : List Rf → Bool} {Stop : List Rf → World → Prop} (hE : Boxes WB bm b_y bl bg many l A c free)
    (hY : RoundOk WB.heap.size WB many l free good Stop) (G : Nat) (hG : WB.heap.size ≤ G) (pre : List Rf) (i : Nat) (W : World) (hm : pre.length = many) (hpre : ∀ r, r ∈ pre → r ∈ free) (hW : Below WB.heap.size WB W)
    (ho : W.ownsRow WB.heap.size 139 2 (.slice (some ⟨G, 0, none⟩) pre.length many) pre.length (rfCells pre)) :
    Calls Try.prog 112 #[.slice (some ⟨G, 0, none⟩) pre.length many, .int .i64 i, .pointer (some ⟨bm, 0, none⟩), .pointer (some ⟨b_y, 0, none⟩), .pointer (some ⟨bl, 0, none⟩), .pointer (some ⟨bg, 0, none⟩)] W (GrowPost WB.heap.size G many W good Stop pre (combos (free.drop i) 0)) := by
  have hB := hE.below hW
  have hy := hB.y
  have hmm := hB.m
  subst hm
  obtain ⟨fn, tmps, assign, body, hyr, hR⟩ := hY W _ pre hW ho rfl hpre
  have hR2 := RoundIn.any (m' := 1 - 1) hR
  clear hR
  have hdd : ∀ k : Nat, (Fence.wide.depth.isSome = true → 1 ≤ k) := fun k h => by cases h
  have hcz : combos (free.drop i) 0 = [[]] := combos_zero _
  rw [hcz]
  refine (callsIn_wide (n := 1)).1 ?_
  refine callsIn_of_wp Try.func112 rfl trivial ?_ rfl
  simp only [Try.ntmps112, List.size_toArray, List.length_cons, List.length_nil, Nat.reduceAdd, Nat.reduceSub, Array.replicate_succ, Array.replicate_zero, List.push_toArray, List.append_toArray, List.nil_append, List.cons_append]
  gi_wp2_with ((try refine ⟨hdd _, ?_⟩); refine hR2.mono ?_; clear hR2; rintro e W2 (⟨hg, rfl, hb2⟩ | ⟨hg, rfl, hS⟩))
  · go_ret
    exact ⟨true, rfl, .inl ⟨rfl, by simp [hg], ⟨hb2.os, hb2.tape, hb2.output, hb2.size, fun k hk _ => hb2.block k hk⟩, own_move ho (fun k hk => hb2.block k (own_lt ho k hk))⟩⟩
  · go_ret
    exact ⟨false, rfl, .inr ⟨rfl, [], by simp [hg], by simpa using hS⟩⟩

theorem find_step (good : List Rf → Bool) (pre : List Rf) (x : Rf) (l1 l2 : List (List Rf)) : (l1.map (x :: ·) ++ l2).find? (fun c => good (pre ++ c)) = match l1.find? (fun c => good ((pre ++ [x]) ++ c)) with
    | some c => some (x :: c)
    | none => l2.find? (fun c => good (pre ++ c)) := by
  rw [List.find?_append, List.find?_map]
  have : ((fun c => good (pre ++ c)) ∘ (x :: ·)) = (fun c => good ((pre ++ [x]) ++ c)) := by funext c; simp
  rw [this]
  cases l1.find? (fun c => good ((pre ++ [x]) ++ c)) <;> rfl

set_option maxHeartbeats 8000000 in
set_option maxRecDepth 100000 in
theorem grow_any {WB : World} {bm b_y bl bg many l : Nat} {A : Option Addr} {c : Nat} {free : List Rf} {good : List Rf → Bool} {Stop : List Rf → World → Prop} (hE : Boxes WB bm b_y bl bg many l A c free) (hmany : many ≤ 100)
    (hY : RoundOk WB.heap.size WB many l free good Stop) (G : Nat) (hG : WB.heap.size ≤ G) : ∀ (r : Nat) (pre : List Rf) (i : Nat) (W : World), pre.length + r = many → i ≤ free.length → (∀ r, r ∈ pre → r ∈ free) → Below WB.heap.size WB W →
    W.ownsRow WB.heap.size 139 2 (.slice (some ⟨G, 0, none⟩) pre.length many) pre.length (rfCells pre) →
    Calls Try.prog 112 #[.slice (some ⟨G, 0, none⟩) pre.length many, .int .i64 i, .pointer (some ⟨bm, 0, none⟩), .pointer (some ⟨b_y, 0, none⟩), .pointer (some ⟨bl, 0, none⟩), .pointer (some ⟨bg, 0, none⟩)] W (GrowPost WB.heap.size G many W good Stop pre (combos (free.drop i) r))
  | 0, pre, i, W, hm, hi, hpre, hW, ho => grow_zero hE hY G hG pre i W (by omega) hpre hW ho
  | r + 1, pre, i, W, hm, hi, hpre, hW, ho => by
    have ih := grow_any hE hmany hY G hG r
    have hur := Try.underlying139
    obtain ⟨i0, hin, hz0, hz1, hz2⟩ := info_parts infoRf
    have hne : ((pre.length : Int) == (many : Int)) = false := beq_eq_false_iff_ne.mpr (by omega)
    have hlm : free.length ≤ 9223372036854775807 := hE.C.2.1
    obtain ⟨R, hR⟩ : ∃ R, (combos (free.drop i) (r + 1)).find? (fun c => good (pre ++ c)) = R := ⟨_, rfl⟩
    have hB := hE.below hW
    have hy0 := hB.m
    clear hB
    unfold GrowPost
    rw [hR]
    go_enter Try.func112, Try.ntmps112
    go_wp2
    go_loopg [9] (free.length - i) (fun gk v wr => ∃ k : Nat, i ≤ k ∧ k + gk = free.length ∧ v = .int .i64 k ∧ W.grownBy wr (some G) ∧ wr.ownsRow WB.heap.size 139 2 (.slice (some ⟨G, 0, none⟩) pre.length many) pre.length (rfCells pre) ∧ Hid ((combos (free.drop k) (r + 1)).find? (fun c => good (pre ++ c)) = R))
    case atStart => exact ⟨i, Nat.le_refl _, by omega, rfl, World.grownBy.refl _ _, ho, hR⟩
    case round =>
      obtain ⟨k, hik, hk, rfl, hgr, hok, HK⟩ := hrel
      have hWr : Below WB.heap.size WB wr := hW.grown hgr hW.size (fun j hj => by cases hj; exact hG)
      have hBr := hE.below hWr
      have y1 := hBr.m
      have y2 := hBr.l
      have y3 := hBr.g
      by_cases hlt : k < free.length
      · have HC := Lib.hid (combos_drop free (0, 0) (k := r) k hlt)
        obtain ⟨ad, e, h0, h1⟩ := rfAt hBr.C k hlt
        cases e
        have hxm : free.getD k (0, 0) ∈ free := by rw [List.getD_eq_getElem?_getD, List.getElem?_eq_getElem hlt]; exact List.getElem_mem _
        obtain ⟨x, hx⟩ : ∃ x, free.getD k (0, 0) = x := ⟨_, rfl⟩
        rw [hx] at HC h0 h1 hxm
        have hkl : (k : Int) < free.length := by omega
        have hroom : pre.length + 1 ≤ many := by omega
        have egl := hWr.size
        have e1 := World.new_ne wr ⟨bg, 0, none⟩ y3
        have hIH := fun W' (hW' : Below WB.heap.size WB W') ho' => ih (pre ++ [x]) (k + 1) W' (by rw [List.length_append]; simp; omega) (by omega) (fun q hq => by
          rcases List.mem_append.1 hq with hq | hq
          · exact hpre q hq
          · rw [List.mem_singleton.1 hq]; exact hxm) hW' ho'
        have hln : (pre ++ [x]).length = pre.length + 1 := by simp
        have hcs : ((k + 1 : Nat) : Int) = (k : Int) + 1 := by omega
        simp only [hln, hcs] at hIH
        have hwk : IntKind.i64.wrap ((k : Int) + 1) = (k : Int) + 1 := by rw [IntKind.wrap_i64]; omega
        have y3a := fun o => (hE.below (hWr.alloc hWr.size o)).g
        clear hx ih hxm
        go_wp2
        go_region_law (first
          | (refine step_append_fits (by rfl) _ _ _ (by rfl) WB.heap.size 139 i0 2 Try.underlying136 hin hz1 G pre.length many (rfCells pre) (by rfl) ((hok.alloc _).drew) ⟨wr.heap.size, 0, none⟩ 1 1 [.int .i64 (x.1 : Int), .int .i64 (x.2 : Int)] (by rfl) (by rfl) (World.news_of_block (cs := #[.int .i64 (x.1 : Int), .int .i64 (x.2 : Int)]) (t := 139) (fr := (0, 0)) (heap_alloc_new wr _)) (by simp [Value.oneCell']) hroom ?_; intro w1 hown1 hgr1; have hW1 := ((hWr.alloc hWr.size (.cells #[.int .i64 (x.1 : Int), .int .i64 (x.2 : Int)] 139)).drew).grown hgr1 (by simp; omega) (fun j hj => by cases hj; exact hG); have y3b := (hE.below hW1).g)
          | (go_simp; go_at_call 112; go_loud (refine (hIH w1 hW1 (by rw [rfCells_append]; exact hown1)).mono ?_); rintro e w3 ⟨b, rfl, hd⟩))
        all_goals
          have hgA : wr.grownBy w1 (some G) := (World.grownBy_alloc wr (.cells #[.int .i64 (x.1 : Int), .int .i64 (x.2 : Int)] 139) (some G)).trans ⟨hgr1.os, hgr1.tape, hgr1.output, hgr1.size, hgr1.block⟩
          rw [HC.out, find_step] at HK
          rcases hd with ⟨rfl, hf, hg3, ho3⟩ | ⟨rfl, c', hf, hst⟩
          · have HK2 : Hid ((combos (free.drop (k + 1)) (r + 1)).find? (fun c => good (pre ++ c)) = R) := by show _ = _; rw [← HK.out, hf]
            clear HK hf
            go_wp2
            go_roundg (free.length - (k + 1))
            case measure => omega
            case rel => exact ⟨k + 1, by omega, by omega, by go_num, (hgr.trans hgA).trans hg3, own_prefix (by rw [← rfCells_append]; simpa using ho3) (rfCells_len _), HK2⟩
          · have HR2 : Hid (R = some (x :: c')) := by show _ = _; rw [← HK.out, hf]
            clear HK hf
            go_wp2
            go_ret
            exact ⟨false, rfl, .inr ⟨rfl, _, HR2.out, by simpa using hst⟩⟩
      · obtain rfl : k = free.length := by omega
        have HR2 : Hid (R = none) := by show _ = _; rw [← HK.out, combos_end]; rfl
        go_wp2
        go_ret
        exact ⟨true, rfl, .inl ⟨rfl, HR2.out, hgr, hok⟩⟩
end Go.Proofs.Ytfbimhnlcmdcpaa.Pa
/- picks as an iterator; a loop over it. -/
namespace Go.Proofs.Ytfbimhnlcmdcpaa.Pa
open Go.RowKit Go.Proofs.YtfbimhnlcmdcpaaW.PrintWords Go.Proofs.YtfbimhnlcmdcpaaW.PrintLast Go.Proofs.YtfbimhnlcmdcpaaW.PrintMore
set_option linter.unusedVariables false
set_option linter.unusedSimpArgs false

theorem picks_any (A : Option Addr) (n c : Nat) (many : Int) (w : World) :
    Calls Try.prog 91 #[.slice A n c, .int .i64 many] w fun e w' => e = .returned (.func (.func 111) #[] #[.pointer (some ⟨w.heap.size + 1, 0, none⟩), .pointer (some ⟨w.heap.size, 0, none⟩)]) ∧ w' = (w.alloc (.cells #[.slice A n c] 136)).alloc (.cells #[.int .i64 many] 3) := by
  go_enter Try.func91, Try.ntmps91
  go_wp2
  go_ret
  exact ⟨rfl, rfl⟩

/-- what the iterator answers -/
def IterPost (W : World) (good : List Rf → Bool) (Stop : List Rf → World → Prop) (cands : List (List Rf)) (e : Ending) (W' : World) : Prop :=
  (∃ v, e = .returned v) ∧ ((cands.find? good = none ∧ Below W.heap.size W W') ∨ (∃ c, cands.find? good = some c ∧ Stop c W'))

theorem RoundOk.mono {W WB : World} {many l : Nat} {free : List Rf} {good : List Rf → Bool} {Stop : List Rf → World → Prop} (h : RoundOk W.heap.size W many l free good Stop) (hb : Below W.heap.size W WB) : RoundOk WB.heap.size WB many l free good Stop :=
  fun W' v refs hW ho hl hr => h W' v refs (below_then hb hb.size hW) (own_weaken ho hb.size) hl hr

set_option maxHeartbeats 4000000 in
set_option maxRecDepth 100000 in
theorem picks1_any {bm bl many l : Nat} {A : Option Addr} {c : Nat} {free : List Rf} {good : List Rf → Bool} {Stop : List Rf → World → Prop} (hmany : many ≤ 100) (W : World)
    (hm : W.cell? ⟨bm, 0, none⟩ = some (.int .i64 many)) (hl : W.cell? ⟨bl, 0, none⟩ = some (.slice A free.length c)) (hC : kRf.C W A free.length free)
    (hY : RoundOk W.heap.size W many l free good Stop) :
    Calls Try.prog 111 #[.func (.yield l) #[] #[], .pointer (some ⟨bm, 0, none⟩), .pointer (some ⟨bl, 0, none⟩)] W (IterPost W good Stop (combos free many)) := by
  obtain ⟨i0, hin, hz0, hz1, hz2⟩ := info_parts infoRf
  have hbm := World.new_ne W ⟨bm, 0, none⟩ hm
  have hbl := World.new_ne W ⟨bl, 0, none⟩ hl
  have hbml : bm < W.heap.size := World.block_lt_of_cell? _ _ hm
  have hbll : bl < W.heap.size := World.block_lt_of_cell? _ _ hl
  obtain ⟨R, hR⟩ : ∃ R, combos free many = R := ⟨_, rfl⟩
  rw [hR]
  go_enter Try.func111, Try.ntmps111
  go_upto_region 2 with (fail)
  have hB2 := ((Below.refl W.heap.size W).alloc (Nat.le_refl _) (.cells #[.func (.yield l) #[] #[]] 141)).alloc (by simp) (.cells #[.nilFunc] 166)
  have hy1 := blk_alloc (heap_alloc_new W (.cells #[.func (.yield l) #[] #[]] 141)) (.cells #[.nilFunc] 166)
  have hg1 := heap_alloc_new (W.alloc (.cells #[.func (.yield l) #[] #[]] 141)) (.cells #[.nilFunc] 166)
  rw [World.size_alloc] at hg1
  obtain ⟨W2, hW2⟩ : ∃ W2, W2 = (W.alloc (.cells #[.func (.yield l) #[] #[]] 141)).alloc (.cells #[.nilFunc] 166) := ⟨_, rfl⟩
  rw [← hW2] at hB2 hy1 hg1 ⊢
  have hs2 : W2.heap.size = W.heap.size + 2 := by rw [hW2]; simp
  clear hW2
  have hgc := cells1 hg1
  have hgf := blk_frozen hg1 0
  have e1 := World.new_ne W2 ⟨W.heap.size + 1, 0, none⟩ hgc
  go_upto_region 3 with (fail)
  have hB3 := hB2.setCell (p := ⟨W.heap.size + 1, 0, none⟩) (by simp) (.func (.func 112) #[] #[.pointer (some ⟨bm, 0, none⟩), .pointer (some ⟨W.heap.size, 0, none⟩), .pointer (some ⟨bl, 0, none⟩), .pointer (some ⟨W.heap.size + 1, 0, none⟩)])
  have hy3 := (Below.heap_setCell W2 ⟨W.heap.size + 1, 0, none⟩ (.func (.func 112) #[] #[.pointer (some ⟨bm, 0, none⟩), .pointer (some ⟨W.heap.size, 0, none⟩), .pointer (some ⟨bl, 0, none⟩), .pointer (some ⟨W.heap.size + 1, 0, none⟩)]) W.heap.size (by simp)).trans hy1
  have hg3 : (W2.setCell ⟨W.heap.size + 1, 0, none⟩ (.func (.func 112) #[] #[.pointer (some ⟨bm, 0, none⟩), .pointer (some ⟨W.heap.size, 0, none⟩), .pointer (some ⟨bl, 0, none⟩), .pointer (some ⟨W.heap.size + 1, 0, none⟩)])).cell? ⟨W.heap.size + 1, 0, none⟩ = some (.func (.func 112) #[] #[.pointer (some ⟨bm, 0, none⟩), .pointer (some ⟨W.heap.size, 0, none⟩), .pointer (some ⟨bl, 0, none⟩), .pointer (some ⟨W.heap.size + 1, 0, none⟩)]) := World.cell?_setCell_same' _ _ _ (by rw [hgc]; rfl)
  obtain ⟨W3, hW3⟩ : ∃ W3, W3 = W2.setCell ⟨W.heap.size + 1, 0, none⟩ (.func (.func 112) #[] #[.pointer (some ⟨bm, 0, none⟩), .pointer (some ⟨W.heap.size, 0, none⟩), .pointer (some ⟨bl, 0, none⟩), .pointer (some ⟨W.heap.size + 1, 0, none⟩)]) := ⟨_, rfl⟩
  rw [← hW3] at hB3 hy3 hg3 ⊢
  have hs3 : W3.heap.size = W.heap.size + 2 := by rw [hW3]; simp [World.setCell, hs2]
  clear hW3 hB2 hy1 hg1 hgc hgf e1 hs2
  clear W2
  have hE : Boxes W3 bm W.heap.size bl (W.heap.size + 1) many l A c free := ⟨pw_cell_below hB3 hm, cells1 hy3, pw_cell_below hB3 hl, hg3, Kd.C_below hC hB3⟩
  have hm3 := hE.m
  have e2 := World.new_ne W3 ⟨W.heap.size + 1, 0, none⟩ hg3
  have e3 := World.new_ne W3 ⟨bm, 0, none⟩ hm3
  have hmk : ∀ W4 : World, (Instr.makeSlice 136 (.int .i64 0) (.int .i64 many)).run Try.prog W4 = .ok (.slice (some ⟨W4.heap.size, 0, none⟩) 0 many) (W4.alloc (.cells (madeCells (Value.agg #[.int .i64 0, .int .i64 0]).cells (many * 2)) 139)) := fun W4 => by
    have h := run_make (P := Try.prog) W4 136 139 i0 _ Try.underlying136 hin hz0 .i64 .i64 0 many (Int.le_refl _) (by omega) (by rw [hz2]; omega) (by omega)
    rw [hz1] at h
    simpa using h
  have hmc := size_madeCells (Value.agg #[.int .i64 0, .int .i64 0]).cells (many * 2)
  obtain ⟨mc, hmce⟩ : ∃ mc, madeCells (Value.agg #[.int .i64 0, .int .i64 0]).cells (many * 2) = mc := ⟨_, rfl⟩
  rw [hmce] at hmc
  simp only [hmce] at hmk
  have hIH := grow_any hE hmany (RoundOk.mono hY hB3) W3.heap.size (Nat.le_refl _) many [] 0 (W3.alloc (.cells mc 139)).drew (by simp) (by omega) (fun q hq => by simp at hq) (((Below.refl _ W3).alloc (Nat.le_refl _) _).drew) ⟨by simp [rfCells], .inr ⟨_, many, mc, rfl, Nat.le_refl _, heap_alloc_new W3 _, by simp, by unfold maxLen; omega, hmc, by simp [rfCells]⟩⟩
  have y3a := fun o => (hE.below ((Below.refl _ W3).alloc (Nat.le_refl _) o)).g
  have hi0 : ((0 : Nat) : Int) = 0 := rfl
  rw [List.drop_zero, hR, hi0, List.length_nil, hs3] at hIH
  clear hmce hY
  go_region_law ((go_simp; go_at_call 112; go_loud (with_reducible refine hIH.mono ?_); rintro e w3 ⟨b, rfl, hd⟩))
  all_goals
    rcases hd with ⟨rfl, hf, hg3, -⟩ | ⟨rfl, c', hf, hst⟩
    · have hBB := ((hB3.alloc hB3.size (.cells mc 139)).drew).grown hg3 (by simp; omega) (fun j hj => by cases hj; omega)
      go_wp2
      go_end0
      exact ⟨⟨_, rfl⟩, .inl ⟨hf, hBB⟩⟩
    · go_wp2
      go_end0
      exact ⟨⟨_, rfl⟩, .inr ⟨c', hf, hst⟩⟩
end Go.Proofs.Ytfbimhnlcmdcpaa.Pa
/- A loop over picks: one law. -/
namespace Go.Proofs.Ytfbimhnlcmdcpaa.Pa
open Go.RowKit Go.Shelf Go.Proofs.YtfbimhnlcmdcpaaW.PrintWords Go.Proofs.YtfbimhnlcmdcpaaW.PrintLast Go.Proofs.YtfbimhnlcmdcpaaW.PrintMore
set_option linter.unusedVariables false
set_option linter.unusedSimpArgs false

/-- how a round's body is left -/
def BodyPost (D : Nat) (ID : Nat) (good : List Rf → Bool) (Stop : List Rf → World → Prop) (refs : List Rf) (W : World) : Exit → Act → World → Prop
  | .normal, _, W' => good refs = false ∧ Below W.heap.size W W'
  | .exit id, _, W' => id = ID ∧ good refs = true ∧ W'.heap[D]? = W.heap[D]? ∧ W'.heap[D + 1]? = W.heap[D + 1]? ∧ Stop refs W'
  | _, _, _ => False

theorem own_put {w : World} {base : Nat} {e : TypeId} {size n : Nat} {v : Value} {xs : List Value} {l : Nat} (h : w.ownsRow base e size v n xs) (hl : l < base) (o : Obj) : (w.putObj l o).ownsRow base e size v n xs :=
  own_move h (fun k hk => World.putObj_heap_other (by have := own_base h k hk; omega))

set_option maxHeartbeats 1000000 in
theorem wp_range_picks {g : Operand} {ps : Array Tmp} {assign body : Code} {Q : Exit → Act → World → Prop} {a : Act} {w : World} {bm bl many : Nat} {A : Option Addr} {c : Nat} {free : List Rf} {good : List Rf → Bool} {Stop : List Rf → World → Prop} {ID : Nat}
    (hmany : many ≤ 100) (hm : w.cell? ⟨bm, 0, none⟩ = some (.int .i64 many)) (hl : w.cell? ⟨bl, 0, none⟩ = some (.slice A free.length c)) (hC : kRf.C w A free.length free)
    (hg : a.eval g = .func (.func 111) #[] #[.pointer (some ⟨bm, 0, none⟩), .pointer (some ⟨bl, 0, none⟩)]) (hps : ps.size = 1)
    (hStop : ∀ refs W o, Stop refs W → (∃ r, W.heap[w.heap.size + 1]? = some (.loop r)) → Stop refs (W.putObj (w.heap.size + 1) o)) (a₁ : Value → Act)
    (hassign : ∀ (l : Nat) (v : Value) (W : World) (K : Act → World → Prop), K (a₁ v) W →
      assign.wpIn (Fence.wide.inRound l) 0 Try.prog (Exit.then K (fun _ _ _ => False)) { tmps := (ps.zip #[v]).foldl (fun t (p, v) => t.setIfInBounds p v) a.tmps, defers := [] } W)
    (hbody : ∀ (l : Nat) (v : Value) (refs : List Rf) (W : World), Below w.heap.size w W → w.heap.size + 2 ≤ W.heap.size → W.ownsRow (w.heap.size + 2) 139 2 v refs.length (rfCells refs) → refs.length = many → (∀ r, r ∈ refs → r ∈ free) →
      body.wpIn (Fence.wide.inRound l) 0 Try.prog (BodyPost w.heap.size ID good Stop refs W) (a₁ v) W)
    (hdone : ∀ W, (combos free many).find? good = none → Below w.heap.size w W → W.heap[w.heap.size]? = some (.deferred (some [])) → Q .normal { a with defers := { target := .collected w.heap.size, args := #[] } :: a.defers } W)
    (hstop : ∀ refs W, (combos free many).find? good = some refs → Stop refs W → W.heap[w.heap.size]? = some (.deferred (some [])) → Q (.exit ID) { a with defers := { target := .collected w.heap.size, args := #[] } :: a.defers } W) :
    (Code.rangeFunc g ps assign body).wp Try.prog Q a w := by
  refine (wpIn_wide (n := 1)).1 (wpIn_rangeFunc ?_)
  intro fn _
  obtain ⟨rec, hrec⟩ : ∃ rec : LoopState → Option Code → Loop, rec = fun st pe => { state := st, pending := pe, fn, tmps := a.tmps, params := ps, assign, body, defers := w.heap.size } := ⟨_, rfl⟩
  obtain ⟨W1, hW1⟩ : ∃ W1, (w.alloc (.deferred (some []))).alloc (.loop (rec .ready none)) = W1 := ⟨_, rfl⟩
  have hs1 : W1.heap.size = w.heap.size + 2 := by rw [← hW1]; simp
  have hL1 : W1.heap[w.heap.size + 1]? = some (.loop (rec .ready none)) := by
    rw [← hW1]; have := World.alloc_heap_new (w.alloc (.deferred (some []))) (.loop (rec .ready none)); rwa [World.size_alloc] at this
  have hK1 : W1.heap[w.heap.size]? = some (.deferred (some [])) := by
    rw [← hW1]; exact (Below.heap_alloc _ _ _ (by simp)).trans (World.alloc_heap_new w _)
  have hb1 : Below w.heap.size w W1 := by
    rw [← hW1]; exact ((Below.refl _ w).alloc (Nat.le_refl _) _).alloc (by simp) _
  have hrun : (Instr.enterLoop fn a.tmps ps assign body Fence.wide.round).run Try.prog w = .ok (w.heap.size + 1, [{ target := .collected w.heap.size, args := #[] }]) W1 := by
    rw [← hW1, hrec]; exact run_enterLoop_outer _ _ _ _ _
  have eg : ∀ args w, (callFunc 111 args).run Try.prog w = .ok (.enter 111 args) w := enters_of Try.func111 (by kernel_rfl) rfl
  refine ⟨w.heap.size + 1, [{ target := .collected w.heap.size, args := #[] }], W1, { target := .fn (.func 111) #[.pointer (some ⟨bm, 0, none⟩), .pointer (some ⟨bl, 0, none⟩)], args := #[.func (.yield (w.heap.size + 1)) #[] #[]] }, W1, 111,
    #[.func (.yield (w.heap.size + 1)) #[] #[]] ++ #[.pointer (some ⟨bm, 0, none⟩), .pointer (some ⟨bl, 0, none⟩)], W1, hrun, ?_, fun _ _ => trivial, ?_, fun _ => Nat.le_refl _, ?_⟩
  · simp only [resolve, hg]
    simp [go_sem]
  · simp [invoke, go_sem, eg]
  have hit := picks1_any (l := w.heap.size + 1) (good := good) (Stop := fun refs W => Stop refs W ∧ W.heap[w.heap.size + 1]? = some (.loop (rec .done (some (.exit ID)))) ∧ W.heap[w.heap.size]? = some (.deferred (some []))) hmany W1
    (pw_cell_below hb1 hm) (pw_cell_below hb1 hl) (Kd.C_below hC hb1) ?_
  · refine (callsIn_wide.2 hit).mono ?_
    rintro e W2 ⟨⟨v, rfl⟩, (⟨hf, hb⟩ | ⟨refs, hf, hS, hl2, hk2⟩)⟩
    · have hl2 : W2.heap[w.heap.size + 1]? = some (.loop (rec .ready none)) := (hb.block _ (by omega)).trans hL1
      have hk2 : W2.heap[w.heap.size]? = some (.deferred (some [])) := (hb.block _ (by omega)).trans hK1
      refine ⟨none, _, by have := run_endLoop (P := Try.prog) hl2 (by rw [hrec]; simp); rw [hrec] at this; exact this, ?_⟩
      refine hdone _ hf ?_ ((World.putObj_heap_other (by omega)).trans hk2)
      have hbw := below_then hb1 hb1.size hb
      exact ⟨hbw.os, hbw.tape, hbw.output, by simp; exact hbw.size, fun k hk => (World.putObj_heap_other (by omega)).trans (hbw.block k hk)⟩
    · refine ⟨some (.exit ID), _, by have := run_endLoop (P := Try.prog) hl2 (by rw [hrec]; simp); rw [hrec] at this; exact this, ?_⟩
      exact wpIn_exit (hstop _ _ hf (hStop _ _ _ hS ⟨_, hl2⟩) ((World.putObj_heap_other (by omega)).trans hk2))
  · intro W v refs hW ho hlen hmem
    have hl2 : W.heap[w.heap.size + 1]? = some (.loop (rec .ready none)) := (hW.block _ (by omega)).trans hL1
    have hk2 : W.heap[w.heap.size]? = some (.deferred (some [])) := (hW.block _ (by omega)).trans hK1
    have hlt : w.heap.size + 1 < W.heap.size := (Array.getElem?_eq_some_iff.1 hl2).1
    have hy := run_yield (P := Try.prog) (args := #[v]) hl2 (by rw [hrec]; simp [hps])
    rw [hrec] at hy
    refine ⟨fn, _, assign, body, hy, roundIn_of_wpIn trivial (hassign _ v W _ ⟨_, run_beginRound hl2 (by rw [hrec]), ?_⟩)⟩
    obtain ⟨Wb, hWb⟩ : ∃ Wb, W.putObj (w.heap.size + 1) (.loop { rec .ready none with state := .busy }) = Wb := ⟨_, rfl⟩
    rw [hWb]
    have hsb : Wb.heap.size = W.heap.size := by rw [← hWb]; simp
    have hl3 : Wb.heap[w.heap.size + 1]? = some (.loop { rec .ready none with state := .busy }) := by rw [← hWb]; exact World.putObj_heap_same hlt
    have hoth : ∀ k, k ≠ w.heap.size + 1 → Wb.heap[k]? = W.heap[k]? := fun k hk => by rw [← hWb]; exact World.putObj_heap_other hk
    have hbw := below_then hb1 hb1.size hW
    have hbb : Below w.heap.size w Wb := by
      rw [← hWb]
      exact ⟨hbw.os, hbw.tape, hbw.output, by simp; exact hbw.size, fun k hk => (World.putObj_heap_other (by omega)).trans (hbw.block k hk)⟩
    have hob : Wb.ownsRow (w.heap.size + 2) 139 2 v refs.length (rfCells refs) := by
      rw [hs1] at ho
      rw [← hWb]
      exact own_put ho (by omega) _
    refine wpIn_mono (hbody (w.heap.size + 1) v refs Wb hbb (by omega) hob hlen hmem) ?_
    rintro e a3 W3 hp
    cases e with
    | normal =>
      obtain ⟨hgd, hb3⟩ := hp
      have hl4 := (hb3.block (w.heap.size + 1) (by omega)).trans hl3
      have hr := run_endRound (P := Try.prog) none hl4
      rw [hrec] at hr
      refine ⟨_, _, hr, .inl ⟨hgd, rfl, ?_⟩⟩
      have hWb' := hWb.symm
      refine ⟨hb3.os.trans (by rw [← hWb]; rfl), hb3.tape.trans (by rw [← hWb]; rfl), hb3.output.trans (by rw [← hWb]; rfl), by have := hb3.size; simp; omega, fun k hk => ?_⟩
      by_cases hkl : k = w.heap.size + 1
      · subst hkl
        rw [hl2, World.putObj_heap_same (Array.getElem?_eq_some_iff.1 hl4).1, hrec]
        rfl
      · exact (World.putObj_heap_other hkl).trans ((hb3.block k (by omega)).trans (hoth k hkl))
    | exit id =>
      obtain ⟨rfl, hgd, hd0, hd1, hS⟩ := hp
      have hl4 := hd1.trans hl3
      have hk4 := hd0.trans ((hoth _ (by omega)).trans hk2)
      have hr := run_endRound (P := Try.prog) (some (.exit id)) hl4
      rw [hrec] at hr
      refine ⟨_, _, hr, .inr ⟨hgd, rfl, hStop _ _ _ hS ⟨_, hl4⟩, ?_, (World.putObj_heap_other (by omega)).trans hk4⟩⟩
      rw [World.putObj_heap_same (Array.getElem?_eq_some_iff.1 hl4).1, hrec]
      rfl
    | ret => exact hp.elim
    | goto t => exact hp.elim
    | panic ch => exact hp.elim
    | outgrown => exact hp.elim
end Go.Proofs.Ytfbimhnlcmdcpaa.Pa
/- The contracts of join and Join. -/
namespace Go.Proofs.Ytfbimhnlcmdcpaa.Pa
open Go.RowKit Go.Proofs.YtfbimhnlcmdcpaaW.PrintWords Go.Proofs.YtfbimhnlcmdcpaaW.PrintLast Go.Proofs.YtfbimhnlcmdcpaaW.PrintMore
attribute [local go_sem] Oper.semAt_some
set_option linter.unusedVariables false
set_option linter.unusedSimpArgs false

/-- the first list that is enough, of m references or more -/
def firstMany (free : List Rf) (good : List Rf → Bool) : Nat → Nat → List Rf
  | 0, _ => []
  | k + 1, m => match (combos free m).find? good with | some c => c | none => firstMany free good k (m + 1)
def goodJ (hs : List Hd) (h s : Nat) : List Rf → Bool := goodT (tradesS hs hs.length) (netT hs) h s
def joinT (hs : List Hd) (h s : Nat) : Option (List Rf) :=
  if goodJ hs h s (freeT hs) = false then none else some (firstMany (freeT hs) (goodJ hs h s) ((freeT hs).length + 1) 0)

theorem freeT_in (hs : List Hd) (m1 : hs.length ≤ 6) : ∀ r, r ∈ freeT hs → r.1 < 6 ∧ r.2 < 6 := by
  have key : ∀ k, k ≤ 6 → ∀ r, r ∈ freeTo hs k → r.1 < 6 ∧ r.2 < 6 := by
    intro k
    induction k with
    | zero => intro _ r hr; simp [freeTo] at hr
    | succ k ih =>
      intro hk r hr
      have hr : r ∈ freeTo hs k ++ (if (hs.getD k zHd).f2 ≠ -1 then [] else freeRow hs k hs.length) := hr
      rcases List.mem_append.1 hr with hr | hr
      · exact ih (by omega) r hr
      · split at hr
        · simp at hr
        · unfold freeRow at hr
          obtain ⟨t, ht, rfl⟩ := List.mem_map.1 hr
          have := List.mem_range.1 (List.mem_filter.1 ht).1
          exact ⟨by show k < 6; omega, by show t < 6; omega⟩
  exact key hs.length m1
theorem freeT_len (hs : List Hd) (m1 : hs.length ≤ 6) : (freeT hs).length ≤ 36 := by
  have := freeTo_len hs hs.length
  have h2 : hs.length * hs.length ≤ 36 := Nat.le_trans (Nat.mul_le_mul m1 m1) (by omega)
  unfold freeT
  omega
theorem netT_lt {cs : List Cl} {hs : List Hd} (hv : Valid cs hs) : ∀ i, netT hs i < 256 := fun i => by
  by_cases h0 : hs.length = 0
  · unfold netT stN
    rw [h0, if_neg (by omega)]
    split <;> simp [addAll]
  · have := stN_full hs (hs.length - 1)
    rw [show hs.length - 1 + 1 = hs.length by omega] at this
    unfold netT
    rw [← this]
    exact stN_lt hv _ _ (by omega) i
theorem kRf_mkM (w : World) (base : Nat) (ok : Nat → Prop) (x : Rf) : kRf.M w base ok x [.int .i64 (x.1 : Int), .int .i64 (x.2 : Int)] := ⟨[.int .i64 (x.1 : Int)], [.int .i64 (x.2 : Int)], rfl, rfl, rfl⟩
theorem rf_reps (w : World) (base : Nat) (ok : Nat → Prop) (l : List Rf) : Reps (kRf.M w base ok) 2 l (rfCells l) := by
  induction l with
  | nil => exact Reps.none _ _
  | cons r l ih => exact Kd.reps_append (Reps.snoc (Reps.none _ _) (kRf_mkM w base ok r) rfl) ih
theorem rf_reads {w : World} {base : Nat} {v : Value} {l : List Rf} (h : w.ownsRow base 139 2 v l.length (rfCells l)) : ∃ A c, v = .slice A l.length c ∧ kRf.C w A l.length l := by
  have hR : kRf.R 139 w base (fun _ => True) v l := ⟨fun _ _ => trivial, rfCells l, h, rf_reps _ _ _ _⟩
  obtain ⟨A, c, e, _, hC⟩ := Kd.R_reads hR
  exact ⟨A, c, e, hC⟩

theorem infoSl : (Try.prog.info? 22).map (fun i => (i.zero, i.size, i.bytes)) = some (some (.slice none 0 0), 1, 24) := by kernel_rfl
/-! ### the result's rows -/
def toRows (l : List Rf) : List (List Int) := l.map (fun r => [(r.1 : Int), (r.2 : Int)])
/-- rows of two numbers each, every one in a block of its own -/
structure OutRows (w : World) (base : Nat) (v : Value) (l : List Rf) : Prop where mk ::
  ok : ∃ gs : List Nat, w.ownsRow base 22 1 v l.length (gs.map (fun g => .slice (some ⟨g, 0, none⟩) 2 2)) ∧ ∀ (i : Nat) (r : Rf), l[i]? = some r → ∃ g, gs[i]? = some g ∧ base ≤ g ∧ w.heap[g]? = some (.cells #[.int .i64 (r.1 : Int), .int .i64 (r.2 : Int)] 3 (0, 0))
theorem OutRows.nil (w : World) (base : Nat) : OutRows w base (.slice none 0 0) [] := ⟨[], own_nil _ _ _ _, fun i r h => by simp at h⟩
theorem OutRows.move {w w1 : World} {base : Nat} {v : Value} {l : List Rf} (h : OutRows w base v l) (hm : ∀ k, base ≤ k → k < w.heap.size → w1.heap[k]? = w.heap[k]?) : OutRows w1 base v l := by
  obtain ⟨gs, ho, hr⟩ := h.ok
  refine ⟨gs, own_move ho (fun k hk => hm k (own_base ho k hk) (own_lt ho k hk)), fun i r hi => ?_⟩
  obtain ⟨g, hg, hb, hc⟩ := hr i r hi
  exact ⟨g, hg, hb, (hm g hb (blk_lt hc)).trans hc⟩
theorem OutRows.lower {w : World} {base base' : Nat} {v : Value} {l : List Rf} (h : OutRows w base v l) (hb : base' ≤ base) : OutRows w base' v l := by
  obtain ⟨gs, ho, hr⟩ := h.ok
  refine ⟨gs, own_weaken ho hb, fun i r hi => ?_⟩
  obtain ⟨g, h1, h2, h3⟩ := hr i r hi
  exact ⟨g, h1, by omega, h3⟩
theorem heap_set_one {w : World} {b : Nat} {u : Value} {t : TypeId} (h : w.heap[b]? = some (.cells #[u] t (0, 0))) (v : Value) : (w.setCell ⟨b, 0, none⟩ v).heap[b]? = some (.cells #[v] t (0, 0)) := by
  simp [World.setCell, Array.getElem?_modify, h]
/-- a row more: it lies in block g, a new one -/
theorem OutRows.snoc {w w1 : World} {base : Nat} {v v1 : Value} {l : List Rf} (r : Rf) (g : Nat) (gs : List Nat) (ho0 : w.ownsRow base 22 1 v l.length (gs.map (fun g => .slice (some ⟨g, 0, none⟩) 2 2)))
    (hr : ∀ (i : Nat) (r : Rf), l[i]? = some r → ∃ g, gs[i]? = some g ∧ base ≤ g ∧ w.heap[g]? = some (.cells #[.int .i64 (r.1 : Int), .int .i64 (r.2 : Int)] 3 (0, 0)))
    (hb : base ≤ g) (hg : w.heap[g]? = some (.cells #[.int .i64 (r.1 : Int), .int .i64 (r.2 : Int)] 3 (0, 0)))
    (ho : w1.ownsRow base 22 1 v1 (l.length + 1) (gs.map (fun g => .slice (some ⟨g, 0, none⟩) 2 2) ++ [.slice (some ⟨g, 0, none⟩) 2 2])) (hgr : w.grownBy w1 v.ownBlock) : OutRows w1 base v1 (l ++ [r]) := by
  have hl : gs.length = l.length := by have := ho0.1; simpa using this
  have hne : ∀ k cells, w.heap[k]? = some (Obj.cells cells 3 (0, 0)) → w1.heap[k]? = w.heap[k]? := fun k cells hk => hgr.block k (blk_lt hk) (fun e => by
    obtain ⟨c2, h2⟩ := own_typed ho0 k e.symm
    rw [hk] at h2
    injection h2 with h2
    injection h2 with _ h2
    exact absurd h2 (by decide))
  refine ⟨gs ++ [g], by rw [List.length_append, List.map_append]; exact ho, fun i q hq => ?_⟩
  by_cases hi : i < l.length
  · rw [List.getElem?_append_left hi] at hq
    obtain ⟨k, hk, hkb, hkc⟩ := hr i q hq
    exact ⟨k, by rw [List.getElem?_append_left (by omega)]; exact hk, hkb, (hne k _ hkc).trans hkc⟩
  · have hi2 : i = l.length := by
      have := (List.getElem?_eq_some_iff.1 hq).1
      simp at this
      omega
    subst hi2
    have : q = r := by simpa using hq.symm
    subst this
    exact ⟨g, by rw [← hl]; simp, hb, (hne g _ hg).trans hg⟩
theorem OutRows.R {w : World} {base : Nat} {v : Value} {l : List Rf} (h : OutRows w base v l) : Kd.R (Kd.slice 3 (Kd.int .i64)) 22 w base (fun _ => True) v (toRows l) := by
  obtain ⟨gs, ho, hr⟩ := h.ok
  have hl : gs.length = l.length := by have := ho.1; simpa using this
  refine ⟨fun _ _ => trivial, gs.map (fun g => .slice (some ⟨g, 0, none⟩) 2 2), by rw [show (toRows l).length = l.length by simp [toRows]]; exact ho, by simp [toRows, hl, Kd.slice], fun i p hp => ?_⟩
  unfold toRows at hp
  rw [List.getElem?_map] at hp
  obtain ⟨r, hr1, rfl⟩ := Option.map_eq_some_iff.1 hp
  obtain ⟨g, hg, hb, hc⟩ := hr i r hr1
  have hgi : i < gs.length := (List.getElem?_eq_some_iff.1 hg).1
  have hge : gs[i] = g := (List.getElem?_eq_some_iff.1 hg).2
  refine ⟨.slice (some ⟨g, 0, none⟩) 2 2, ?_, ?_⟩
  · show (List.drop (i * 1) _).take 1 = _
    rw [Nat.mul_one, List.drop_eq_getElem_cons (by simpa using hgi)]
    simp [hge]
  · refine Kd.R_of_own (xs := [(r.1 : Int), (r.2 : Int)]) ⟨rfl, .inr ⟨g, 2, _, rfl, hb, hc, Nat.le_refl _, by unfold maxLen; omega, rfl, rfl⟩⟩ (fun k hk => ⟨trivial, fun e => ?_⟩)
    have hk2 : g = k := by simpa [Value.ownBlock] using hk
    subst hk2
    obtain ⟨c2, h2⟩ := own_typed ho g e.symm
    rw [hc] at h2
    injection h2 with h2
    injection h2 with _ h2
    exact absurd h2 (by decide)


def markOf (D : Nat) : Deferred := { target := .collected D, args := #[] }
def slotNat (a : Act) (k : Nat) : Nat := match a.tmps.getD k undef with | .int _ i => i.toNat | _ => 0

theorem leaves_marks {P : Program} {fn : Func} {tmps : Array Value} {R : Ending → World → Prop} {v : Value} (Inv : World → Prop) (PD : Nat → Prop) (hput : ∀ W D, PD D → Inv W → Inv (W.putObj D (.deferred none)))
    (hres : ∀ W, (results fn tmps).run P W = .ok v W) (hR : ∀ W, Inv W → R (.returned v) W) : ∀ (Ds : List Nat) (W : World), Inv W → (∀ D, D ∈ Ds → PD D ∧ W.heap[D]? = some (.deferred (some []))) → Ds.Nodup → LeavesInM Fence.wide 1 P fn tmps R (Ds.map markOf) .returning W
  | [], W, hI, _, _ => ⟨_, hres W, hR W hI⟩
  | D :: Ds, W, hI, hD, hn => by
    obtain ⟨hp, hd⟩ := hD D List.mem_cons_self
    obtain ⟨hn1, hn2⟩ := List.nodup_cons.1 hn
    refine ⟨by simp, .inl ⟨D, _, rfl, run_takeDeferred hd, leaves_marks Inv PD hput hres hR Ds _ (hput W D hp hI) (fun D' h' => ?_) hn2⟩⟩
    obtain ⟨hp', hd'⟩ := hD D' (List.mem_cons_of_mem _ h')
    exact ⟨hp', (World.putObj_heap_other (fun e => hn1 (by rw [← e]; exact h'))).trans hd'⟩

set_option maxHeartbeats 4000000 in
set_option maxRecDepth 100000 in
theorem join_any (g : Nat) (cs : List Cl) (hs : List Hd) (h s : Nat) (w : World) (hL : IsList w g cs hs) (hv : Valid cs hs) (hh : h < hs.length) (hs6' : s ≤ 6) :
    Calls Try.prog 72 #[.pointer (some ⟨g, 0, none⟩), .int .i64 h, .int .i64 s] w fun e w' => ∃ v b, e = .returned (.tuple #[v, .bool b]) ∧ Below w.heap.size w w' ∧
      ((b = false ∧ joinT hs h s = none) ∨ (b = true ∧ ∃ l, joinT hs h s = some l ∧ Kd.R (Kd.slice 3 (Kd.int .i64)) 22 w' w.heap.size (fun _ => True) v (toRows l))) := by
  obtain ⟨m0, m1, -, -⟩ := hv.split
  obtain ⟨i0, hi, hz0, hz1, hz2⟩ := info_parts infoSl
  have hun := Try.underlying134
  have hur := Try.underlying139
  have HT := fun W (hW : Below w.heap.size w W) => trades_any g cs hs W (hL.below hW) hv
  have HN := fun W (hW : Below w.heap.size w W) => nets_any g cs hs W (hL.below hW) hv
  have HF := fun W (hW : Below w.heap.size w W) => free_any g cs hs W (hL.below hW) hv
  have hfin := freeT_in hs m1
  have hflen := freeT_len hs m1
  have hnl := netT_lt hv
  have htl := tradesS_lt hs hs.length m1
  have HJ : Hid (joinT hs h s = if goodT (tradesS hs hs.length) (netT hs) h s (freeT hs) = false then none else some (firstMany (freeT hs) (goodT (tradesS hs hs.length) (netT hs) h s) ((freeT hs).length + 1) 0)) := rfl
  obtain ⟨J, hJ⟩ : ∃ J, joinT hs h s = J := ⟨_, rfl⟩
  obtain ⟨free, hfree⟩ : ∃ free, freeT hs = free := ⟨_, rfl⟩
  obtain ⟨net, hnet⟩ : ∃ net, netT hs = net := ⟨_, rfl⟩
  obtain ⟨due, hdue⟩ : ∃ due, tradesS hs hs.length = due := ⟨_, rfl⟩
  rw [hJ] at HJ ⊢
  rw [hfree, hnet, hdue] at HJ
  rw [hfree] at hfin hflen
  rw [hnet] at hnl
  rw [hdue] at htl
  simp only [hdue] at HT
  simp only [hnet, netVal] at HN
  simp only [hfree] at HF
  clear hJ hfree hnet hdue hL
  have hB0 := Below.refl w.heap.size w
  refine (callsIn_wide (n := 1)).1 (callsIn_of_wp_marks Try.func72 rfl trivial ((wpIn_wide (n := 1)).2 ?_) rfl)
  simp only [Try.ntmps72, List.size_toArray, List.length_cons, List.length_nil, Nat.reduceAdd, Nat.reduceSub, Array.replicate_succ, Array.replicate_zero, List.push_toArray, List.append_toArray, List.nil_append, List.cons_append]
  go_upto_region 1 with (fail)
  have hB1 := ((Below.refl w.heap.size w).alloc (Nat.le_refl _) (.cells #[.int .i64 (h : Int)] 3)).alloc (by simp) (.cells #[.int .i64 (s : Int)] 3)
  have hbh := cells1 (blk_alloc (heap_alloc_new w (.cells #[.int .i64 (h : Int)] 3)) (.cells #[.int .i64 (s : Int)] 3))
  have hbs := second_cell w (.cells #[.int .i64 (h : Int)] 3) (.int .i64 (s : Int))
  obtain ⟨W1, hW1⟩ : ∃ W1, W1 = (w.alloc (.cells #[.int .i64 (h : Int)] 3)).alloc (.cells #[.int .i64 (s : Int)] 3) := ⟨_, rfl⟩
  rw [← hW1] at hB1 hbh hbs ⊢
  clear hW1
  refine wp_scope_straight ?_
  go_upto_region 2 with (first
    | (go_at_call 86; (with_reducible refine (HT _ hB1).mono ?_); rintro e w2 ⟨rfl, hb2⟩; have hB2 := below_then hB1 hB1.size hb2)
    | (go_at_call 87; (with_reducible refine (HN _ hB2).mono ?_); rintro e w3 ⟨rfl, hb3⟩; have hB3 := below_then hB2 hB2.size hb3)
    | (go_at_call 88; (with_reducible refine (HF _ hB3).mono ?_); rintro e w4 ⟨vf, rfl, ho4, hb4⟩; have hB4 := below_then hB3 hB3.size hb4; obtain ⟨Af, cf, rfl, hCf⟩ := rf_reads ho4))
  have hB5 := (hB4.alloc hB4.size (.cells #[.int .u8 (due : Int)] 120)).alloc (by have := hB4.size; simp; omega) (.cells (netCells net) 134)
  have hbd := cells1 (blk_alloc (heap_alloc_new w4 (.cells #[.int .u8 (due : Int)] 120)) (.cells (netCells net) 134))
  have hbn := heap_alloc_new (w4.alloc (.cells #[.int .u8 (due : Int)] 120)) (.cells (netCells net) 134)
  rw [World.size_alloc] at hbn
  have hb45 := ((Below.refl w4.heap.size w4).alloc (Nat.le_refl _) (.cells #[.int .u8 (due : Int)] 120)).alloc (by simp) (.cells (netCells net) 134)
  have hb15 := below_then (below_then (below_then hb2 hb2.size hb3) (Nat.le_trans hb2.size hb3.size) hb4) (Nat.le_trans (Nat.le_trans hb2.size hb3.size) hb4.size) hb45
  replace hbh := pw_cell_below hb15 hbh
  replace hbs := pw_cell_below hb15 hbs
  replace hCf := Kd.C_below hCf hb45
  obtain ⟨W5, hW5⟩ : ∃ W5, W5 = (w4.alloc (.cells #[.int .u8 (due : Int)] 120)).alloc (.cells (netCells net) 134) := ⟨_, rfl⟩
  have hs5 : W5.heap.size = w4.heap.size + 2 := by rw [hW5]; simp
  rw [← hW5] at hB5 hbd hbn hbh hbs hCf
  simp only [netCells] at hW5
  rw [← hW5]
  obtain ⟨q4, hq4⟩ : ∃ q, w4.heap.size = q := ⟨_, rfl⟩
  rw [hq4] at hbd hbn hs5 ⊢
  clear hW5 hb45 hb15 hb2 hb3 hb4 ho4 HT HN HF hB1 hB2 hB3 hB4 hB0 hq4
  go_upto_region 3 with (fail)
  have hbc := cells1 (heap_alloc_new W5 (.cells #[.func (.func 89) #[] #[.pointer (some ⟨q4 + 1, 0, none⟩), .pointer (some ⟨q4, 0, none⟩), .pointer (some ⟨w.heap.size, 0, none⟩), .pointer (some ⟨w.heap.size + 1, 0, none⟩)]] 141))
  rw [hs5] at hbc
  have h56 := (Below.refl W5.heap.size W5).alloc (Nat.le_refl _) (.cells #[.func (.func 89) #[] #[.pointer (some ⟨q4 + 1, 0, none⟩), .pointer (some ⟨q4, 0, none⟩), .pointer (some ⟨w.heap.size, 0, none⟩), .pointer (some ⟨w.heap.size + 1, 0, none⟩)]] 141)
  have hB6 := below_then hB5 hB5.size h56
  replace hbd := pw_cell_below h56 hbd
  replace hbn := blk_below hbn h56
  replace hbh := pw_cell_below h56 hbh
  replace hbs := pw_cell_below h56 hbs
  replace hCf := Kd.C_below hCf h56
  obtain ⟨W6, hW6⟩ : ∃ W6, W6 = W5.alloc (.cells #[.func (.func 89) #[] #[.pointer (some ⟨q4 + 1, 0, none⟩), .pointer (some ⟨q4, 0, none⟩), .pointer (some ⟨w.heap.size, 0, none⟩), .pointer (some ⟨w.heap.size + 1, 0, none⟩)]] 141) := ⟨_, rfl⟩
  have hs6 : W6.heap.size = q4 + 3 := by rw [hW6]; simp [hs5]
  rw [← hW6] at hbc hbd hbn hbh hbs hCf hB6 ⊢
  clear hW6 h56 hs5 hB5
  clear W5
  have HW := fun A' c' refs W (hW : Below W6.heap.size W6 W) (hC' : kRf.C W A' refs.length refs) hr' => with_any A' c' refs (q4 + 1) q4 w.heap.size (w.heap.size + 1) net due h s W hC' hr' hnl htl (by omega) hs6' (blk_below hbn hW) (pw_cell_below hW hbd) (pw_cell_below hW hbh) (pw_cell_below hW hbs)
  obtain ⟨good, hgood⟩ : ∃ good, goodT due net h s = good := ⟨_, rfl⟩
  rw [hgood] at HJ
  simp only [hgood] at HW
  clear hgood hbd hbn hbh hbs
  have HW0 := HW Af cf free W6 (Below.refl _ _) hCf hfin
  cases hgf : good free with
  | false =>
    rw [hgf] at HW0
    have HJ2 : Hid (J = none) := by show _ = _; rw [HJ.out, if_pos hgf]
    go_wp2_with (go_at_call 89; (with_reducible refine HW0.mono ?_); rintro e w7 ⟨rfl, hb7⟩)
    exact ⟨_, results_tmp2 rfl _ _ _, _, _, rfl, below_then hB6 hB6.size hb7, .inl ⟨rfl, HJ2.out⟩⟩
  | true =>
    rw [hgf] at HW0
    have HJ2 : Hid (J = some (firstMany free good (free.length + 1) 0)) := by show _ = _; rw [HJ.out, if_neg (by rw [hgf]; decide)]
    go_upto_region 6 with (go_at_call 89; (with_reducible refine HW0.mono ?_); rintro e w7 ⟨rfl, hb7⟩)
    refine wp_label ?_
    go_upto_region 6 with (fail)
    have hB7 := below_then hB6 hB6.size hb7
    have hB8 := hB7.alloc hB7.size (.cells #[.slice none 0 0] 62)
    have hbo := heap_alloc_new w7 (.cells #[.slice none 0 0] 62)
    have h68 := hb7.alloc hb7.size (.cells #[.slice none 0 0] 62)
    obtain ⟨W8, hW8⟩ : ∃ W8, W8 = w7.alloc (.cells #[.slice none 0 0] 62) := ⟨_, rfl⟩
    obtain ⟨q7, hq7⟩ : ∃ q, w7.heap.size = q := ⟨_, rfl⟩
    have hs8 : W8.heap.size = q7 + 1 := by rw [hW8, ← hq7]; simp
    have hq67 : W6.heap.size ≤ q7 := by rw [← hq7]; exact hb7.size
    have hq07 : w.heap.size ≤ q7 := by rw [← hq7]; exact hB7.size
    rw [hq7] at hbo ⊢
    rw [← hW8] at hB8 hbo h68 ⊢
    clear hW8 hB7 hb7 hq7 HW0 hB6
    clear w7
    replace HW := fun A' c' refs W (hW : Below W8.heap.size W8 W) (hC' : kRf.C W A' refs.length refs) hr' => HW A' c' refs W (below_then h68 h68.size hW) hC' hr'
    have hbc8 := pw_cell_below h68 hbc
    have hCf8 := Kd.C_below hCf h68
    clear hbc hCf h68 hs6
    obtain ⟨L, hLe⟩ : ∃ L, firstMany free good (free.length + 1 - 0) 0 = L := ⟨_, rfl⟩
    rw [Nat.sub_zero] at hLe
    rw [hLe] at HJ2
    replace hLe : Hid (firstMany free good (free.length + 1 - 0) 0 = L) := hLe
    go_upto_region 7 with (fail)
    refine wp_loop (fun a wr => ∃ (m : Nat) (Ds : List Nat) (u13 u32 u33 u34 u35 u36 u57 : Value), a = { tmps := #[.pointer (some ⟨g, 0, none⟩), .int .i64 (h : Int), .int .i64 (s : Int), undef, .pointer (some ⟨w.heap.size, 0, none⟩), .pointer (some ⟨w.heap.size + 1, 0, none⟩), .slice none 0 0, .bool false, .pointer (some ⟨q4, 0, none⟩), .pointer (some ⟨q4 + 1, 0, none⟩), .slice Af free.length cf, .pointer (some ⟨q4 + 2, 0, none⟩), .pointer (some ⟨q7, 0, none⟩), u13, undef, undef, undef, .pointer (some ⟨g, 0, none⟩), .int .u8 (due : Int), .pointer (some ⟨g, 0, none⟩), .agg #[.int .u8 (net 0 : Int), .int .u8 (net 1 : Int), .int .u8 (net 2 : Int), .int .u8 (net 3 : Int), .int .u8 (net 4 : Int), .int .u8 (net 5 : Int)], .pointer (some ⟨g, 0, none⟩), .slice Af free.length cf, .func (.func 89) #[] #[.pointer (some ⟨q4 + 1, 0, none⟩), .pointer (some ⟨q4, 0, none⟩), .pointer (some ⟨w.heap.size, 0, none⟩), .pointer (some ⟨w.heap.size + 1, 0, none⟩)], .func (.func 89) #[] #[.pointer (some ⟨q4 + 1, 0, none⟩), .pointer (some ⟨q4, 0, none⟩), .pointer (some ⟨w.heap.size, 0, none⟩), .pointer (some ⟨w.heap.size + 1, 0, none⟩)], .slice Af free.length cf, .bool true, .bool false, .slice Af free.length cf, .int .i64 (free.length : Int), .int .i64 ((free.length : Int) + 1), .int .i64 (m : Int), u32, u33, u34, u35, u36, undef, undef, undef, undef, undef, undef, undef, undef, undef, undef, undef, undef, undef, undef, undef, undef, undef, undef, undef, undef, u57, undef], defers := Ds.map markOf } ∧ m ≤ free.length + 1 ∧ Below W8.heap.size W8 wr ∧ (∀ D, D ∈ Ds → W8.heap.size ≤ D ∧ wr.heap[D]? = some (.deferred (some []))) ∧ Ds.Nodup ∧ Hid (firstMany free good (free.length + 1 - m) m = L))
      (fun a _ => free.length + 1 - slotNat a 31) ⟨0, [], _, _, _, _, _, _, _, rfl, by omega, Below.refl _ _, fun D hD => by simp at hD, List.nodup_nil, hLe⟩ ?_
    rintro a wr ⟨m, Ds, u13, u32, u33, u34, u35, u36, u57, rfl, hm, hbw, hDs, hnd, HK⟩
    by_cases hlt : m < free.length + 1
    · have hml : (m : Int) < (free.length : Int) + 1 := by omega
      have HP := fun W => picks_any Af free.length cf (m : Int) W
      go_wp2_with (go_at_call 91; (with_reducible refine (HP _).mono ?_); rintro e w9 ⟨rfl, rfl⟩)
      have h9 := (hbw.alloc hbw.size (.cells #[.slice Af free.length cf] 136)).alloc (by have := hbw.size; simp; omega) (.cells #[.int .i64 (m : Int)] 3)
      have hr9 := ((Below.refl wr.heap.size wr).alloc (Nat.le_refl _) (.cells #[.slice Af free.length cf] 136)).alloc (by simp) (.cells #[.int .i64 (m : Int)] 3)
      have hbl := cells1 (blk_alloc (heap_alloc_new wr (.cells #[.slice Af free.length cf] 136)) (.cells #[.int .i64 (m : Int)] 3))
      have hbm := second_cell wr (.cells #[.slice Af free.length cf] 136) (.int .i64 (m : Int))
      obtain ⟨W9, hW9⟩ : ∃ W9, W9 = (wr.alloc (.cells #[.slice Af free.length cf] 136)).alloc (.cells #[.int .i64 (m : Int)] 3) := ⟨_, rfl⟩
      have hs9 : W9.heap.size = wr.heap.size + 2 := by rw [hW9]; simp
      rw [← hW9] at h9 hr9 hbl hbm ⊢
      clear hW9
      have hq79 : q7 < W9.heap.size := by have := h9.size; omega
      have hbo9 := blk_below hbo h9
      refine wp_range_picks (A := Af) (c := cf) (free := free) (good := good) (Stop := fun refs W => W9.grownBy W (some q7) ∧ ∃ vb, W.cell? ⟨q7, 0, none⟩ = some vb ∧ OutRows W (W9.heap.size + 2) vb refs) (ID := 0) (by omega) hbm hbl (Kd.C_below hCf8 h9) rfl rfl ?stops (fun v => { tmps := #[.pointer (some ⟨g, 0, none⟩), .int .i64 (h : Int), .int .i64 (s : Int), undef, .pointer (some ⟨w.heap.size, 0, none⟩), .pointer (some ⟨w.heap.size + 1, 0, none⟩), .slice none 0 0, .bool false, .pointer (some ⟨q4, 0, none⟩), .pointer (some ⟨q4 + 1, 0, none⟩), .slice Af free.length cf, .pointer (some ⟨q4 + 2, 0, none⟩), .pointer (some ⟨q7, 0, none⟩), .int .i64 (m : Int), v, undef, undef, .pointer (some ⟨g, 0, none⟩), .int .u8 (due : Int), .pointer (some ⟨g, 0, none⟩), .agg #[.int .u8 (net 0 : Int), .int .u8 (net 1 : Int), .int .u8 (net 2 : Int), .int .u8 (net 3 : Int), .int .u8 (net 4 : Int), .int .u8 (net 5 : Int)], .pointer (some ⟨g, 0, none⟩), .slice Af free.length cf, .func (.func 89) #[] #[.pointer (some ⟨q4 + 1, 0, none⟩), .pointer (some ⟨q4, 0, none⟩), .pointer (some ⟨w.heap.size, 0, none⟩), .pointer (some ⟨w.heap.size + 1, 0, none⟩)], .func (.func 89) #[] #[.pointer (some ⟨q4 + 1, 0, none⟩), .pointer (some ⟨q4, 0, none⟩), .pointer (some ⟨w.heap.size, 0, none⟩), .pointer (some ⟨w.heap.size + 1, 0, none⟩)], .slice Af free.length cf, .bool true, .bool false, .slice Af free.length cf, .int .i64 (free.length : Int), .int .i64 ((free.length : Int) + 1), .int .i64 (m : Int), .bool true, .int .i64 (m : Int), .slice Af free.length cf, .int .i64 (m : Int), .func (.func 111) #[] #[.pointer (some ⟨wr.heap.size + 1, 0, none⟩), .pointer (some ⟨wr.heap.size, 0, none⟩)], v, undef, undef, undef, undef, undef, undef, undef, undef, undef, undef, undef, undef, undef, undef, undef, undef, undef, undef, undef, u57, undef], defers := [] }) ?assign ?body ?done ?stop
      case stops =>
        rintro refs W o ⟨hgr, vb, hvb, hO⟩ -
        refine ⟨⟨hgr.os, hgr.tape, hgr.output, by simp; exact hgr.size, fun k hk hne => (World.putObj_heap_other (by omega)).trans (hgr.block k hk hne)⟩, vb, ?_, hO.move (fun k hk _ => World.putObj_heap_other (by omega))⟩
        rw [World.cell?_of_block (w := W) (World.putObj_heap_other (by show q7 ≠ _; omega))]
        exact hvb
      case assign =>
        intro l v W K hK
        gi_wp2
        exact hK
      case body =>
        intro l v refs W hW hsW ho hlen hmem
        have hW' := (show Below W9.heap.size W9 W from hW)
        obtain ⟨Ar, cr, rfl, hCr⟩ := rf_reads ho
        have hdd : ∀ k : Nat, ((Fence.wide.inRound l).depth.isSome = true → 1 ≤ k) := fun k h => by cases h
        have hbW := below_then h9 h9.size hW
        have hbcW := pw_cell_below hbW hbc8
        have HWr := HW Ar cr refs W hbW hCr (fun r hr => hfin r (hmem r hr))
        have HLn := Lib.hid hlen
        clear hlen
        cases hgd : good refs with
        | false =>
          rw [hgd] at HWr
          have HWi := CallsIn.inRound l ((callsIn_wide (n := 0 - 1)).2 HWr)
          gi_wp2_with ((try refine ⟨trivial, rfl, ?_⟩); gi_at_call 89; (with_reducible refine HWi.mono ?_); rintro e W2 ⟨rfl, hb2⟩)
          exact ⟨hgd, hb2⟩
        | true =>
          rw [hgd] at HWr
          have HWi := CallsIn.inRound l ((callsIn_wide (n := 0 - 1)).2 HWr)
          have hl36 : refs.length ≤ 100 := by have := HLn.out; omega
          gi_wp2_with ((try refine ⟨trivial, rfl, ?_⟩); gi_at_call 89; go_loud ((with_reducible refine HWi.mono ?_); rintro e W2 ⟨rfl, hb2⟩))
          have hbo2 := blk_below (blk_below hbo9 hW') hb2
          gi_loopg [44] refs.length (fun gk v wr => ∃ (j : Nat) (vb : Value), j + gk = refs.length ∧ v = .int .i64 j ∧ W2.grownBy wr (some q7) ∧ wr.heap[q7]? = some (.cells #[vb] 62 (0, 0)) ∧ OutRows wr W2.heap.size vb (refs.take j))
          case atStart => exact ⟨0, _, by omega, rfl, World.grownBy.refl _ _, hbo2, OutRows.nil _ _⟩
          case round =>
            obtain ⟨j, vb, hj, rfl, hgr, hbx, hO⟩ := hrel
            by_cases hjl : j < refs.length
            · have how : wr.ownsRow (W9.heap.size + 2) 139 2 (.slice Ar refs.length cr) refs.length (rfCells refs) := own_move ho (fun k hk => by
                have h1 := own_base ho k hk
                have h2 := own_lt ho k hk
                exact (hgr.block k (by have := hb2.size; omega) (fun e => by cases e; omega)).trans (hb2.block k h2))
              obtain ⟨Ar', cr', hee, hCw⟩ := rf_reads how
              cases hee
              obtain ⟨ad, e, h0, h1⟩ := rfAt hCw j hjl
              cases e
              have hTk : Hid (refs.take (j + 1) = refs.take j ++ [refs.getD j (0, 0)]) := by
                show _ = _
                rw [List.take_succ_eq_append_getElem hjl, List.getD_eq_getElem?_getD, List.getElem?_eq_getElem hjl]
                rfl
              obtain ⟨gs, hog, hrr⟩ := hO.ok
              have htl : (refs.take j).length = j := by rw [List.length_take]; omega
              obtain ⟨tk, htk⟩ : ∃ tk, refs.take j = tk := ⟨_, rfl⟩
              obtain ⟨r, hre⟩ : ∃ r, refs.getD j (0, 0) = r := ⟨_, rfl⟩
              rw [hre] at h0 h1 hTk
              rw [htk] at hog hrr htl hTk
              obtain ⟨a, b⟩ := r
              simp only at h0 h1
              have hqw : q7 < wr.heap.size := blk_lt hbx
              have hsw : W2.heap.size ≤ wr.heap.size := hgr.size
              have e1 := World.new_ne wr ⟨q7, 0, none⟩ (cells1 hbx)
              have hx1 := fun o => cells1 (blk_alloc hbx o)
              have hjl' : (j : Int) < refs.length := by omega
              have hg1 := heap_alloc_new (wr.alloc (.cells #[.int .i64 (a : Int), .int .i64 (b : Int)] 139)) (.cells #[.int .i64 (a : Int), .int .i64 (b : Int)] 3)
              rw [World.size_alloc] at hg1
              have hg2 := heap_alloc_new ((wr.alloc (.cells #[.int .i64 (a : Int), .int .i64 (b : Int)] 139)).alloc (.cells #[.int .i64 (a : Int), .int .i64 (b : Int)] 3)) (.cells #[.slice (some ⟨wr.heap.size + 1, 0, none⟩) 2 2] 22)
              rw [World.size_alloc, World.size_alloc] at hg2
              have hg3 := blk_alloc hg1 (.cells #[.slice (some ⟨wr.heap.size + 1, 0, none⟩) 2 2] 22)
              have hbx3 := blk_alloc (blk_alloc (blk_alloc hbx (.cells #[.int .i64 (a : Int), .int .i64 (b : Int)] 139)) (.cells #[.int .i64 (a : Int), .int .i64 (b : Int)] 3)) (.cells #[.slice (some ⟨wr.heap.size + 1, 0, none⟩) 2 2] 22)
              have how3 := ((hog.alloc (.cells #[.int .i64 (a : Int), .int .i64 (b : Int)] 139)).alloc (.cells #[.int .i64 (a : Int), .int .i64 (b : Int)] 3)).alloc (.cells #[.slice (some ⟨wr.heap.size + 1, 0, none⟩) 2 2] 22)
              have hgr3 : W2.grownBy (((wr.alloc (.cells #[.int .i64 (a : Int), .int .i64 (b : Int)] 139)).alloc (.cells #[.int .i64 (a : Int), .int .i64 (b : Int)] 3)).alloc (.cells #[.slice (some ⟨wr.heap.size + 1, 0, none⟩) 2 2] 22)) (some q7) := ((hgr.trans (World.grownBy_alloc _ _ _)).trans (World.grownBy_alloc _ _ _)).trans (World.grownBy_alloc _ _ _)
              have hqb : some q7 ≠ vb.ownBlock := fun e => by have := own_base hog q7 e.symm; have := hb2.size; omega
              have hrr3 : ∀ (i : Nat) (r : Rf), tk[i]? = some r → ∃ g, gs[i]? = some g ∧ W2.heap.size ≤ g ∧ (((wr.alloc (.cells #[.int .i64 (a : Int), .int .i64 (b : Int)] 139)).alloc (.cells #[.int .i64 (a : Int), .int .i64 (b : Int)] 3)).alloc (.cells #[.slice (some ⟨wr.heap.size + 1, 0, none⟩) 2 2] 22)).heap[g]? = some (.cells #[.int .i64 (r.1 : Int), .int .i64 (r.2 : Int)] 3 (0, 0)) := fun i r hi => by
                obtain ⟨g, k1, k2, k3⟩ := hrr i r hi
                exact ⟨g, k1, k2, blk_alloc (blk_alloc (blk_alloc k3 _) _) _⟩
              have htk100 : tk.length ≤ 100 := by omega
              clear hrr how hCw
              gi_wp2_with (gi_at_builtin; go_loud (refine wpListIn_append_own _ rfl _ _ 62 rfl W2.heap.size 22 i0 (.slice none 0 0) 1 24 Try.underlying62 hi hz0 hz1 hz2 rfl (by decide) _ _ _ rfl how3 ⟨wr.heap.size + 2, 0, none⟩ 1 1 [.slice (some ⟨wr.heap.size + 1, 0, none⟩) 2 2] rfl rfl (World.news_of_block (cs := #[.slice (some ⟨wr.heap.size + 1, 0, none⟩) 2 2]) (t := 22) (fr := (0, 0)) hg2) (by simp [Value.oneCell']) (by unfold maxLen; omega) (by omega) (by simp; omega) ?_); intro v' w3 hown3 hgrow3 _; obtain ⟨gv, cv, rfl, -, -⟩ := hown3.form (by omega); have hO3 := OutRows.snoc (a, b) (wr.heap.size + 1) gs how3 hrr3 (by omega) hg3 hown3 hgrow3; have hbx4 := (hgrow3.block q7 (by simp; omega) hqb).trans hbx3; have hc4 := cells1 hbx4; have hf4 := blk_frozen hbx4 0)
              gi_roundg (refs.length - (j + 1))
              case measure => omega
              case rel =>
                refine ⟨j + 1, _, by omega, by go_num, ?_, heap_set_one hbx4 _, ?_⟩
                · have hst := grownBy_setCell w3 ⟨q7, 0, none⟩ (.slice (some ⟨gv, 0, none⟩) (j + 1) cv)
                  exact ⟨hst.os.trans (hgrow3.os.trans hgr3.os), hst.tape.trans (hgrow3.tape.trans hgr3.tape), hst.output.trans (hgrow3.output.trans hgr3.output), Nat.le_trans hgr3.size (Nat.le_trans hgrow3.size hst.size), fun k hk hne => (hst.block k (by have := hgr3.size; have := hgrow3.size; omega) hne).trans ((hgrow3.block k (by have := hgr3.size; omega) (fun e => by have := own_base hog k e.symm; omega)).trans (hgr3.block k hk hne))⟩
                · rw [hTk.out]
                  rw [htl] at hO3
                  exact hO3.move (fun k hk _ => Below.heap_setCell _ ⟨q7, 0, none⟩ _ k (by have := hb2.size; simp; omega))
            · obtain rfl : j = refs.length := by omega
              rw [List.take_length] at hO
              gi_wp2
              refine ⟨rfl, hgd, ?_, ?_, ?_, _, cells1 hbx, hO.lower (by have := hb2.size; omega)⟩
              · exact (hgr.block _ (by have := hb2.size; omega) (by simp; omega)).trans (hb2.block _ (by omega))
              · exact (hgr.block _ (by have := hb2.size; omega) (by simp; omega)).trans (hb2.block _ (by omega))
              · exact ⟨hgr.os.trans (hb2.os.trans hW'.os), hgr.tape.trans (hb2.tape.trans hW'.tape), hgr.output.trans (hb2.output.trans hW'.output), Nat.le_trans hW'.size (Nat.le_trans hb2.size hgr.size), fun k hk hne => (hgr.block k (by have := hb2.size; have := hW'.size; omega) hne).trans ((hb2.block k (by have := hW'.size; omega)).trans (hW'.block k hk))⟩
      case done =>
        intro W hf hb hD
        have hbW := below_then h9 h9.size hb
        have HK2 : Hid (firstMany free good (free.length + 1 - (m + 1)) (m + 1) = L) := by
          show _ = _
          have h1 := HK.out
          rw [show free.length + 1 - m = (free.length + 1 - (m + 1)) + 1 by omega] at h1
          rw [← h1]
          show _ = (match (combos free m).find? good with | some c => c | none => _)
          rw [hf]
        have hDs2 : ∀ D, D ∈ W9.heap.size :: Ds → W8.heap.size ≤ D ∧ W.heap[D]? = some (.deferred (some [])) := fun D hDm => by
          rcases List.mem_cons.1 hDm with rfl | hDm
          · exact ⟨h9.size, hD⟩
          · obtain ⟨h1, h2⟩ := hDs D hDm
            exact ⟨h1, blk_below (blk_below h2 hr9) hb⟩
        have hnd2 : (W9.heap.size :: Ds).Nodup := List.nodup_cons.2 ⟨fun hDm => by
          have := blk_lt (hDs _ hDm).2
          omega, hnd⟩
        clear HW hbm hbl
        go_wp2
        exact ⟨⟨m + 1, W9.heap.size :: Ds, _, _, _, _, _, _, _, rfl, by omega, below_then h9 h9.size hb, hDs2, hnd2, HK2⟩, by show free.length + 1 - ((m : Int) + 1).toNat < free.length + 1 - ((m : Int)).toNat; omega⟩
      case stop =>
        rintro refs W hf ⟨hgr, vb, hvb, hO⟩ hD
        have HL : Hid (L = refs) := by
          show _ = _
          have h1 := HK.out
          rw [show free.length + 1 - m = (free.length + 1 - (m + 1)) + 1 by omega] at h1
          rw [← h1]
          show (match (combos free m).find? good with | some c => c | none => _) = _
          rw [hf]
        clear HW hbm hbl
        go_wp2
        have hB9 := below_then hB8 hB8.size h9
        refine leaves_marks (v := .tuple #[vb, .bool true]) (fun W => Below w.heap.size w W ∧ OutRows W (W9.heap.size + 2) vb refs) (fun D => w.heap.size ≤ D ∧ D < W9.heap.size + 2) ?hput (fun W => results_tmp2 (show (Try.f72).results = #[ResultVar.tmp 6, ResultVar.tmp 7] from rfl) _ _ _) (fun W hI => ?hR) (W9.heap.size :: Ds) W ⟨hB9.grown hgr hB9.size (fun j hj => by cases hj; exact hq07), hO⟩ (fun D hDm => ?hD) ?hn
        case hput =>
          rintro W D ⟨hD1, hD2⟩ ⟨h1, h2⟩
          exact ⟨⟨h1.os, h1.tape, h1.output, by simp; exact h1.size, fun k hk => (World.putObj_heap_other (by omega)).trans (h1.block k hk)⟩, h2.move (fun k hk _ => World.putObj_heap_other (by omega))⟩
        case hR =>
          obtain ⟨h1, h2⟩ := hI
          exact ⟨_, _, rfl, h1, .inr ⟨rfl, refs, by rw [HJ2.out, HL.out], Kd.R_lower h2.R (by have := hB9.size; omega)⟩⟩
        case hD =>
          rcases List.mem_cons.1 hDm with rfl | hDm
          · exact ⟨⟨hB9.size, by omega⟩, hD⟩
          · obtain ⟨h1, h2⟩ := hDs D hDm
            have h3 := blk_lt h2
            exact ⟨⟨Nat.le_trans hB8.size h1, by omega⟩, (hgr.block D (by omega) (fun e => by cases e; omega)).trans (blk_below h2 hr9)⟩
        case hn =>
          exact List.nodup_cons.2 ⟨fun hDm => by
            have := blk_lt (hDs _ hDm).2
            omega, hnd⟩
    · obtain rfl : m = free.length + 1 := by omega
      have HL : Hid (L = []) := by
        show _ = _
        rw [← HK.out, Nat.sub_self]
        rfl
      have hboc := pw_cell_below hbw (cells1 hbo)
      have hB9 := below_then hB8 hB8.size hbw
      clear HW
      go_wp2
      refine leaves_marks (v := .tuple #[.slice none 0 0, .bool true]) (fun W => Below w.heap.size w W) (fun D => w.heap.size ≤ D) ?_ (fun W => results_tmp2 (show (Try.f72).results = #[ResultVar.tmp 6, ResultVar.tmp 7] from rfl) _ _ _) (fun W h1 => ?_) Ds wr hB9 (fun D hDm => ?_) hnd
      · intro W D hD1 h1
        exact ⟨h1.os, h1.tape, h1.output, by simp; exact h1.size, fun k hk => (World.putObj_heap_other (by omega)).trans (h1.block k hk)⟩
      · exact ⟨_, _, rfl, h1, .inr ⟨rfl, [], by rw [HJ2.out, HL.out], Kd.R_nil _ _ _ _ _⟩⟩
      · obtain ⟨h1, h2⟩ := hDs D hDm
        exact ⟨Nat.le_trans hB8.size h1, h2⟩
end Go.Proofs.Ytfbimhnlcmdcpaa.Pa
/- The contract of Join. -/
namespace Go.Proofs.Ytfbimhnlcmdcpaa.Pa
open Go.RowKit Go.Proofs.YtfbimhnlcmdcpaaW.PrintWords Go.Proofs.YtfbimhnlcmdcpaaW.PrintLast Go.Proofs.YtfbimhnlcmdcpaaW.PrintMore
set_option linter.unusedVariables false
set_option linter.unusedSimpArgs false

def joinR (r : Option (List Rf)) : List (List Int) × Int := match r with
  | none => ([], 11)
  | some l => (toRows l, 0)
def trade_Join.f (cs : List Cl) (hs : List Hd) (h s : Int) : Option (List (List Int) × Int) :=
  some (if askT cs hs h ≠ 0 then ([], askT cs hs h) else if betw s 0 6 = false then ([], 1) else joinR (joinT hs h.toNat s.toNat))

set_option maxHeartbeats 1000000 in
set_option maxRecDepth 100000 in
theorem trade_Join.calls (A0_0 : Option Addr) (c0_0 : Nat) (l0_0 : List (S51)) (A0_1 : Option Addr) (c0_1 : Nat) (l0_1 : List (S39)) (a1 : Int) (a2 : Int) (r1 : List (List Int)) (r2 : Int) (w : World) (hr0_0 : Kd.C k51 w A0_0 l0_0.length l0_0) (hc0_0 : l0_0.length ≤ c0_0) (hr0_1 : Kd.C k39 w A0_1 l0_1.length l0_1) (hc0_1 : l0_1.length ≤ c0_1) (h : trade_Join.f l0_0 l0_1 a1 a2 = some (r1, r2)) :
    Calls Try.prog 46 #[.agg #[.slice A0_0 l0_0.length c0_0, .slice A0_1 l0_1.length c0_1], .int .i64 a1, .int .i64 a2] w fun e w' => ∃ v0_ : Value, e = .returned (.tuple #[v0_, .int .i64 r2]) ∧ Kd.R (Kd.slice 3 (Kd.int .i64)) 22 w' w.heap.size (fun _ => True) v0_ r1 ∧ Below w.heap.size w w' := by
  have hu2 := Try.underlying26
  have hB0 := (Below.refl w.heap.size w).alloc (Nat.le_refl _) (.cells #[.slice A0_0 l0_0.length c0_0, .slice A0_1 l0_1.length c0_1] 26)
  have hB1 := hB0.alloc hB0.size (.cells #[.int .i64 a1] 3)
  have hcq := second_cell w (.cells #[.slice A0_0 l0_0.length c0_0, .slice A0_1 l0_1.length c0_1] 26) (.int .i64 a1)
  have h := Option.some.inj h
  have HT := fun W => between_any a2 0 6 W
  by_cases hz : askT l0_0 l0_1 a1 = 0
  · obtain ⟨hv, n, rfl, hn⟩ := askT_zero hz
    have HG := fun W q (hW : Below w.heap.size w W) hq => ask_good A0_0 A0_1 c0_0 c0_1 l0_0 l0_1 q n W (Kd.C_below hr0_0 hW) (Kd.C_below hr0_1 hW) hc0_0 hc0_1 hq hv hn
    rw [if_neg (by omega)] at h
    by_cases hb : betw a2 0 6 = false
    · rw [if_pos hb] at h
      simp only [Prod.mk.injEq] at h
      obtain ⟨rfl, rfl⟩ := h
      simp only [hb] at HT
      clear hz hb
      go_enter Try.func46, Try.ntmps46
      go_wp2_with (first
        | (go_at_call 51; (with_reducible refine (HG _ _ hB1 hcq).mono ?_); rintro e w1 ⟨g, rfl, hL1, hb1⟩; obtain HB1 := below_then hB1 hB1.size hb1; clear hb1)
        | (go_at_call 43; (with_reducible refine (HT _).mono ?_); rintro e w2 ⟨rfl, rfl⟩))
      go_ret2
      exact ⟨_, rfl, Kd.R_nil _ _ _ _ _, HB1⟩
    · have hb1 : betw a2 0 6 = true := by simpa using hb
      rw [if_neg hb] at h
      obtain ⟨s, rfl, hs6⟩ : ∃ s : Nat, a2 = s ∧ s ≤ 6 := by
        unfold betw at hb1
        simp only [Bool.and_eq_true, decide_eq_true_eq] at hb1
        exact ⟨a2.toNat, by omega, by omega⟩
      rw [Int.toNat_natCast, Int.toNat_natCast] at h
      have HF := fun W g (hL : IsList W g l0_0 l0_1) => join_any g l0_0 l0_1 n s W hL hv hn hs6
      obtain ⟨R, hRe⟩ : ∃ R, joinT l0_1 n s = R := ⟨_, rfl⟩
      rw [hRe] at h
      simp only [hRe] at HF
      simp only [hb1] at HT
      clear hz hRe hb hb1
      match R, h with
      | none, hR =>
        simp only [joinR, Prod.mk.injEq] at hR
        obtain ⟨rfl, rfl⟩ := hR
        have HF2 := fun W g hL => (HF W g hL).mono (R' := fun e w' => ∃ v, e = .returned (.tuple #[v, .bool false]) ∧ Below W.heap.size W w') (by
          rintro e w' ⟨v, b, rfl, hb, (⟨rfl, -⟩ | ⟨-, l, hl, -⟩)⟩
          · exact ⟨v, rfl, hb⟩
          · cases hl)
        clear HF
        go_enter Try.func46, Try.ntmps46
        go_wp2_with (first
          | (go_at_call 51; (with_reducible refine (HG _ _ hB1 hcq).mono ?_); rintro e w1 ⟨g, rfl, hL1, hb1⟩; obtain HB1 := below_then hB1 hB1.size hb1; clear hb1)
          | (go_at_call 43; (with_reducible refine (HT _).mono ?_); rintro e w2 ⟨rfl, rfl⟩)
          | (go_at_call 72; (with_reducible refine (HF2 _ _ hL1).mono ?_); rintro e w3 ⟨v, rfl, hb3⟩))
        go_ret2
        exact ⟨_, rfl, Kd.R_nil _ _ _ _ _, below_then HB1 HB1.size hb3⟩
      | some l, hR =>
        simp only [joinR, Prod.mk.injEq] at hR
        obtain ⟨rfl, rfl⟩ := hR
        have HF2 := fun W g hL => (HF W g hL).mono (R' := fun e w' => ∃ v, e = .returned (.tuple #[v, .bool true]) ∧ Kd.R (Kd.slice 3 (Kd.int .i64)) 22 w' W.heap.size (fun _ => True) v (toRows l) ∧ Below W.heap.size W w') (by
          rintro e w' ⟨v, b, rfl, hb, (⟨-, hl⟩ | ⟨rfl, l', hl, hR⟩)⟩
          · cases hl
          · cases hl
            exact ⟨v, rfl, hR, hb⟩)
        clear HF
        go_enter Try.func46, Try.ntmps46
        go_wp2_with (first
          | (go_at_call 51; (with_reducible refine (HG _ _ hB1 hcq).mono ?_); rintro e w1 ⟨g, rfl, hL1, hb1⟩; obtain HB1 := below_then hB1 hB1.size hb1; clear hb1)
          | (go_at_call 43; (with_reducible refine (HT _).mono ?_); rintro e w2 ⟨rfl, rfl⟩)
          | (go_at_call 72; (with_reducible refine (HF2 _ _ hL1).mono ?_); rintro e w3 ⟨v, rfl, hR3, hb3⟩))
        go_ret2
        exact ⟨_, rfl, Kd.R_lower hR3 HB1.size, below_then HB1 HB1.size hb3⟩
  · have HG := fun W q (hW : Below w.heap.size w W) hq => ask_bad A0_0 A0_1 c0_0 c0_1 l0_0 l0_1 q a1 W (Kd.C_below hr0_0 hW) (Kd.C_below hr0_1 hW) hc0_0 hc0_1 hq hz
    rw [if_pos hz] at h
    obtain ⟨z, hze⟩ : ∃ z, askT l0_0 l0_1 a1 = z := ⟨_, rfl⟩
    rw [hze] at h hz
    simp only [Prod.mk.injEq] at h
    obtain ⟨rfl, rfl⟩ := h
    simp only [hze] at HG
    have hz1 : (z != 0) = true := bne_iff_ne.mpr hz
    clear hz hze
    go_enter Try.func46, Try.ntmps46
    go_wp2_with (go_at_call 51; (with_reducible refine (HG _ _ hB1 hcq).mono ?_); rintro e w1 ⟨rfl, hb1⟩; obtain HB1 := below_then hB1 hB1.size hb1; clear hb1)
    go_ret2
    exact ⟨_, rfl, Kd.R_nil _ _ _ _ _, HB1⟩
end Go.Proofs.Ytfbimhnlcmdcpaa.Pa
