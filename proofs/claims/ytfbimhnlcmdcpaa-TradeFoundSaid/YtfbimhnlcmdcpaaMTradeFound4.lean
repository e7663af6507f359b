/- A part of the proof: A heading is found in n steps just if some heading found in n - 1 steps has a reference to it, and none found in fewer; trades are hidden just if they are not found so: for all lists of numbers. Without conditions of its own. -/
import Derived.Conc.LoneCalls
import Derived.Test.YtfbimhnlcmdcpaaMTradeFound3
import Derived.Test.YtfbimhnlcmdcpaaMTradeFound2
import Derived.BigRegion
/- A walk with sends and receives in one goroutine, where nothing waits: the rules of the walk for frames that are no early ones, and the two communications. -/
namespace Go.Proofs.Ytfbimhnlcmdcpaa.Pa
open Go Go.Conc
set_option linter.unusedVariables false
def Wn (P : Program) (c : Code) (Q : Exit → Act → World → Prop) (a : Act) (w : World) : Prop :=
  ∀ (b : Frame) (k : List Item) (cs : List Frame), b.kind ≠ .early → ∃ e a' w', Q e a' w' ∧ Arrives P (lone (b.at a (.code c :: k)) cs w) b k cs e a' w'
def WnL (P : Program) (ops : Array Oper) (Q : Exit → Act → World → Prop) (l : List Nat) (a : Act) (w : World) : Prop :=
  ∀ (b : Frame) (k : List Item) (cs : List Frame), b.kind ≠ .early → ∃ e a' w', Q e a' w' ∧ Arrives P (lone (b.at a (.inRegion ops l :: k)) cs w) b k cs e a' w'
section
variable {P : Program} {Q : Exit → Act → World → Prop} {a : Act} {w : World}
theorem Wn.of_wp {c : Code} (h : c.wp P Q a w) : Wn P c Q a w := fun b k cs _ => h b k cs
theorem Wn.mono {c : Code} {Q' : Exit → Act → World → Prop} (h : Wn P c Q a w) (hq : ∀ e a w, Q e a w → Q' e a w) : Wn P c Q' a w :=
  fun b k cs hb => let ⟨e, a', w', q, r⟩ := h b k cs hb; ⟨e, a', w', hq _ _ _ q, r⟩
theorem Wn.seq {x y : Code} (h : Wn P x (Exit.then (Wn P y Q) Q) a w) : Wn P (Code.seq x y) Q a w := by
  intro b k cs hb
  obtain ⟨e, a₁, w₁, hq, harr⟩ := h b (.code y :: k) cs hb
  cases e with
  | normal =>
    obtain ⟨e₂, a₂, w₂, hq₂, harr₂⟩ := hq b k cs hb
    exact ⟨e₂, a₂, w₂, hq₂, .of_steps (.head step_seq harr) harr₂⟩
  | exit id => exact ⟨_, a₁, w₁, hq, .of_steps (.one step_seq) (.pass (x := .code y) rfl (fun _ _ => .inl (by simp)) harr)⟩
  | goto l => exact ⟨_, a₁, w₁, hq, .of_steps (.one step_seq) (.pass (x := .code y) rfl (fun _ _ => .inl (by simp)) harr)⟩
  | ret => exact ⟨_, a₁, w₁, hq, .of_steps (.one step_seq) (.pass (x := .code y) rfl (fun _ _ => .inl (by simp)) harr)⟩
  | panic ch => exact ⟨_, a₁, w₁, hq, .of_steps (.one step_seq) (.pass (x := .code y) rfl (fun _ _ => .inl (by simp)) harr)⟩
  | outgrown => exact ⟨_, a₁, w₁, hq, .of_steps (.one step_seq) (.pass (x := .code y) rfl (fun _ _ => .inl (by simp)) harr)⟩
/-- A part that communicates not, walked by the kit's words. -/
theorem Wn.first {x y : Code} (h : ∀ K : Act → World → Prop, (∀ a w, Wn P y Q a w → K a w) → x.wp P (Exit.then K (fun _ _ _ => False)) a w) : Wn P (Code.seq x y) Q a w :=
  Wn.seq (Wn.mono (Wn.of_wp (h _ fun _ _ h => h)) (fun e a w h => by cases e <;> first | exact h | exact h.elim))
theorem Wn.cond {c : Operand} {x y : Code} {t : Bool} (hc : a.eval c = .bool t) (h : Wn P (if t then x else y) Q a w) : Wn P (Code.cond c x y) Q a w :=
  fun b k cs hb => let ⟨e, a', w', q, r⟩ := h b k cs hb; ⟨e, a', w', q, .of_steps (.one (step_cond hc)) r⟩
theorem Wn.skip (h : Q .normal a w) : Wn P Code.skip Q a w := .of_wp (wp_skip h)
theorem Wn.exit {id : Nat} (h : Q (.exit id) a w) : Wn P (Code.exit id) Q a w := .of_wp (wp_exit h)
theorem Wn.block {id : Nat} {c : Code} (h : Wn P c (Exit.inBlock id Q) a w) : Wn P (Code.block id c) Q a w := by
  intro b k cs hb
  obtain ⟨e, a₁, w₁, hq, harr⟩ := h b (.inBlock id :: k) cs hb
  cases e with
  | normal => exact ⟨.normal, a₁, w₁, hq, .head step_block (Steps.trans harr (.one step_inBlock))⟩
  | exit id' =>
    by_cases hid : id' = id
    · simp only [Exit.inBlock, hid, if_true] at hq
      exact ⟨.normal, a₁, w₁, hq, .head step_block (harr k (by simp [exitTo, hid]))⟩
    · simp only [Exit.inBlock, hid, if_false] at hq
      refine ⟨.exit id', a₁, w₁, hq, fun k' hk => .head step_block (harr k' ?_)⟩
      have : (id == id') = false := by simp; exact fun h => hid h.symm
      simp [exitTo, this, hk]
  | goto l => exact ⟨_, a₁, w₁, hq, fun k' hk => .head step_block (harr k' (by simp [gotoIn, hk]))⟩
  | ret => exact ⟨_, a₁, w₁, hq, .of_steps (.one step_block) harr⟩
  | panic ch => exact ⟨_, a₁, w₁, hq, .of_steps (.one step_block) harr⟩
  | outgrown => exact ⟨_, a₁, w₁, hq, .of_steps (b := b) (k := k) (cs := cs) (e := .outgrown) (.one step_block) harr⟩
/-- A loop: what holds after n rounds more. -/
theorem Wn.loop {c : Code} (I : Nat → Act → World → Prop) {n : Nat} (h₀ : I n a w)
    (round : ∀ n a w, I n a w → Wn P c (Exit.then (fun a' w' => ∃ m, m < n ∧ I m a' w') Q) a w) : Wn P (Code.loop c) Q a w := by
  intro b k cs hb
  have key : ∀ n a w, I n a w →
      ∃ e a' w', Q e a' w' ∧ Arrives P (lone (b.at a (.code c :: .inLoop c :: k)) cs w) b k cs e a' w' := by
    intro n
    induction n using Nat.strongRecOn with
    | _ n ih =>
      intro a w hI
      obtain ⟨e, a₁, w₁, hq, harr⟩ := round n a w hI b (.inLoop c :: k) cs hb
      cases e with
      | normal =>
        obtain ⟨m, hlt, hI₁⟩ := hq
        obtain ⟨e₂, a₂, w₂, hq₂, harr₂⟩ := ih m hlt a₁ w₁ hI₁
        exact ⟨e₂, a₂, w₂, hq₂, .of_steps (Steps.trans harr (.one step_inLoop)) harr₂⟩
      | exit id => exact ⟨_, a₁, w₁, hq, .pass (x := .inLoop c) rfl (fun _ _ => .inl (by simp)) harr⟩
      | goto l => exact ⟨_, a₁, w₁, hq, .pass (x := .inLoop c) rfl (fun _ _ => .inl (by simp)) harr⟩
      | ret => exact ⟨_, a₁, w₁, hq, .pass (x := .inLoop c) rfl (fun _ _ => .inl (by simp)) harr⟩
      | panic ch => exact ⟨_, a₁, w₁, hq, .pass (x := .inLoop c) rfl (fun _ _ => .inl (by simp)) harr⟩
      | outgrown => exact ⟨_, a₁, w₁, hq, .pass (x := .inLoop c) rfl (fun _ _ => .inl (by simp)) harr⟩
  obtain ⟨e, a', w', hq, harr⟩ := key _ a w h₀
  exact ⟨e, a', w', hq, .of_steps (.one step_loop) harr⟩
theorem Wn.region {id : Nat} {ops : Array Oper} (h : WnL P ops Q (List.range ops.size) a w) : Wn P (.region id ops false) Q a w :=
  fun b k cs hb => let ⟨e, a', w', q, r⟩ := h b k cs hb; ⟨e, a', w', q, .of_steps (.one step_region) r⟩
variable {ops : Array Oper} {i : Nat} {rest : List Nat} {o : Oper} {w' : World}
theorem WnL.nil (h : Q .normal a w) : WnL P ops Q [] a w := fun b k cs _ => ⟨.normal, a, w, h, .one step_region_end⟩
theorem WnL.val {v : Value} (ho : ops[i]? = some o) (hw : Region.wanted o (yielded ops a.tmps) = true) (hr : (execOp a.eval o).run P w = .ok (.value v) w') (h : WnL P ops Q rest (a.put o.dst v) w') : WnL P ops Q (i :: rest) a w := by
  intro b k cs hb
  have hg := stepG_op (P := P) (b := b) (k := k) (cs := cs) (w := w) (rest := rest) ho hw
  have hfin : ∀ v, (b.at a (.inRegion ops (i :: rest) :: k)).finish v = b.at (a.put o.dst v) (.inRegion ops rest :: k) := by
    intro v; rw [Frame.finish_at, ho]; rfl
  obtain ⟨e, a', w'', hq, harr⟩ := h b k cs hb
  refine ⟨e, a', w'', hq, .of_steps (.one (step_lone_go ?_)) harr⟩
  rw [hg, ← hfin]; simp [stepG.apply, hr]
variable {c cap s r : Nat} {buf : Array Value} {tm closed : Bool} {v z : Value}
theorem WnL.send (ho : ops[i]? = some o) (hw : Region.wanted o (yielded ops a.tmps) = true) (hr : (execOp a.eval o).run P w = .ok (.comm #[scase c v z] true .send) w') (hc : w'.heap[c]? = some (.chan cap buf false s r tm)) (hroom : buf.size < cap)
    (h : WnL P ops Q rest (a.put o.dst undef) (w'.setChan c cap (buf.push v) false (s + 1) r tm)) : WnL P ops Q (i :: rest) a w := by
  intro b k cs hb
  have hfin : ∀ v, (b.at a (.inRegion ops (i :: rest) :: k)).finish v = b.at (a.put o.dst v) (.inRegion ops rest :: k) := by
    intro v; rw [Frame.finish_at, ho]; rfl
  obtain ⟨e, a', w'', hq, harr⟩ := h b k cs hb
  refine ⟨e, a', w'', hq, .of_steps (.one ?_) harr⟩
  rw [← hfin]
  exact step_lone_send_room (stepG_comm ho hw hb hr) hc hroom
theorem WnL.recv (ho : ops[i]? = some o) (hw : Region.wanted o (yielded ops a.tmps) = true) (hr : (execOp a.eval o).run P w = .ok (.comm #[rcase c z] true (.recv false)) w') (hc : w'.heap[c]? = some (.chan cap buf closed s r tm)) (hsome : 0 < buf.size)
    (h : WnL P ops Q rest (a.put o.dst (buf.getD 0 undef)) (w'.setChan c cap (buf.extract 1 buf.size) closed s (r + 1) tm)) : WnL P ops Q (i :: rest) a w := by
  intro b k cs hb
  have hfin : ∀ v, (b.at a (.inRegion ops (i :: rest) :: k)).finish v = b.at (a.put o.dst v) (.inRegion ops rest :: k) := by
    intro v; rw [Frame.finish_at, ho]; rfl
  obtain ⟨e, a', w'', hq, harr⟩ := h b k cs hb
  refine ⟨e, a', w'', hq, .of_steps (.one ?_) harr⟩
  rw [← hfin]
  exact step_lone_recv_buf false (stepG_comm ho hw hb hr) hc hsome
end
theorem calls_of_Wn {P : Program} {f : FuncId} {fn : Func} {c : Code} {args : Array Value} {w : World} {R : Ending → World → Prop} (hf : P.funcs[f]? = some fn) (hb : fn.body = some c)
    (h : Wn P c (bodyPost P fn R) { tmps := args ++ Array.replicate (fn.ntmps - args.size) undef, defers := [] } w) : Calls P f args w R := by
  intro cs
  let b : Frame := { (default : Frame) with fn := f, kind := .normal }
  have henter : Frame.enter P f args .normal = b.at { tmps := args ++ Array.replicate (fn.ntmps - args.size) undef, defers := [] } [.code c] := by
    simp [Frame.enter, Frame.at, hf, hb, b]
  obtain ⟨e, a', w', hq, harr⟩ := h b [] cs (by simp [b])
  rw [← henter] at harr
  cases e with
  | normal =>
    obtain ⟨hd, v, hr, hR⟩ := hq
    exact ⟨.returned v, w', _, hR, Steps.trans harr (.one step_end), rfl, rfl, hd, rfl, fn, hf, hr⟩
  | ret =>
    obtain ⟨hd, v, hr, hR⟩ := hq
    obtain ⟨todo, hs⟩ := harr
    exact ⟨.returned v, w', _, hR, hs, rfl, rfl, hd, rfl, fn, hf, hr⟩
  | panic chain =>
    obtain ⟨hd, hR⟩ := hq
    obtain ⟨todo, hs⟩ := harr
    exact ⟨.panicked chain, w', _, hR, hs, rfl, rfl, hd, fn, hf⟩
  | exit id => exact hq.elim
  | goto l => exact hq.elim
  | outgrown => exact ⟨.outgrown, w', b, hq, harr.resolve_left (by simp [b]), rfl, trivial⟩
end Go.Proofs.Ytfbimhnlcmdcpaa.Pa
/- The contract of steps (a queue in a channel). Printed by wip/gen_bfs.py. -/
namespace Go.Proofs.Ytfbimhnlcmdcpaa.Pa
open Go.RowKit Go.Conc Go.Proofs.YtfbimhnlcmdcpaaW.PrintWords Go.Proofs.YtfbimhnlcmdcpaaW.PrintLast Go.Proofs.YtfbimhnlcmdcpaaW.PrintMore
set_option linter.unusedVariables false
set_option linter.unusedSimpArgs false

/-- One heading's references: those that are not found yet are found a step later, and wait. -/
def stIn (at_ : Nat) : List Int → List Int → List Int → List Int × List Int
  | [], out, q => (out, q)
  | n :: l, out, q => if out.getD n.toNat 0 < 0 then stIn at_ l (out.set n.toNat (out.getD at_ 0 + 1)) (q ++ [n]) else stIn at_ l out q
/-- Headings wait in a row; a round serves the first. -/
def stGo (hs : List Hd) : Nat → List Int → List Int → List Int
  | 0, out, _ => out
  | _ + 1, out, [] => out
  | k + 1, out, a :: q => stGo hs k (stIn a.toNat (nextT (hs.getD a.toNat zHd)) out q).1 (stIn a.toNat (nextT (hs.getD a.toNat zHd)) out q).2
def stepsT (hs : List Hd) (head : Nat) : List Int := stGo hs (hs.length + 1) ((List.replicate hs.length (-1)).set head 0) [(head : Int)]

theorem mk_chan (n : Nat) (hn : n ≤ 1000) (W : World) : (Instr.makeChan 130 (.int .i64 n)).run Try.prog W = .ok (.chan (some W.heap.size)) (W.alloc (.chan n #[] false 0 0 false)) := by
  obtain ⟨i0, hi, hz0, hz1, hz2⟩ := info_parts info3'
  exact run_makeChan (P := Try.prog) Try.underlying130 hi .i64 n (by omega) (by rw [hz2]; omega)
/-- A part, and what holds behind it. -/
theorem Wn.cut {P : Program} {x y : Code} {Q : Exit → Act → World → Prop} {a : Act} {w : World} (M : Act → World → Prop) (hx : x.wp P (Exit.then M (fun _ _ _ => False)) a w) (hy : ∀ a w, M a w → Wn P y Q a w) : Wn P (Code.seq x y) Q a w :=
  Wn.seq (Wn.mono (Wn.of_wp hx) (fun e a w h => by cases e <;> first | exact hy _ _ h | exact h.elim))
theorem Wn.last {P : Program} {x : Code} {Q : Exit → Act → World → Prop} {a : Act} {w : World} (M : Act → World → Prop) (hx : x.wp P (Exit.then M (fun _ _ _ => False)) a w) (hy : ∀ a w, M a w → Q .normal a w) : Wn P x Q a w :=
  Wn.mono (Wn.of_wp hx) (fun e a w h => by cases e <;> first | exact hy _ _ h | exact h.elim)
theorem arr67 {a : Act} (hd : a.defers = []) (hs : a.tmps.size = 67) : ∃ u0 u1 u2 u3 u4 u5 u6 u7 u8 u9 u10 u11 u12 u13 u14 u15 u16 u17 u18 u19 u20 u21 u22 u23 u24 u25 u26 u27 u28 u29 u30 u31 u32 u33 u34 u35 u36 u37 u38 u39 u40 u41 u42 u43 u44 u45 u46 u47 u48 u49 u50 u51 u52 u53 u54 u55 u56 u57 u58 u59 u60 u61 u62 u63 u64 u65 u66 : Value, a = ⟨#[u0, u1, u2, u3, u4, u5, u6, u7, u8, u9, u10, u11, u12, u13, u14, u15, u16, u17, u18, u19, u20, u21, u22, u23, u24, u25, u26, u27, u28, u29, u30, u31, u32, u33, u34, u35, u36, u37, u38, u39, u40, u41, u42, u43, u44, u45, u46, u47, u48, u49, u50, u51, u52, u53, u54, u55, u56, u57, u58, u59, u60, u61, u62, u63, u64, u65, u66], []⟩ := by
  obtain ⟨⟨l⟩, d⟩ := a
  dsimp only at hd
  subst hd
  have hs : l.length = 67 := by simpa using hs
  obtain ⟨u0, l, rfl⟩ := List.exists_cons_of_length_eq_add_one hs
  replace hs := Nat.succ.inj hs
  obtain ⟨u1, l, rfl⟩ := List.exists_cons_of_length_eq_add_one hs
  replace hs := Nat.succ.inj hs
  obtain ⟨u2, l, rfl⟩ := List.exists_cons_of_length_eq_add_one hs
  replace hs := Nat.succ.inj hs
  obtain ⟨u3, l, rfl⟩ := List.exists_cons_of_length_eq_add_one hs
  replace hs := Nat.succ.inj hs
  obtain ⟨u4, l, rfl⟩ := List.exists_cons_of_length_eq_add_one hs
  replace hs := Nat.succ.inj hs
  obtain ⟨u5, l, rfl⟩ := List.exists_cons_of_length_eq_add_one hs
  replace hs := Nat.succ.inj hs
  obtain ⟨u6, l, rfl⟩ := List.exists_cons_of_length_eq_add_one hs
  replace hs := Nat.succ.inj hs
  obtain ⟨u7, l, rfl⟩ := List.exists_cons_of_length_eq_add_one hs
  replace hs := Nat.succ.inj hs
  obtain ⟨u8, l, rfl⟩ := List.exists_cons_of_length_eq_add_one hs
  replace hs := Nat.succ.inj hs
  obtain ⟨u9, l, rfl⟩ := List.exists_cons_of_length_eq_add_one hs
  replace hs := Nat.succ.inj hs
  obtain ⟨u10, l, rfl⟩ := List.exists_cons_of_length_eq_add_one hs
  replace hs := Nat.succ.inj hs
  obtain ⟨u11, l, rfl⟩ := List.exists_cons_of_length_eq_add_one hs
  replace hs := Nat.succ.inj hs
  obtain ⟨u12, l, rfl⟩ := List.exists_cons_of_length_eq_add_one hs
  replace hs := Nat.succ.inj hs
  obtain ⟨u13, l, rfl⟩ := List.exists_cons_of_length_eq_add_one hs
  replace hs := Nat.succ.inj hs
  obtain ⟨u14, l, rfl⟩ := List.exists_cons_of_length_eq_add_one hs
  replace hs := Nat.succ.inj hs
  obtain ⟨u15, l, rfl⟩ := List.exists_cons_of_length_eq_add_one hs
  replace hs := Nat.succ.inj hs
  obtain ⟨u16, l, rfl⟩ := List.exists_cons_of_length_eq_add_one hs
  replace hs := Nat.succ.inj hs
  obtain ⟨u17, l, rfl⟩ := List.exists_cons_of_length_eq_add_one hs
  replace hs := Nat.succ.inj hs
  obtain ⟨u18, l, rfl⟩ := List.exists_cons_of_length_eq_add_one hs
  replace hs := Nat.succ.inj hs
  obtain ⟨u19, l, rfl⟩ := List.exists_cons_of_length_eq_add_one hs
  replace hs := Nat.succ.inj hs
  obtain ⟨u20, l, rfl⟩ := List.exists_cons_of_length_eq_add_one hs
  replace hs := Nat.succ.inj hs
  obtain ⟨u21, l, rfl⟩ := List.exists_cons_of_length_eq_add_one hs
  replace hs := Nat.succ.inj hs
  obtain ⟨u22, l, rfl⟩ := List.exists_cons_of_length_eq_add_one hs
  replace hs := Nat.succ.inj hs
  obtain ⟨u23, l, rfl⟩ := List.exists_cons_of_length_eq_add_one hs
  replace hs := Nat.succ.inj hs
  obtain ⟨u24, l, rfl⟩ := List.exists_cons_of_length_eq_add_one hs
  replace hs := Nat.succ.inj hs
  obtain ⟨u25, l, rfl⟩ := List.exists_cons_of_length_eq_add_one hs
  replace hs := Nat.succ.inj hs
  obtain ⟨u26, l, rfl⟩ := List.exists_cons_of_length_eq_add_one hs
  replace hs := Nat.succ.inj hs
  obtain ⟨u27, l, rfl⟩ := List.exists_cons_of_length_eq_add_one hs
  replace hs := Nat.succ.inj hs
  obtain ⟨u28, l, rfl⟩ := List.exists_cons_of_length_eq_add_one hs
  replace hs := Nat.succ.inj hs
  obtain ⟨u29, l, rfl⟩ := List.exists_cons_of_length_eq_add_one hs
  replace hs := Nat.succ.inj hs
  obtain ⟨u30, l, rfl⟩ := List.exists_cons_of_length_eq_add_one hs
  replace hs := Nat.succ.inj hs
  obtain ⟨u31, l, rfl⟩ := List.exists_cons_of_length_eq_add_one hs
  replace hs := Nat.succ.inj hs
  obtain ⟨u32, l, rfl⟩ := List.exists_cons_of_length_eq_add_one hs
  replace hs := Nat.succ.inj hs
  obtain ⟨u33, l, rfl⟩ := List.exists_cons_of_length_eq_add_one hs
  replace hs := Nat.succ.inj hs
  obtain ⟨u34, l, rfl⟩ := List.exists_cons_of_length_eq_add_one hs
  replace hs := Nat.succ.inj hs
  obtain ⟨u35, l, rfl⟩ := List.exists_cons_of_length_eq_add_one hs
  replace hs := Nat.succ.inj hs
  obtain ⟨u36, l, rfl⟩ := List.exists_cons_of_length_eq_add_one hs
  replace hs := Nat.succ.inj hs
  obtain ⟨u37, l, rfl⟩ := List.exists_cons_of_length_eq_add_one hs
  replace hs := Nat.succ.inj hs
  obtain ⟨u38, l, rfl⟩ := List.exists_cons_of_length_eq_add_one hs
  replace hs := Nat.succ.inj hs
  obtain ⟨u39, l, rfl⟩ := List.exists_cons_of_length_eq_add_one hs
  replace hs := Nat.succ.inj hs
  obtain ⟨u40, l, rfl⟩ := List.exists_cons_of_length_eq_add_one hs
  replace hs := Nat.succ.inj hs
  obtain ⟨u41, l, rfl⟩ := List.exists_cons_of_length_eq_add_one hs
  replace hs := Nat.succ.inj hs
  obtain ⟨u42, l, rfl⟩ := List.exists_cons_of_length_eq_add_one hs
  replace hs := Nat.succ.inj hs
  obtain ⟨u43, l, rfl⟩ := List.exists_cons_of_length_eq_add_one hs
  replace hs := Nat.succ.inj hs
  obtain ⟨u44, l, rfl⟩ := List.exists_cons_of_length_eq_add_one hs
  replace hs := Nat.succ.inj hs
  obtain ⟨u45, l, rfl⟩ := List.exists_cons_of_length_eq_add_one hs
  replace hs := Nat.succ.inj hs
  obtain ⟨u46, l, rfl⟩ := List.exists_cons_of_length_eq_add_one hs
  replace hs := Nat.succ.inj hs
  obtain ⟨u47, l, rfl⟩ := List.exists_cons_of_length_eq_add_one hs
  replace hs := Nat.succ.inj hs
  obtain ⟨u48, l, rfl⟩ := List.exists_cons_of_length_eq_add_one hs
  replace hs := Nat.succ.inj hs
  obtain ⟨u49, l, rfl⟩ := List.exists_cons_of_length_eq_add_one hs
  replace hs := Nat.succ.inj hs
  obtain ⟨u50, l, rfl⟩ := List.exists_cons_of_length_eq_add_one hs
  replace hs := Nat.succ.inj hs
  obtain ⟨u51, l, rfl⟩ := List.exists_cons_of_length_eq_add_one hs
  replace hs := Nat.succ.inj hs
  obtain ⟨u52, l, rfl⟩ := List.exists_cons_of_length_eq_add_one hs
  replace hs := Nat.succ.inj hs
  obtain ⟨u53, l, rfl⟩ := List.exists_cons_of_length_eq_add_one hs
  replace hs := Nat.succ.inj hs
  obtain ⟨u54, l, rfl⟩ := List.exists_cons_of_length_eq_add_one hs
  replace hs := Nat.succ.inj hs
  obtain ⟨u55, l, rfl⟩ := List.exists_cons_of_length_eq_add_one hs
  replace hs := Nat.succ.inj hs
  obtain ⟨u56, l, rfl⟩ := List.exists_cons_of_length_eq_add_one hs
  replace hs := Nat.succ.inj hs
  obtain ⟨u57, l, rfl⟩ := List.exists_cons_of_length_eq_add_one hs
  replace hs := Nat.succ.inj hs
  obtain ⟨u58, l, rfl⟩ := List.exists_cons_of_length_eq_add_one hs
  replace hs := Nat.succ.inj hs
  obtain ⟨u59, l, rfl⟩ := List.exists_cons_of_length_eq_add_one hs
  replace hs := Nat.succ.inj hs
  obtain ⟨u60, l, rfl⟩ := List.exists_cons_of_length_eq_add_one hs
  replace hs := Nat.succ.inj hs
  obtain ⟨u61, l, rfl⟩ := List.exists_cons_of_length_eq_add_one hs
  replace hs := Nat.succ.inj hs
  obtain ⟨u62, l, rfl⟩ := List.exists_cons_of_length_eq_add_one hs
  replace hs := Nat.succ.inj hs
  obtain ⟨u63, l, rfl⟩ := List.exists_cons_of_length_eq_add_one hs
  replace hs := Nat.succ.inj hs
  obtain ⟨u64, l, rfl⟩ := List.exists_cons_of_length_eq_add_one hs
  replace hs := Nat.succ.inj hs
  obtain ⟨u65, l, rfl⟩ := List.exists_cons_of_length_eq_add_one hs
  replace hs := Nat.succ.inj hs
  obtain ⟨u66, l, rfl⟩ := List.exists_cons_of_length_eq_add_one hs
  replace hs := Nat.succ.inj hs
  obtain rfl := List.eq_nil_of_length_eq_zero hs
  exact ⟨u0, u1, u2, u3, u4, u5, u6, u7, u8, u9, u10, u11, u12, u13, u14, u15, u16, u17, u18, u19, u20, u21, u22, u23, u24, u25, u26, u27, u28, u29, u30, u31, u32, u33, u34, u35, u36, u37, u38, u39, u40, u41, u42, u43, u44, u45, u46, u47, u48, u49, u50, u51, u52, u53, u54, u55, u56, u57, u58, u59, u60, u61, u62, u63, u64, u65, u66, rfl⟩

/-- What stays in steps' slots: the list, the heading, the result's row, the channel. -/
structure SA (g h b c n : Nat) (a : Act) : Prop where
  mk ::
  dz : a.defers = []
  sz : a.tmps.size = 67
  t0 : a.tmps[0]? = some (.pointer (some ⟨g, 0, none⟩))
  t1 : a.tmps[1]? = some (.int .i64 h)
  t5 : a.tmps[5]? = some (.slice (some ⟨b, 0, none⟩) n n)
  t6 : a.tmps[6]? = some (.chan (some c))
/-- The slots between two steps of the inner loop. -/
structure MA (g h b c n : Nat) (v7 v8 v42 v43 v44 : Value) (Wz : World) (a : Act) (W : World) : Prop where
  mk ::
  sa : SA g h b c n a
  t7 : a.tmps[7]? = some v7
  t8 : a.tmps[8]? = some v8
  t42 : a.tmps[42]? = some v42
  t43 : a.tmps[43]? = some v43
  t44 : a.tmps[44]? = some v44
  e : W = Wz
def intV (l : List Int) : Array Value := (l.map (Value.int .i64)).toArray
theorem intV_set (l : List Int) (i : Nat) (x : Int) : (intV l).setIfInBounds i (.int .i64 x) = intV (l.set i x) := by simp [intV, List.map_set]
theorem intV_push (l : List Int) (x : Int) : (intV l).push (.int .i64 x) = intV (l ++ [x]) := by simp [intV]
theorem intV_pop (x : Int) (l : List Int) : (intV (x :: l)).extract 1 (intV (x :: l)).size = intV l := by
  have : List.take l.length (List.map (Value.int .i64) l) = List.map (Value.int .i64) l := List.take_of_length_le (by simp)
  simp [intV, this]
theorem intV_get (l : List Int) (i : Nat) (hi : i < l.length) : (intV l)[i]? = some (.int .i64 (l.getD i 0)) := by simp [intV, hi]
/-- The world of steps: the result's row at block b, the channel at c. -/
structure QS (w W : World) (b c n : Nat) (out q : List Int) : Prop where
  mk ::
  wb : w.heap.size ≤ b
  wc : w.heap.size ≤ c
  bc : b ≠ c
  ob : W.heap[b]? = some (.cells (intV out) 3 (0, 0))
  cb : ∃ s r, W.heap[c]? = some (.chan n (intV q) false s r false)
  bl : Below w.heap.size w W
section
variable {w W W1 : World} {b c n : Nat} {out q : List Int}
theorem QS.below (h : QS w W b c n out q) (hb : Below W.heap.size W W1) : QS w W1 b c n out q := by
  obtain ⟨s, r, hc⟩ := h.cb
  exact ⟨h.wb, h.wc, h.bc, blk_below h.ob hb, ⟨s, r, blk_below hc hb⟩, below_step h.bl hb⟩
theorem QS.set (h : QS w W b c n out q) (i : Nat) (x : Int) : QS w (W.setCell ⟨b, i, none⟩ (.int .i64 x)) b c n (out.set i x) q := by
  obtain ⟨s, r, hc⟩ := h.cb
  exact ⟨h.wb, h.wc, h.bc, blk_put h.ob i _ (intV_set out i x), ⟨s, r, (Below.heap_setCell W ⟨b, i, none⟩ _ c (Ne.symm h.bc)).trans hc⟩, below_set h.bl h.wb⟩
theorem QS.chan (h : QS w W b c n out q) (q' : List Int) (s r : Nat) : QS w (W.setChan c n (intV q') false s r false) b c n out q' := by
  obtain ⟨s0, r0, hc⟩ := h.cb
  refine ⟨h.wb, h.wc, h.bc, ?_, ⟨s, r, heap_setChan W c n (intV q') false s r false (blk_lt hc)⟩, below_setChan h.bl h.wc _ _ _ _ _ _⟩
  simp only [World.setChan]
  rw [Array.getElem?_setIfInBounds_ne (Ne.symm h.bc)]
  exact h.ob
theorem QS.get (h : QS w W b c n out q) (i : Nat) (hi : i < out.length) : W.cell? ⟨b, i, none⟩ = some (.int .i64 (out.getD i 0)) := (blk_cell h.ob i).trans (intV_get out i hi)
end
/-- What steps keeps: n entries, none above its round's bound; each that waits is a heading that is found; room in the channel. -/
structure QI (n k : Nat) (out q : List Int) : Prop where
  mk ::
  len : out.length = n
  up : ∀ i, out.getD i 0 + (k : Int) ≤ n + 1
  lo : ∀ i, -1 ≤ out.getD i 0
  wait : ∀ x ∈ q, ∃ p : Nat, x = p ∧ p < n ∧ 0 ≤ out.getD p 0
  kn : k ≤ n + 1
  room : q.length + out.countP (· < 0) + 1 ≤ k
theorem set_getD (l : List Int) (p i : Nat) (x d : Int) (hp : p < l.length) : (l.set p x).getD i d = if i = p then x else l.getD i d := by
  simp only [List.getD_eq_getElem?_getD, List.getElem?_set]
  by_cases h : p = i
  · subst h; simp [hp]
  · simp [h, Ne.symm h]
theorem QI.put {n k : Nat} {out q : List Int} (h : QI n k out q) {p : Nat} (hp : p < n) (hneg : out.getD p 0 < 0) {x : Int} (h0 : 0 ≤ x) (hx : x + (k : Int) ≤ n + 1) : QI n k (out.set p x) (q ++ [(p : Int)]) ∧ q.length < n := by
  have hpl : p < out.length := by rw [h.len]; exact hp
  have hcp : (out.set p x).countP (· < 0) + 1 = out.countP (· < 0) := by
    rw [List.countP_set hpl]
    have h1 : decide (out[p] < 0) = true := by
      rw [List.getD_eq_getElem?_getD, List.getElem?_eq_getElem hpl] at hneg
      simpa using hneg
    have h2 : decide (x < 0) = false := decide_eq_false (by omega)
    have h3 : 0 < out.countP (· < 0) := List.countP_pos_iff.2 ⟨out[p], List.getElem_mem _, h1⟩
    rw [h1, h2]
    simp
    omega
  have hr := h.room
  have hkn := h.kn
  refine ⟨⟨by rw [List.length_set]; exact h.len, fun i => ?_, fun i => ?_, fun y hy => ?_, hkn, ?_⟩, by omega⟩
  · rw [set_getD _ _ _ _ _ hpl]; split; exact hx; exact h.up i
  · rw [set_getD _ _ _ _ _ hpl]; split; omega; exact h.lo i
  · rcases List.mem_append.1 hy with hy | hy
    · obtain ⟨p', e, h1, h2⟩ := h.wait y hy
      refine ⟨p', e, h1, ?_⟩
      rw [set_getD _ _ _ _ _ hpl]; split; exact h0; exact h2
    · rw [List.mem_singleton] at hy
      exact ⟨p, hy, hp, by rw [set_getD _ _ _ _ _ hpl, if_pos rfl]; exact h0⟩
  · rw [List.length_append, List.length_singleton]; omega
theorem QI.pop {n k : Nat} {out q : List Int} {x : Int} (h : QI n (k + 1) out (x :: q)) : QI n k out q := by
  have hr := h.room
  have hkn := h.kn
  rw [List.length_cons] at hr
  exact ⟨h.len, fun i => by have := h.up i; omega, h.lo, fun y hy => h.wait y (List.mem_cons_of_mem _ hy), by omega, by omega⟩
theorem stGo_nil (hs : List Hd) (out : List Int) : ∀ f, stGo hs f out [] = out
  | 0 => rfl
  | _ + 1 => rfl
/-- A method next, where blocks B and B2 alone are written behind it. -/
def NextOk2 (w : World) (B B2 : Nat) (L : List Int) (f : FuncId) (pv : Value) : Prop :=
  ∀ W : World, Below w.heap.size w W → B < W.heap.size → B2 < W.heap.size → Calls Try.prog f #[pv] W fun e w' => ∃ A c, e = .returned (.slice A L.length c) ∧ Below W.heap.size W w' ∧ ∀ W' : World, Below w.heap.size w W' → (∀ i, i < w'.heap.size → i ≠ B → i ≠ B2 → W'.heap[i]? = w'.heap[i]?) → (Kd.int .i64).C W' A L.length L
theorem next_any2 {w : World} {x : Hd} {v : Value} (h : KindVal w x v) (B B2 : Nat) :
    (x.f2 ≠ -1 ∧ ∃ pv, v = .iface 113 pv ∧ NextOk2 w B B2 (nextT x) 141 pv) ∨ (x.f2 = -1 ∧ x.f1 ≠ -1 ∧ ∃ pv, v = .iface 103 pv ∧ NextOk2 w B B2 (nextT x) 140 pv) ∨ (x.f2 = -1 ∧ x.f1 = -1 ∧ ∃ pv, v = .iface 115 pv ∧ NextOk2 w B B2 (nextT x) 142 pv) := by
  rcases h with ⟨k1, rfl⟩ | ⟨k1, k2, B3, d3, rfl, k3, k4⟩ | ⟨k1, k2, B3, d3, rfl, k3, k4⟩
  · refine .inl ⟨k1, _, rfl, fun W hW hBW hBW2 => (next_ptr x.f2 W).mono ?_⟩
    rintro e w' ⟨g, rfl, hg0, hg1, hgc, hb⟩
    have hL : nextT x = [x.f2] := if_pos k1
    rw [hL]
    refine ⟨_, _, rfl, hb, fun W' _ hg => C_int1 ?_⟩
    have h1 := hg g hg1 (by omega) (by omega)
    have h2 : W'.cell? ⟨g, 0, none⟩ = w'.cell? ⟨g, 0, none⟩ := by simp only [World.cell?, h1]
    exact h2.trans hgc
  · refine .inr (.inl ⟨k1, k2, _, rfl, fun W hW hBW hBW2 => (next_art x.f1 B3 x.f3.length d3 W).mono ?_⟩)
    rintro e w' ⟨rfl, hb⟩
    have hL : nextT x = x.f3 := if_neg (by omega)
    rw [hL]
    exact ⟨_, _, rfl, hb, fun W' hW' _ => Kd.C_below k4 hW'⟩
  · refine .inr (.inr ⟨k1, k2, _, rfl, fun W hW hBW hBW2 => (next_idx B3 x.f3.length d3 W).mono ?_⟩)
    rintro e w' ⟨rfl, hb⟩
    have hL : nextT x = x.f3 := if_neg (by omega)
    rw [hL]
    exact ⟨_, _, rfl, hb, fun W' hW' _ => Kd.C_below k4 hW'⟩

set_option maxHeartbeats 4000000 in
set_option maxRecDepth 100000 in
theorem steps_any (g : Nat) (cs : List Cl) (hs : List Hd) (h : Nat) (w : World) (hL : IsList w g cs hs) (hv : Valid cs hs) (hh : h < hs.length) :
    Calls Try.prog 68 #[.pointer (some ⟨g, 0, none⟩), .int .i64 h] w fun e w' => ∃ b, e = .returned (.slice (some ⟨b, 0, none⟩) hs.length hs.length) ∧ w.heap.size ≤ b ∧ w'.heap[b]? = some (.cells (intV (stepsT hs h)) 3 (0, 0)) ∧ (stepsT hs h).length = hs.length ∧ Below w.heap.size w w' := by
  obtain ⟨m0, m1, -, -⟩ := hv.split
  have hu3 := Try.underlying81
  obtain ⟨A0, c0, A1, c1, A2, c2, A3, c3, hg, l0, l1, r0, r1, r2, r3⟩ := hL.ok
  obtain ⟨g0, g1, g2, g3⟩ := cells4 hg
  have HRp := fun A c W hA => repeat_any A c (-1) hs.length W hA (by omega) (by omega)
  have hmc := mk_chan hs.length (by omega)
  clear hL
  refine calls_of_Wn Try.func68 rfl ?_
  simp only [Try.ntmps68, List.size_toArray, List.length_cons, List.length_nil, Nat.reduceAdd, Nat.reduceSub, Array.replicate_succ, Array.replicate_zero, List.push_toArray, List.append_toArray, List.nil_append, List.cons_append]
  refine Wn.first (fun K hK => ?_)
  go_wp2
  refine Wn.first (fun K hK => ?_)
  have hB1 := (Below.refl w.heap.size w).alloc (Nat.le_refl _) (.cells #[.int .i64 (-1)] 3)
  have q3 := pw_cell_below hB1 g3
  have hc1 := cells1 (heap_alloc_new w (.cells #[.int .i64 (-1)] 3))
  go_wp2_with (go_at_call 85; go_loud ((with_reducible refine (HRp _ _ _ hc1).mono ?_); rintro e w2 ⟨b, rfl, hwb, hbk, hb2⟩; have HB2 := below_then hB1 hB1.size hb2; have p3 := pw_cell_below HB2 g3))
  have hwb' : w.heap.size ≤ b := Nat.le_trans hB1.size hwb
  clear hb2 hwb q3 hc1 hB1
  have hcz : w2.cell? ⟨b, h, none⟩ = some (.int .i64 (-1)) := by
    refine (blk_cell hbk h).trans ?_
    simp [hh]
  have hfz := blk_frozen hbk h
  have hgb : g ≠ b := by have := World.block_lt_of_cell? w ⟨g, 3, none⟩ g3; show g ≠ b; simp only at this; omega
  have hbk2 : (w2.setCell ⟨b, h, none⟩ (.int .i64 0)).heap[b]? = some (.cells (intV ((List.replicate hs.length (-1)).set h 0)) 3 (0, 0)) := blk_put hbk h (.int .i64 0) (by rw [← intV_set]; simp [intV])
  have HB3 : Below w.heap.size w (w2.setCell ⟨b, h, none⟩ (.int .i64 0)) := below_set HB2 hwb'
  refine Wn.first (fun K hK => ?_)
  go_wp2
  have p4 := pw_cell_below HB3 g3
  obtain ⟨w3, hw3⟩ : ∃ W, W = w2.setCell ⟨b, h, none⟩ (.int .i64 0) := ⟨_, rfl⟩
  rw [← hw3] at hbk2 HB3 p4 ⊢
  clear hw3 hcz hfz hbk HB2 p3
  refine Wn.first (fun K hK => ?_)
  go_wp2
  have hQ : QS w (w3.alloc (.chan hs.length #[] false 0 0 false)) b w3.heap.size hs.length ((List.replicate hs.length (-1)).set h 0) [] :=
    ⟨hwb', HB3.size, Nat.ne_of_lt (blk_lt hbk2), blk_alloc hbk2 _, ⟨0, 0, heap_alloc_new w3 _⟩, HB3.alloc HB3.size _⟩
  obtain ⟨c, hc⟩ : ∃ c, c = w3.heap.size := ⟨_, rfl⟩
  obtain ⟨w4, hw4⟩ : ∃ W, W = w3.alloc (.chan hs.length #[] false 0 0 false) := ⟨_, rfl⟩
  rw [← hw4, ← hc] at hQ ⊢
  clear hw4 hc hbk2 HB3 p4 hmc HRp
  -- the first send
  refine Wn.seq (Wn.region ?_)
  obtain ⟨s0, r0', hcb⟩ := hQ.cb
  refine WnL.val rfl rfl (w' := w4) rfl ?_
  refine WnL.val rfl rfl (w' := w4) rfl ?_
  refine WnL.send (c := c) (v := .int .i64 h) (z := .tuple #[]) rfl rfl (by simp [execOp, scase, Act.eval, Act.put]) hcb (by simp [intV]; omega) ?_
  refine WnL.nil ?_
  rw [show (intV []).push (.int .i64 (h : Int)) = intV [(h : Int)] from intV_push [] h]
  have hQ1 := hQ.chan [(h : Int)] (s0 + 1) r0'
  have hI0 : QI hs.length (hs.length + 1) ((List.replicate hs.length (-1)).set h 0) [(h : Int)] := by
    have hi0 : QI hs.length (hs.length + 1) (List.replicate hs.length (-1)) [] := ⟨by simp, fun i => by simp only [List.getD_eq_getElem?_getD, List.getElem?_replicate]; split <;> simp <;> omega, fun i => by simp only [List.getD_eq_getElem?_getD, List.getElem?_replicate]; split <;> simp, fun _ h => (by simp at h), Nat.le_refl _, by simp [List.countP_replicate]⟩
    exact (hi0.put hh (by simp [hh]) (Int.le_refl 0) (by omega)).1
  obtain ⟨R, hRe⟩ : ∃ R, stepsT hs h = R := ⟨_, rfl⟩
  have hR : Hid (stGo hs (hs.length + 1) ((List.replicate hs.length (-1)).set h 0) [(h : Int)] = R) := hRe
  rw [hRe]
  clear hRe
  obtain ⟨out, hout⟩ : ∃ o, o = (List.replicate hs.length (-1 : Int)).set h 0 := ⟨_, rfl⟩
  obtain ⟨w5, hw5⟩ : ∃ W, W = w4.setChan c hs.length (intV [(h : Int)]) false (s0 + 1) r0' false := ⟨_, rfl⟩
  rw [← hout] at hQ1 hI0 hR
  rw [← hw5] at hQ1 ⊢
  clear hout hw5 hQ hcb
  show Wn _ _ _ _ _
  refine Wn.seq ?_
  refine Wn.first (fun K hK => ?_)
  go_wp2
  refine Wn.block ?_
  refine Wn.loop (fun f a W => SA g h b c hs.length a ∧ ∃ (out q : List Int), a.tmps[7]? = some (.int .i64 (q.length : Int)) ∧ QS w W b c hs.length out q ∧ QI hs.length f out q ∧ Hid (stGo hs f out q = R)) (n := hs.length + 1) ⟨⟨rfl, rfl, rfl, rfl, rfl, rfl⟩, out, [(h : Int)], rfl, hQ1, hI0, hR⟩ ?_
  clear hQ1 hI0 hR
  rintro f a W ⟨hA, out, q, h7, hQ, hI, hR⟩
  obtain ⟨x0, x1, x2, x3, x4, x5, x6, x7, x8, x9, x10, x11, x12, x13, x14, x15, x16, x17, x18, x19, x20, x21, x22, x23, x24, x25, x26, x27, x28, x29, x30, x31, x32, x33, x34, x35, x36, x37, x38, x39, x40, x41, x42, x43, x44, x45, x46, x47, x48, x49, x50, x51, x52, x53, x54, x55, x56, x57, x58, x59, x60, x61, x62, x63, x64, x65, x66, rfl⟩ := arr67 hA.dz hA.sz
  obtain rfl : x0 = .pointer (some ⟨g, 0, none⟩) := Option.some.inj hA.t0
  obtain rfl : x1 = .int .i64 h := Option.some.inj hA.t1
  obtain rfl : x5 = .slice (some ⟨b, 0, none⟩) hs.length hs.length := Option.some.inj hA.t5
  obtain rfl : x6 = .chan (some c) := Option.some.inj hA.t6
  obtain rfl : x7 = .int .i64 (q.length : Int) := Option.some.inj h7
  clear hA h7
  refine Wn.seq ?_
  refine Wn.first (fun K hK => ?_)
  cases q with
  | nil =>
    have hgt : decide ((([] : List Int).length : Int) > 0) = false := rfl
    go_wp2
    refine Wn.cond (t := false) rfl ?_
    refine Wn.exit ?_
    simp only [Exit.then, Exit.inBlock, if_true]
    refine Wn.of_wp ?_
    have hF : out = R := (stGo_nil hs out f).symm.trans hR.out
    subst hF
    go_wp2
    go_ret
    exact ⟨b, rfl, hwb', hQ.ob, hI.len, hQ.bl⟩
  | cons x q =>
    have hgt : decide (((x :: q).length : Int) > 0) = true := decide_eq_true (by rw [List.length_cons]; omega)
    have hgt2 : decide (0 < ((x :: q).length : Int)) = true := decide_eq_true (by rw [List.length_cons]; omega)
    go_wp2
    refine Wn.cond (t := true) rfl ?_
    refine Wn.skip ?_
    show Wn _ _ _ _ _
    obtain ⟨p, rfl, hp, hp0⟩ := hI.wait x List.mem_cons_self
    cases f with
    | zero => have := hI.room; omega
    | succ f =>
    have hup := hI.up p
    replace hI := hI.pop
    replace hR : Hid (stGo hs f (stIn p (nextT (hs.getD p zHd)) out q).1 (stIn p (nextT (hs.getD p zHd)) out q).2 = R) := by
      have h := hR.out
      simp only [stGo, Int.toNat_natCast] at h
      exact h
    obtain ⟨s1, r1', hcb⟩ := hQ.cb
    refine Wn.seq (Wn.block (Wn.seq (Wn.region ?_)))
    refine WnL.val rfl rfl (w' := W) rfl ?_
    refine WnL.recv (c := c) (z := .int .i64 0) rfl rfl (by simp [go_sem, rcase, Act.put]) hcb (by simp [intV]) ?_
    rw [show (intV ((p : Int) :: q)).getD 0 undef = .int .i64 (p : Int) from rfl, intV_pop]
    have hQ1 := hQ.chan q s1 (r1' + 1)
    obtain ⟨W1, hW1⟩ : ∃ W1, W1 = W.setChan c hs.length (intV q) false s1 (r1' + 1) false := ⟨_, rfl⟩
    rw [← hW1] at hQ1 ⊢
    clear hW1 hQ hcb
    refine WnL.val rfl rfl (w' := W1) rfl ?_
    refine WnL.nil ?_
    show Wn _ _ _ _ _
    obtain ⟨ad, v, e, hcv, hkv⟩ := kindAt r3 p hp
    cases e
    have HN3 := next_any2 hkv b c
    have HIn := fun j hj => nextT_in hv p hp j hj
    obtain ⟨L, hL⟩ : ∃ L, nextT (hs.getD p zHd) = L := ⟨_, rfl⟩
    rw [hL] at HIn HN3 hR
    clear hL hkv
    have qv := pw_cell_below hQ1.bl hcv
    have q3 := pw_cell_below hQ1.bl g3
    have hbW := blk_lt hQ1.ob
    have hcW : c < W1.heap.size := by obtain ⟨_, _, hc⟩ := hQ1.cb; exact blk_lt hc
    refine Wn.cut (fun a W2 => SA g h b c hs.length a ∧ a.tmps[7]? = some (.int .i64 ((q.length : Int) + 1)) ∧ a.tmps[8]? = some (.int .i64 (p : Int)) ∧ ∃ A9 c9, a.tmps[42]? = some (.slice A9 L.length c9) ∧ a.tmps[43]? = some (.int .i64 (L.length : Int)) ∧ a.tmps[44]? = some (.int .i64 (0 : Nat)) ∧ QS w W2 b c hs.length out q ∧ ∀ W3, Below w.heap.size w W3 → (∀ i, i < W2.heap.size → i ≠ b → i ≠ c → W3.heap[i]? = W2.heap[i]?) → (Kd.int .i64).C W3 A9 L.length L) ?_ ?_
    · rcases HN3 with ⟨-, pv, rfl, HN⟩ | ⟨-, -, pv, rfl, HN⟩ | ⟨-, -, pv, rfl, HN⟩
      all_goals
        have HN := HN W1 hQ1.bl hbW hcW
        have hm1 := fun n W => meth_ptr n pv W
        have hm2 := fun n W => meth_art n pv W
        have hm3 := fun n W => meth_idx n pv W
        go_wp2_with (first
          | (go_at_call 141; (with_reducible refine HN.mono ?_); rintro e W2 ⟨Ax, cx, rfl, hb2, hC⟩; have hQ2 := hQ1.below hb2)
          | (go_at_call 140; (with_reducible refine HN.mono ?_); rintro e W2 ⟨Ax, cx, rfl, hb2, hC⟩; have hQ2 := hQ1.below hb2)
          | (go_at_call 142; (with_reducible refine HN.mono ?_); rintro e W2 ⟨Ax, cx, rfl, hb2, hC⟩; have hQ2 := hQ1.below hb2))
        exact ⟨⟨rfl, rfl, rfl, rfl, rfl, rfl⟩, by first | rfl | (rw [List.length_cons]; rfl), rfl, Ax, cx, rfl, rfl, rfl, hQ2, hC⟩
    clear HN3 qv q3 hbW hcW hQ1
    rintro a0 W0 ⟨hA, h7, h8, A9, c9, h42, h43, h44, hQ, hC⟩
    refine Wn.block ?_
    obtain ⟨oF, hoF⟩ : ∃ F, stIn p L out q = F := ⟨_, rfl⟩
    rw [hoF] at hR
    refine Wn.loop (fun m a W2 => SA g h b c hs.length a ∧ ∃ (j : Nat) (out q : List Int), j + m = L.length ∧ a.tmps[7]? = some (.int .i64 ((q.length : Int) + 1)) ∧ a.tmps[8]? = some (.int .i64 (p : Int)) ∧ a.tmps[42]? = some (.slice A9 L.length c9) ∧ a.tmps[43]? = some (.int .i64 (L.length : Int)) ∧ a.tmps[44]? = some (.int .i64 (j : Int)) ∧ QS w W2 b c hs.length out q ∧ QI hs.length f out q ∧ (0 ≤ out.getD p 0 ∧ out.getD p 0 + ((f : Int) + 1) ≤ hs.length + 1) ∧ Hid (stIn p (L.drop j) out q = oF) ∧ ∀ i, i < W0.heap.size → i ≠ b → i ≠ c → W2.heap[i]? = W0.heap[i]?) (n := L.length) ⟨hA, 0, out, q, by omega, h7, h8, h42, h43, h44, hQ, hI, ⟨hp0, by omega⟩, hoF, fun _ _ _ _ => rfl⟩ ?_
    clear hA h7 h8 h42 h43 h44 hQ hI hup hp0 hoF hgt hgt2 out q
    rintro m a W ⟨hA, j, out, q, hj, h7, h8, h42, h43, h44, hQ, hI, ⟨hp0, hup⟩, hS, hKp⟩
    obtain ⟨x0, x1, x2, x3, x4, x5, x6, x7, x8, x9, x10, x11, x12, x13, x14, x15, x16, x17, x18, x19, x20, x21, x22, x23, x24, x25, x26, x27, x28, x29, x30, x31, x32, x33, x34, x35, x36, x37, x38, x39, x40, x41, x42, x43, x44, x45, x46, x47, x48, x49, x50, x51, x52, x53, x54, x55, x56, x57, x58, x59, x60, x61, x62, x63, x64, x65, x66, rfl⟩ := arr67 hA.dz hA.sz
    obtain rfl : x0 = .pointer (some ⟨g, 0, none⟩) := Option.some.inj hA.t0
    obtain rfl : x1 = .int .i64 h := Option.some.inj hA.t1
    obtain rfl : x5 = .slice (some ⟨b, 0, none⟩) hs.length hs.length := Option.some.inj hA.t5
    obtain rfl : x6 = .chan (some c) := Option.some.inj hA.t6
    obtain rfl : x7 = .int .i64 ((q.length : Int) + 1) := Option.some.inj h7
    obtain rfl : x8 = .int .i64 p := Option.some.inj h8
    obtain rfl : x42 = .slice A9 L.length c9 := Option.some.inj h42
    obtain rfl : x43 = .int .i64 (L.length : Int) := Option.some.inj h43
    obtain rfl : x44 = .int .i64 (j : Int) := Option.some.inj h44
    clear hA h7 h8 h42 h43 h44
    obtain ⟨dp, hdp⟩ : ∃ d, out.getD p 0 = d := ⟨_, rfl⟩
    rw [hdp] at hp0 hup
    refine Wn.first (fun K hK => ?_)
    by_cases hjl : j < L.length
    · have hd : decide ((j : Int) < (L.length : Int)) = true := decide_eq_true (by omega)
      obtain ⟨pn, hpn, hpnl⟩ := HIn j hjl
      obtain ⟨aj, ej, hcj⟩ := intAt (hC W hQ.bl hKp) j hjl
      cases ej
      rw [hpn] at hcj
      have hpo : pn < out.length := by rw [hI.len]; exact hpnl
      have hgp := hQ.get pn hpo
      obtain ⟨dn, hdn⟩ : ∃ d, out.getD pn 0 = d := ⟨_, rfl⟩
      rw [hdn] at hgp
      have hLm : (L.length : Int) ≤ 9223372036854775807 := by have : L.length ≤ 9223372036854775807 := (hC W hQ.bl hKp).2.1; omega
      have hSd : L.drop j = (pn : Int) :: L.drop (j + 1) := by rw [List.drop_eq_getElem_cons hjl]; congr 1; rw [← hpn, List.getD_eq_getElem?_getD, List.getElem?_eq_getElem hjl]; rfl
      go_wp2
      refine Wn.seq (Wn.cond (t := true) rfl (Wn.skip ?_))
      show Wn _ _ _ _ _
      refine Wn.seq (Wn.block ?_)
      refine Wn.first (fun K hK => ?_)
      go_wp2
      refine Wn.first (fun K hK => ?_)
      go_wp2
      by_cases hneg : dn < 0
      · have hd2 : decide (dn < 0) = true := decide_eq_true hneg
        obtain ⟨hI2, hroom⟩ := hI.put hpnl (by rw [hdn]; exact hneg) (x := dp + 1) (by omega) (by omega)
        have hpp : p < out.length := by rw [hI.len]; exact hp
        have hgp2 := hQ.get p hpp
        rw [hdp] at hgp2
        have hQ2 := hQ.set pn (dp + 1)
        have hfz := blk_frozen hQ.ob pn
        have hadd : IntKind.i64.wrap (dp + 1) = dp + 1 := by rw [IntKind.wrap_i64]; omega
        refine Wn.cond (t := decide (dn < 0)) rfl ?_
        rw [if_pos hd2]
        refine Wn.first (fun K hK => ?_)
        go_wp2
        obtain ⟨W1, hW1⟩ : ∃ W1, W1 = W.setCell ⟨b, pn, none⟩ (.int .i64 (dp + 1)) := ⟨_, rfl⟩
        rw [← hW1] at hQ2 ⊢
        obtain ⟨s2, r2', hcb⟩ := hQ2.cb
        refine Wn.seq (Wn.region ?_)
        refine WnL.val rfl rfl (w' := W1) rfl ?_
        refine WnL.val rfl rfl (w' := W1) rfl ?_
        refine WnL.send (c := c) (v := .int .i64 pn) (z := .tuple #[]) rfl rfl (by simp [execOp, scase, Act.eval, Act.put]) hcb (by simp [intV]; omega) ?_
        refine WnL.nil ?_
        rw [intV_push]
        have hQ3 := hQ2.chan (q ++ [(pn : Int)]) (s2 + 1) r2'
        have hKp3 : ∀ i, i < W0.heap.size → i ≠ b → i ≠ c → (W1.setChan c hs.length (intV (q ++ [(pn : Int)])) false (s2 + 1) r2' false).heap[i]? = W0.heap[i]? := fun i hi h1 h2 => by
          simp only [World.setChan]
          rw [Array.getElem?_setIfInBounds_ne (Ne.symm h2), hW1]
          exact (Below.heap_setCell W ⟨b, pn, none⟩ _ i h1).trans (hKp i hi h1 h2)
        obtain ⟨W2, hW2⟩ : ∃ W2, W2 = W1.setChan c hs.length (intV (q ++ [(pn : Int)])) false (s2 + 1) r2' false := ⟨_, rfl⟩
        rw [← hW2] at hQ3 hKp3 ⊢
        clear hW2 hcb hQ2 hW1
        show Wn _ _ _ _ _
        have hS2 : Hid (stIn p (L.drop (j + 1)) (out.set pn (dp + 1)) (q ++ [(pn : Int)]) = oF) := by
          have h := hS.out
          rw [hSd] at h
          simp only [stIn, Int.toNat_natCast] at h
          rw [hdn, hdp, if_pos hneg] at h
          exact h
        have hpne : p ≠ pn := fun e => by rw [e, hdn] at hdp; omega
        have hU2 : 0 ≤ (out.set pn (dp + 1)).getD p 0 ∧ (out.set pn (dp + 1)).getD p 0 + ((f : Int) + 1) ≤ hs.length + 1 := by
          rw [set_getD _ _ _ _ _ hpo, if_neg hpne, hdp]
          exact ⟨hp0, hup⟩
        have hq7 : ((q ++ [(pn : Int)]).length : Int) = (q.length : Int) + 1 := by simp
        have hI3 := hI2.room
        have hI4 := hI2.kn
        rw [List.length_append, List.length_singleton] at hI3
        refine Wn.last (MA g h b c hs.length (.int .i64 (((q ++ [(pn : Int)]).length : Int) + 1)) (.int .i64 (p : Int)) (.slice (some aj) L.length c9) (.int .i64 (L.length : Int)) (.int .i64 (j : Int)) W2) ?_ ?_
        · rw [hq7]
          go_wp2
          exact ⟨⟨rfl, rfl, rfl, rfl, rfl, rfl⟩, by first | rfl | (congr 2; rw [IntKind.wrap_i64]; omega) | (rw [hq7]; rfl), rfl, rfl, rfl, by first | rfl | (congr 2; rw [IntKind.wrap_i64]; omega) | (rw [hq7]; rfl), rfl⟩
        · rintro a' Wz ⟨hA', h7', h8', h42', h43', h44', e⟩
          subst e
          show Wn _ _ _ _ _
          obtain ⟨z0, z1, z2, z3, z4, z5, z6, z7, z8, z9, z10, z11, z12, z13, z14, z15, z16, z17, z18, z19, z20, z21, z22, z23, z24, z25, z26, z27, z28, z29, z30, z31, z32, z33, z34, z35, z36, z37, z38, z39, z40, z41, z42, z43, z44, z45, z46, z47, z48, z49, z50, z51, z52, z53, z54, z55, z56, z57, z58, z59, z60, z61, z62, z63, z64, z65, z66, rfl⟩ := arr67 hA'.dz hA'.sz
          obtain rfl : z0 = .pointer (some ⟨g, 0, none⟩) := Option.some.inj hA'.t0
          obtain rfl : z1 = .int .i64 h := Option.some.inj hA'.t1
          obtain rfl : z5 = .slice (some ⟨b, 0, none⟩) hs.length hs.length := Option.some.inj hA'.t5
          obtain rfl : z6 = .chan (some c) := Option.some.inj hA'.t6
          obtain rfl : z7 = .int .i64 (((q ++ [(pn : Int)]).length : Int) + 1) := Option.some.inj h7'
          obtain rfl : z8 = .int .i64 p := Option.some.inj h8'
          obtain rfl : z42 = .slice (some aj) L.length c9 := Option.some.inj h42'
          obtain rfl : z43 = .int .i64 (L.length : Int) := Option.some.inj h43'
          obtain rfl : z44 = .int .i64 (j : Int) := Option.some.inj h44'
          clear hA' h7' h8' h42' h43' h44'
          refine Wn.last (MA g h b c hs.length (.int .i64 (((q ++ [(pn : Int)]).length : Int) + 1)) (.int .i64 (p : Int)) (.slice (some aj) L.length c9) (.int .i64 (L.length : Int)) (.int .i64 ((j + 1 : Nat) : Int)) Wz) ?_ ?_
          · go_wp2
            exact ⟨⟨rfl, rfl, rfl, rfl, rfl, rfl⟩, by first | rfl | (congr 2; rw [IntKind.wrap_i64]; omega) | (rw [hq7]; rfl), rfl, rfl, rfl, by first | rfl | (congr 2; rw [IntKind.wrap_i64]; omega) | (rw [hq7]; rfl), rfl⟩
          · rintro a' W'' ⟨hA', h7', h8', h42', h43', h44', e⟩
            subst e
            exact ⟨m - 1, by omega, hA', j + 1, out.set pn (dp + 1), q ++ [(pn : Int)], by omega, h7', h8', h42', h43', h44', hQ3, hI2, hU2, hS2, hKp3⟩
      · have hd2 : decide (dn < 0) = false := decide_eq_false hneg
        refine Wn.cond (t := decide (dn < 0)) rfl ?_
        rw [if_neg (by rw [hd2]; simp)]
        refine Wn.skip ?_
        show Wn _ _ _ _ _
        have hS2 : Hid (stIn p (L.drop (j + 1)) out q = oF) := by
          have h := hS.out
          rw [hSd] at h
          simp only [stIn, Int.toNat_natCast] at h
          rw [hdn, if_neg hneg] at h
          exact h
        refine Wn.last (MA g h b c hs.length (.int .i64 (((q).length : Int) + 1)) (.int .i64 (p : Int)) (.slice (some aj) L.length c9) (.int .i64 (L.length : Int)) (.int .i64 ((j + 1 : Nat) : Int)) W) ?_ ?_
        · go_wp2
          exact ⟨⟨rfl, rfl, rfl, rfl, rfl, rfl⟩, by first | rfl | (congr 2; rw [IntKind.wrap_i64]; omega) | (rw [hq7]; rfl), rfl, rfl, rfl, by first | rfl | (congr 2; rw [IntKind.wrap_i64]; omega) | (rw [hq7]; rfl), rfl⟩
        · rintro a' Wz ⟨hA', h7', h8', h42', h43', h44', e⟩
          subst e
          exact ⟨m - 1, by omega, hA', j + 1, out, q, by omega, h7', h8', h42', h43', h44', hQ, hI, (by rw [hdp]; exact ⟨hp0, hup⟩), hS2, hKp⟩
    · have hd : decide ((j : Int) < (L.length : Int)) = false := decide_eq_false (by omega)
      obtain rfl : j = L.length := by omega
      go_wp2
      refine Wn.seq (Wn.cond (t := false) rfl (Wn.exit ?_))
      simp only [Exit.then, Exit.inBlock, if_true]
      show Wn _ _ _ _ _
      rw [List.drop_length] at hS
      have hS2 : (out, q) = oF := hS.out
      subst hS2
      have hI2 := hI.kn
      have hql := hI.room
      refine Wn.last (fun a' W' => SA g h b c hs.length a' ∧ a'.tmps[7]? = some (.int .i64 (q.length : Int)) ∧ W' = W) ?_ ?_
      · go_wp2
        first | exact ⟨⟨rfl, rfl, rfl, rfl, rfl, rfl⟩, by first | rfl | (congr 1; congr 1; rw [IntKind.wrap_i64]; omega), rfl⟩ | exact ⟨rfl, rfl, rfl, rfl, rfl, rfl⟩
      · rintro a' _ ⟨hA', h7', rfl⟩
        exact ⟨f, by omega, hA', out, q, h7', hQ, hI, hR⟩
end Go.Proofs.Ytfbimhnlcmdcpaa.Pa
/- The contract of Steps. -/
namespace Go.Proofs.Ytfbimhnlcmdcpaa.Pa
open Go.RowKit Go.Proofs.YtfbimhnlcmdcpaaW.PrintWords Go.Proofs.YtfbimhnlcmdcpaaW.PrintLast Go.Proofs.YtfbimhnlcmdcpaaW.PrintMore
set_option linter.unusedVariables false
set_option linter.unusedSimpArgs false

def trade_Steps.f (cs : List (S51)) (hs : List (S39)) (h : Int) : Option (List Int × Int) :=
  some (if askT cs hs h ≠ 0 then ([], askT cs hs h) else (stepsT hs h.toNat, 0))
theorem R_of_blk {W : World} {b base : Nat} {l : List Int} (hb : W.heap[b]? = some (.cells (intV l) 3 (0, 0))) (hbase : base ≤ b) (hl : l.length ≤ 1000) :
    Kd.R (Kd.int .i64) 3 W base (fun _ => True) (.slice (some ⟨b, 0, none⟩) l.length l.length) l := by
  have ho : W.ownsRow base 3 1 (.slice (some ⟨b, 0, none⟩) l.length l.length) l.length (nums .i64 l) := by
    refine ⟨by simp [nums], .inr ⟨b, l.length, intV l, rfl, hbase, hb, Nat.le_refl _, by simp [maxLen]; omega, by simp [intV], ?_⟩⟩
    simp [intV, nums]
    exact List.take_of_length_le (by simp)
  exact Kd.R_of_own ho (fun _ _ => trivial)

set_option maxHeartbeats 1000000 in
set_option maxRecDepth 100000 in
theorem trade_Steps.calls (A0_0 : Option Addr) (c0_0 : Nat) (l0_0 : List (S51)) (A0_1 : Option Addr) (c0_1 : Nat) (l0_1 : List (S39)) (a1 : Int) (r1 : List Int) (r2 : Int) (w : World) (hr0_0 : Kd.C k51 w A0_0 l0_0.length l0_0) (hc0_0 : l0_0.length ≤ c0_0) (hr0_1 : Kd.C k39 w A0_1 l0_1.length l0_1) (hc0_1 : l0_1.length ≤ c0_1) (h : trade_Steps.f l0_0 l0_1 a1 = some (r1, r2)) :
    Calls Try.prog 33 #[.agg #[.slice A0_0 l0_0.length c0_0, .slice A0_1 l0_1.length c0_1], .int .i64 a1] w fun e w' => ∃ v0_ : Value, e = .returned (.tuple #[v0_, .int .i64 r2]) ∧ Kd.R (Kd.int .i64) 3 w' w.heap.size (fun _ => True) v0_ r1 ∧ Below w.heap.size w w' := by
  have hu2 := Try.underlying26
  have hB0 := (Below.refl w.heap.size w).alloc (Nat.le_refl _) (.cells #[.slice A0_0 l0_0.length c0_0, .slice A0_1 l0_1.length c0_1] 26)
  have hB1 := hB0.alloc hB0.size (.cells #[.int .i64 a1] 3)
  have hcq := second_cell w (.cells #[.slice A0_0 l0_0.length c0_0, .slice A0_1 l0_1.length c0_1] 26) (.int .i64 a1)
  have h := Option.some.inj h
  by_cases hz : askT l0_0 l0_1 a1 = 0
  · obtain ⟨hv, n, rfl, hn⟩ := askT_zero hz
    have HG := fun W q (hW : Below w.heap.size w W) hq => ask_good A0_0 A0_1 c0_0 c0_1 l0_0 l0_1 q n W (Kd.C_below hr0_0 hW) (Kd.C_below hr0_1 hW) hc0_0 hc0_1 hq hv hn
    have HF := fun W g (hL : IsList W g l0_0 l0_1) => steps_any g l0_0 l0_1 n W hL hv hn
    have m1 := hv.split.2.1
    rw [if_neg (by omega), Int.toNat_natCast] at h
    simp only [Prod.mk.injEq] at h
    obtain ⟨h1, rfl⟩ := h
    simp only [h1] at HF
    clear hz h1
    go_enter Try.func33, Try.ntmps33
    go_wp2_with (first
      | (go_at_call 51; (with_reducible refine (HG _ _ hB1 hcq).mono ?_); rintro e w1 ⟨g, rfl, hL1, hb1⟩; obtain HB1 := below_then hB1 hB1.size hb1; clear hb1)
      | (go_at_call 68; (with_reducible refine (HF _ _ hL1).mono ?_); rintro e w3 ⟨b, rfl, hwb, hbk, hlen, hb3⟩))
    go_ret2
    have hR := R_of_blk hbk (Nat.le_trans HB1.size hwb) (by omega)
    rw [hlen] at hR
    exact ⟨_, rfl, hR, below_then HB1 HB1.size hb3⟩
  · have HG := fun W q (hW : Below w.heap.size w W) hq => ask_bad A0_0 A0_1 c0_0 c0_1 l0_0 l0_1 q a1 W (Kd.C_below hr0_0 hW) (Kd.C_below hr0_1 hW) hc0_0 hc0_1 hq hz
    rw [if_pos hz] at h
    obtain ⟨z, hze⟩ : ∃ z, askT l0_0 l0_1 a1 = z := ⟨_, rfl⟩
    rw [hze] at h hz
    simp only [Prod.mk.injEq] at h
    obtain ⟨rfl, rfl⟩ := h
    simp only [hze] at HG
    have hz1 : (z != 0) = true := bne_iff_ne.mpr hz
    clear hz hze
    go_enter Try.func33, Try.ntmps33
    go_wp2_with (go_at_call 51; (with_reducible refine (HG _ _ hB1 hcq).mono ?_); rintro e w1 ⟨rfl, hb1⟩; obtain HB1 := below_then hB1 hB1.size hb1; clear hb1)
    go_ret2
    exact ⟨_, rfl, Kd.R_nil _ _ _ _ _, HB1⟩
end Go.Proofs.Ytfbimhnlcmdcpaa.Pa
/- The contract of Hidden. -/
namespace Go.Proofs.Ytfbimhnlcmdcpaa.Pa
open Go.RowKit Go.Proofs.YtfbimhnlcmdcpaaW.PrintWords Go.Proofs.YtfbimhnlcmdcpaaW.PrintLast Go.Proofs.YtfbimhnlcmdcpaaW.PrintMore
set_option linter.unusedVariables false
set_option linter.unusedSimpArgs false

/-- A trade that is not found in n steps. -/
def hidP (hs : List Hd) (st : List Int) (n : Int) (k : Int) : Bool := artB (hs.getD k.toNat zHd) && !betw (st.getD k.toNat 0) 0 n
def trade_Hidden.f (cs : List (S51)) (hs : List (S39)) (h n : Int) : Option (List Int × Int) :=
  some (if askT cs hs h ≠ 0 then ([], askT cs hs h) else if betw n 0 6 = false then ([], 1) else ((nats hs.length).filter (hidP hs (stepsT hs h.toNat) n), 0))

set_option maxHeartbeats 4000000 in
set_option maxRecDepth 100000 in
theorem trade_Hidden.calls (A0_0 : Option Addr) (c0_0 : Nat) (l0_0 : List (S51)) (A0_1 : Option Addr) (c0_1 : Nat) (l0_1 : List (S39)) (a1 : Int) (a2 : Int) (r1 : List Int) (r2 : Int) (w : World) (hr0_0 : Kd.C k51 w A0_0 l0_0.length l0_0) (hc0_0 : l0_0.length ≤ c0_0) (hr0_1 : Kd.C k39 w A0_1 l0_1.length l0_1) (hc0_1 : l0_1.length ≤ c0_1) (h : trade_Hidden.f l0_0 l0_1 a1 a2 = some (r1, r2)) :
    Calls Try.prog 34 #[.agg #[.slice A0_0 l0_0.length c0_0, .slice A0_1 l0_1.length c0_1], .int .i64 a1, .int .i64 a2] w fun e w' => ∃ v0_ : Value, e = .returned (.tuple #[v0_, .int .i64 r2]) ∧ Kd.R (Kd.int .i64) 3 w' w.heap.size (fun _ => True) v0_ r1 ∧ Below w.heap.size w w' := by
  have hu2 := Try.underlying26
  obtain ⟨i0, hi, hz0, hz1, hz2⟩ := info_parts info3'
  have hB0 := (Below.refl w.heap.size w).alloc (Nat.le_refl _) (.cells #[.slice A0_0 l0_0.length c0_0, .slice A0_1 l0_1.length c0_1] 26)
  have hB1 := hB0.alloc hB0.size (.cells #[.int .i64 a1] 3)
  have hcq := second_cell w (.cells #[.slice A0_0 l0_0.length c0_0, .slice A0_1 l0_1.length c0_1] 26) (.int .i64 a1)
  have h := Option.some.inj h
  by_cases hz : askT l0_0 l0_1 a1 = 0
  · obtain ⟨hv, n, rfl, hn⟩ := askT_zero hz
    have HG := fun W q (hW : Below w.heap.size w W) hq => ask_good A0_0 A0_1 c0_0 c0_1 l0_0 l0_1 q n W (Kd.C_below hr0_0 hW) (Kd.C_below hr0_1 hW) hc0_0 hc0_1 hq hv hn
    have HF := fun W g (hL : IsList W g l0_0 l0_1) => steps_any g l0_0 l0_1 n W hL hv hn
    have m1 := hv.split.2.1
    have HT := fun W => between_any a2 0 6 W
    rw [if_neg (by omega), Int.toNat_natCast] at h
    by_cases hq : betw a2 0 6 = true
    · rw [if_neg (by rw [hq]; simp)] at h
      simp only [Prod.mk.injEq] at h
      obtain ⟨h1, rfl⟩ := h
      simp only [hq] at HT
      obtain ⟨st, hst⟩ : ∃ st, stepsT l0_1 n = st := ⟨_, rfl⟩
      rw [hst] at h1
      simp only [hst] at HF
      have HR : Hid (r1 = (nats l0_1.length).filter (hidP l0_1 st a2)) := h1.symm
      clear hz hq h1 hst
      go_enter Try.func34, Try.ntmps34
      go_wp2_with (first
        | (go_at_call 51; (with_reducible refine (HG _ _ hB1 hcq).mono ?_); rintro e w1 ⟨g, rfl, hL1, hb1⟩; obtain HB1 := below_then hB1 hB1.size hb1; clear hb1)
        | (go_at_call 43; (with_reducible refine (HT _).mono ?_); rintro e w2 ⟨rfl, rfl⟩)
        | (go_at_call 68; (with_reducible refine (HF _ _ hL1).mono ?_); rintro e w3 ⟨b, rfl, hwb, hbk, hlen, hb3⟩))
      have hL3 := hL1.below hb3
      have HB3 := below_then HB1 HB1.size hb3
      clear HT HF HG hL1 hcq
      go_loopg [10, 32] l0_1.length (fun gk v10 v wr => ∃ k : Nat, k + gk = l0_1.length ∧ v = .int .i64 k ∧ Below w3.heap.size w3 wr ∧ wr.ownsRow w3.heap.size 3 1 v10 ((nats k).filter (hidP l0_1 st a2)).length (nums .i64 ((nats k).filter (hidP l0_1 st a2))))
      case atStart => exact ⟨0, by omega, rfl, Below.refl _ _, own_nil _ _ _ _⟩
      case round =>
        obtain ⟨k, hk, rfl, hb, ho⟩ := hrel
        by_cases hlt : k < l0_1.length
        · have hfl := filter_len (hidP l0_1 st a2) k
          obtain ⟨F, hF⟩ : ∃ F, (nats k).filter (hidP l0_1 st a2) = F := ⟨_, rfl⟩
          have hc0 := (blk_cell (blk_below hbk hb) k).trans (intV_get st k (by omega))
          have HTr := fun W (hW : Below w3.heap.size w3 W) => isTrade_any g l0_0 l0_1 k W (hL3.below hW) hlt
          obtain ⟨d, hd⟩ : ∃ d, st.getD k 0 = d := ⟨_, rfl⟩
          obtain ⟨q, hq⟩ : ∃ q, artB (l0_1.getD k zHd) = q := ⟨_, rfl⟩
          obtain ⟨bt, hbt⟩ : ∃ bt, betw d 0 a2 = bt := ⟨_, rfl⟩
          have HTb := fun W => between_any d 0 a2 W
          simp only [hbt] at HTb
          have HF : Hid ((nats (k + 1)).filter (hidP l0_1 st a2) = F ++ (if (q && !bt) = true then [(k : Int)] else [])) := by
            show _ = _
            rw [nats_succ, filter_snoc, hF]
            simp only [hidP, Int.toNat_natCast, hd, hq, hbt]
          rw [hd] at hc0
          simp only [hq] at HTr
          rw [hF] at ho hfl
          clear hF hd hq hbt
          have hlt2 : (k : Int) < l0_1.length := by omega
          cases q with
          | false =>
            have HF2 : Hid ((nats (k + 1)).filter (hidP l0_1 st a2) = F) := by show _ = _; rw [HF.out]; exact List.append_nil _
            go_wp2_with (go_at_call 63; (with_reducible refine (HTr _ hb).mono ?_); rintro e w4 ⟨rfl, hb4⟩; have HB4 := below_then hb hb.size hb4; have ho4 := pw_own_below ho hb4; clear hb4)
            go_roundg (l0_1.length - (k + 1))
            case measure => omega
            case rel => exact ⟨k + 1, by omega, by go_num, HB4, by rw [HF2.out]; exact ho4⟩
          | true =>
            cases bt with
            | true =>
              have HF2 : Hid ((nats (k + 1)).filter (hidP l0_1 st a2) = F) := by show _ = _; rw [HF.out]; exact List.append_nil _
              go_wp2_with (first
                | (go_at_call 63; (with_reducible refine (HTr _ hb).mono ?_); rintro e w4 ⟨rfl, hb4⟩; have HB4 := below_then hb hb.size hb4; have ho4 := pw_own_below ho hb4; clear hb4)
                | (go_at_call 43; (with_reducible refine (HTb _).mono ?_); rintro e w5 ⟨rfl, rfl⟩))
              go_roundg (l0_1.length - (k + 1))
              case measure => omega
              case rel => exact ⟨k + 1, by omega, by go_num, HB4, by rw [HF2.out]; exact ho4⟩
            | false =>
              have HF2 : Hid ((nats (k + 1)).filter (hidP l0_1 st a2) = F ++ [(k : Int)]) := HF.out
              go_wp2_with (first
                | (go_at_call 63; (with_reducible refine (HTr _ hb).mono ?_); rintro e w4 ⟨rfl, hb4⟩; have HB4 := below_then hb hb.size hb4; have ho4 := pw_own_below ho hb4; clear hb4)
                | (go_at_call 43; (with_reducible refine (HTb _).mono ?_); rintro e w5 ⟨rfl, rfl⟩)
                | (at_builtin; go_loud (refine wpList_append_own _ rfl _ _ 22 rfl w3.heap.size 3 i0 (.int .i64 0) 1 8 Try.underlying22 hi hz0 hz1 hz2 rfl (by decide) _ _ _ rfl (ho4.alloc _) ⟨w4.heap.size, 0, none⟩ 1 1 [.int .i64 (k : Int)] rfl rfl (cell_one_new _ _ _) (by simp [Value.oneCell']) (by unfold maxLen; omega) (by omega) (by have := HB4.size; simp; omega) ?_; intro v' w6 hown6 hgrow6 _; have HB6 := Below.grown (HB4.alloc HB4.size _) hgrow6 (by have := HB4.size; simp; omega) (fun j hj => (ho4.lt j hj).1); have HO := Lib.hid hown6; clear hown6 hgrow6)))
              go_roundg (l0_1.length - (k + 1))
              case measure => omega
              case rel => exact ⟨k + 1, by omega, by go_num, HB6, by rw [HF2.out, nums_append, List.length_append]; exact HO.out⟩
        · obtain rfl : k = l0_1.length := by omega
          rw [← HR.out] at ho
          have HQ : Hid ((Kd.int .i64).R 3 wr w3.heap.size (fun _ => True) _ r1) := Kd.R_of_own ho (fun _ _ => trivial)
          clear ho
          go_wp2
          go_ret2
          exact ⟨_, rfl, Kd.R_lower HQ.out HB3.size, below_then HB3 HB3.size hb⟩
    · have hq' : betw a2 0 6 = false := by simpa using hq
      rw [if_pos hq'] at h
      simp only [Prod.mk.injEq] at h
      obtain ⟨rfl, rfl⟩ := h
      simp only [hq'] at HT
      clear hz hq hq'
      go_enter Try.func34, Try.ntmps34
      go_wp2_with (first
        | (go_at_call 51; (with_reducible refine (HG _ _ hB1 hcq).mono ?_); rintro e w1 ⟨g, rfl, hL1, hb1⟩; obtain HB1 := below_then hB1 hB1.size hb1; clear hb1)
        | (go_at_call 43; (with_reducible refine (HT _).mono ?_); rintro e w2 ⟨rfl, rfl⟩))
      go_ret2
      exact ⟨_, rfl, Kd.R_nil _ _ _ _ _, HB1⟩
  · have HG := fun W q (hW : Below w.heap.size w W) hq => ask_bad A0_0 A0_1 c0_0 c0_1 l0_0 l0_1 q a1 W (Kd.C_below hr0_0 hW) (Kd.C_below hr0_1 hW) hc0_0 hc0_1 hq hz
    rw [if_pos hz] at h
    obtain ⟨z, hze⟩ : ∃ z, askT l0_0 l0_1 a1 = z := ⟨_, rfl⟩
    rw [hze] at h hz
    simp only [Prod.mk.injEq] at h
    obtain ⟨rfl, rfl⟩ := h
    simp only [hze] at HG
    have hz1 : (z != 0) = true := bne_iff_ne.mpr hz
    clear hz hze
    go_enter Try.func34, Try.ntmps34
    go_wp2_with (go_at_call 51; (with_reducible refine (HG _ _ hB1 hcq).mono ?_); rintro e w1 ⟨rfl, hb1⟩; obtain HB1 := below_then hB1 hB1.size hb1; clear hb1)
    go_ret2
    exact ⟨_, rfl, Kd.R_nil _ _ _ _ _, HB1⟩
end Go.Proofs.Ytfbimhnlcmdcpaa.Pa
namespace Go.Proofs.Ytfbimhnlcmdcpaa.Pa
open Go.RowKit Go.Proofs.YtfbimhnlcmdcpaaW.PrintWords Go.Proofs.YtfbimhnlcmdcpaaW.PrintLast Go.Proofs.YtfbimhnlcmdcpaaW.PrintMore
attribute [local go_sem] max2_int min2_int max_two min_two max_three min_three max_four min_four   -- for this text's walks alone
set_option linter.unusedVariables false
set_option linter.unusedSimpArgs false


/-- A state of type 72 at block g of W; what its slices lead to came in by w0. -/
def IsS72 (w0 W : World) (g : Nat) (f0 : List Int) (f1 : Int) (f2 : Int) : Prop := ∃ A0 c0, W.heap[g]? = some (.cells #[.slice A0 f0.length c0, .int .i64 f1, .int .u64 f2] 72 (0, 0)) ∧ w0.heap.size ≤ g ∧ Kd.C (Kd.int .i64) w0 A0 f0.length f0
theorem IsS72.grown {w0 W : World} {g : Nat} {f0 : List Int} {f1 : Int} {f2 : Int} {W1 : World} {row : Option Nat} (h : IsS72 w0 W g f0 f1 f2) (hw : W.grownBy W1 row) (hne : some g ≠ row) : IsS72 w0 W1 g f0 f1 f2 := by
  obtain ⟨A0, c0, hb, hg, hr0⟩ := h
  exact ⟨A0, c0, blk_grown hb hw hne, hg, hr0⟩
theorem IsS72.fresh {w0 W : World} {g : Nat} {f0 : List Int} {f1 : Int} {f2 : Int} (h : IsS72 w0 W g f0 f1 f2) : ∀ k, W.heap.size ≤ k → k ≠ g := by
  obtain ⟨A0, c0, hb, hg, hr0⟩ := h
  exact Kd.freshB hb
theorem IsS72.kept {w0 W : World} {g : Nat} {f0 : List Int} {f1 : Int} {f2 : Int} {W1 : World} {S : Nat → Prop} (h : IsS72 w0 W g f0 f1 f2) (hk : Kept W W1 S) (hne : ¬ S g) : IsS72 w0 W1 g f0 f1 f2 := by
  obtain ⟨A0, c0, hb, hg, hr0⟩ := h
  exact ⟨A0, c0, blk_kept hb hk hne, hg, hr0⟩
theorem IsS72.below {w0 W : World} {g : Nat} {f0 : List Int} {f1 : Int} {f2 : Int} {W1 : World} (h : IsS72 w0 W g f0 f1 f2) (hw : Below W.heap.size W W1) : IsS72 w0 W1 g f0 f1 f2 := h.grown (grown_of_below hw none) (by simp)
theorem IsS72.alloc {w0 W : World} {g : Nat} {f0 : List Int} {f1 : Int} {f2 : Int} (h : IsS72 w0 W g f0 f1 f2) (o : Obj) : IsS72 w0 (W.alloc o) g f0 f1 f2 := h.below (below_alloc (Below.refl _ _) o)
theorem IsS72.drewN {w0 W : World} {g : Nat} {f0 : List Int} {f1 : Int} {f2 : Int} (h : IsS72 w0 W g f0 f1 f2) (m : Nat) : IsS72 w0 (W.drewN m) g f0 f1 f2 := h
theorem IsS72.drew {w0 W : World} {g : Nat} {f0 : List Int} {f1 : Int} {f2 : Int} (h : IsS72 w0 W g f0 f1 f2) : IsS72 w0 W.drew g f0 f1 f2 := h
theorem IsS72.at_ {w0 W : World} {g : Nat} {f0 : List Int} {f1 : Int} {f2 : Int} {w' : World} {m : Nat} (hq : W.drewN m = w') (h : IsS72 w0 W g f0 f1 f2) : IsS72 w0 w' g f0 f1 f2 := by subst hq; exact IsS72.drewN h m
theorem IsS72.apart {w0 W : World} {g : Nat} {f0 : List Int} {f1 : Int} {f2 : Int} {α : Type} {d : Kd α} {e : Nat} {base : Nat} {ok : Nat → Prop} {v : Value} {xs : List α} (h : IsS72 w0 W g f0 f1 f2) (ho : d.R e W base ok v xs) (ht : ∀ q, q ∈ e :: d.E → q ≠ 72) : d.R e W base (fun k => ok k ∧ k ≠ g) v xs := by
  obtain ⟨A0, c0, hb, hg, hr0⟩ := h
  exact Kd.R_types ho hb ht
theorem IsS72.own_ne {w0 W : World} {g : Nat} {f0 : List Int} {f1 : Int} {f2 : Int} {α : Type} {d : Kd α} {e : Nat} {base : Nat} {ok : Nat → Prop} {v : Value} {xs : List α} (h : IsS72 w0 W g f0 f1 f2) (ho : d.R e W base ok v xs) (ht : e ≠ 72) : some g ≠ v.ownBlock := by
  obtain ⟨A0, c0, hb, hg, hr0⟩ := h
  exact Kd.R_ne ho hb ht
theorem IsS72.apartS {w0 W : World} {g : Nat} {f0 : List Int} {f1 : Int} {f2 : Int} {α : Type} {d : Kd α} {e : Nat} {base : Nat} {ok : Nat → Prop} {v : Value} {xs : List α} (h : IsS72 w0 W g f0 f1 f2) (ho : d.S e W base ok v xs) (ht : ∀ q, q ∈ e :: d.E → q ≠ 72) : d.S e W base (fun k => ok k ∧ k ≠ g) v xs := by
  obtain ⟨A0, c0, hb, hg, hr0⟩ := h
  exact Kd.S_types ho hb ht
theorem IsS72.own_neS {w0 W : World} {g : Nat} {f0 : List Int} {f1 : Int} {f2 : Int} {α : Type} {d : Kd α} {e : Nat} {base : Nat} {ok : Nat → Prop} {v : Value} {xs : List α} (h : IsS72 w0 W g f0 f1 f2) (ho : d.S e W base ok v xs) (ht : e ≠ 72) : some g ≠ v.ownBlock := by
  obtain ⟨A0, c0, hb, hg, hr0⟩ := h
  exact Kd.S_ne ho hb ht
theorem IsS72.lt {w0 W : World} {g : Nat} {f0 : List Int} {f1 : Int} {f2 : Int} (h : IsS72 w0 W g f0 f1 f2) : g < W.heap.size := by
  obtain ⟨A0, c0, hb, hg, hr0⟩ := h
  exact blk_lt hb
theorem IsS72.ge {w0 W : World} {g : Nat} {f0 : List Int} {f1 : Int} {f2 : Int} (h : IsS72 w0 W g f0 f1 f2) : w0.heap.size ≤ g := by
  obtain ⟨A0, c0, hb, hg, hr0⟩ := h
  exact hg
theorem IsS72.far {w0 W : World} {g : Nat} {f0 : List Int} {f1 : Int} {f2 : Int} {p : Addr} (h : IsS72 w0 W g f0 f1 f2) (hne : g ≠ p.block) (u : Value) : IsS72 w0 (W.setCell p u) g f0 f1 f2 := by
  obtain ⟨A0, c0, hb, hg, hr0⟩ := h
  exact ⟨A0, c0, blk_far hb hne u, hg, hr0⟩
theorem cellS72_0 {W : World} {g : Nat} {A0 : Option Addr} {c0 : Nat} {f0 : List Int} {f1 : Int} {f2 : Int} (h : W.heap[g]? = some (.cells #[.slice A0 f0.length c0, .int .i64 f1, .int .u64 f2] 72 (0, 0))) : W.cell? ⟨g, 0, none⟩ = some (.slice A0 f0.length c0) := (blk_cell h 0).trans rfl
theorem cellS72_1 {W : World} {g : Nat} {A0 : Option Addr} {c0 : Nat} {f0 : List Int} {f1 : Int} {f2 : Int} (h : W.heap[g]? = some (.cells #[.slice A0 f0.length c0, .int .i64 f1, .int .u64 f2] 72 (0, 0))) : W.cell? ⟨g, 1, none⟩ = some (.int .i64 f1) := (blk_cell h 1).trans rfl
theorem IsS72.set_1 {w0 W : World} {g : Nat} {f0 : List Int} {f1 : Int} {f2 : Int} (h : IsS72 w0 W g f0 f1 f2) (x : Int) : IsS72 w0 (W.setCell ⟨g, 1, none⟩ (.int .i64 x)) g f0 x f2 := by
  obtain ⟨A0, c0, hb, hg, hr0⟩ := h
  exact ⟨A0, c0, by simpa using blk_set hb 1 (.int .i64 x), hg, hr0⟩
theorem cellS72_2 {W : World} {g : Nat} {A0 : Option Addr} {c0 : Nat} {f0 : List Int} {f1 : Int} {f2 : Int} (h : W.heap[g]? = some (.cells #[.slice A0 f0.length c0, .int .i64 f1, .int .u64 f2] 72 (0, 0))) : W.cell? ⟨g, 2, none⟩ = some (.int .u64 f2) := (blk_cell h 2).trans rfl
theorem IsS72.set_2 {w0 W : World} {g : Nat} {f0 : List Int} {f1 : Int} {f2 : Int} (h : IsS72 w0 W g f0 f1 f2) (x : Int) : IsS72 w0 (W.setCell ⟨g, 2, none⟩ (.int .u64 x)) g f0 f1 x := by
  obtain ⟨A0, c0, hb, hg, hr0⟩ := h
  exact ⟨A0, c0, by simpa using blk_set hb 2 (.int .u64 x), hg, hr0⟩
theorem IsS72.new (w0 W : World) (A0 : Option Addr) (c0 : Nat) (f0 : List Int) (f1 : Int) (f2 : Int) (hB : Below w0.heap.size w0 W) (hr0 : Kd.C (Kd.int .i64) w0 A0 f0.length f0) : IsS72 w0 (W.alloc (.cells #[.slice A0 f0.length c0, .int .i64 f1, .int .u64 f2] 72)) W.heap.size f0 f1 f2 := ⟨A0, c0, by simpa using heap_alloc_new W _, hB.size, hr0⟩

/-! ### wayzgoosekit_Dice_raw: function 67 -/
def wayzgoosekit_Dice_raw.f (s0_0 : List Int) (s0_1 : Int) (s0_2 : Int) : Option (Int × Int × Int) := if s0_1 < (s0_0.length : Int) then (if 0 ≤ s0_1 then (some (Go.bits .xor .u64 (IntKind.u64.wrap ((Go.bits .xor .u64 (IntKind.u64.wrap ((Go.bits .xor .u64 (Go.bits .xor .u64 (Go.bits .xor .u64 s0_2 (IntKind.u64.wrap (s0_2 * 8192))) ((Go.bits .xor .u64 s0_2 (IntKind.u64.wrap (s0_2 * 8192))) / 128)) (IntKind.u64.wrap ((Go.bits .xor .u64 (Go.bits .xor .u64 s0_2 (IntKind.u64.wrap (s0_2 * 8192))) ((Go.bits .xor .u64 s0_2 (IntKind.u64.wrap (s0_2 * 8192))) / 128)) * 131072))) + (IntKind.u64.wrap ((IntKind.u64.wrap (rd s0_0 s0_1)) * 13787848793156543929)))) ((IntKind.u64.wrap ((Go.bits .xor .u64 (Go.bits .xor .u64 (Go.bits .xor .u64 s0_2 (IntKind.u64.wrap (s0_2 * 8192))) ((Go.bits .xor .u64 s0_2 (IntKind.u64.wrap (s0_2 * 8192))) / 128)) (IntKind.u64.wrap ((Go.bits .xor .u64 (Go.bits .xor .u64 s0_2 (IntKind.u64.wrap (s0_2 * 8192))) ((Go.bits .xor .u64 s0_2 (IntKind.u64.wrap (s0_2 * 8192))) / 128)) * 131072))) + (IntKind.u64.wrap ((IntKind.u64.wrap (rd s0_0 s0_1)) * 13787848793156543929)))) / 1073741824)) * 10723151780598845931)) ((IntKind.u64.wrap ((Go.bits .xor .u64 (IntKind.u64.wrap ((Go.bits .xor .u64 (Go.bits .xor .u64 (Go.bits .xor .u64 s0_2 (IntKind.u64.wrap (s0_2 * 8192))) ((Go.bits .xor .u64 s0_2 (IntKind.u64.wrap (s0_2 * 8192))) / 128)) (IntKind.u64.wrap ((Go.bits .xor .u64 (Go.bits .xor .u64 s0_2 (IntKind.u64.wrap (s0_2 * 8192))) ((Go.bits .xor .u64 s0_2 (IntKind.u64.wrap (s0_2 * 8192))) / 128)) * 131072))) + (IntKind.u64.wrap ((IntKind.u64.wrap (rd s0_0 s0_1)) * 13787848793156543929)))) ((IntKind.u64.wrap ((Go.bits .xor .u64 (Go.bits .xor .u64 (Go.bits .xor .u64 s0_2 (IntKind.u64.wrap (s0_2 * 8192))) ((Go.bits .xor .u64 s0_2 (IntKind.u64.wrap (s0_2 * 8192))) / 128)) (IntKind.u64.wrap ((Go.bits .xor .u64 (Go.bits .xor .u64 s0_2 (IntKind.u64.wrap (s0_2 * 8192))) ((Go.bits .xor .u64 s0_2 (IntKind.u64.wrap (s0_2 * 8192))) / 128)) * 131072))) + (IntKind.u64.wrap ((IntKind.u64.wrap (rd s0_0 s0_1)) * 13787848793156543929)))) / 1073741824)) * 10723151780598845931)) / 2147483648), wrap64 (s0_1 + 1), IntKind.u64.wrap ((Go.bits .xor .u64 (Go.bits .xor .u64 (Go.bits .xor .u64 s0_2 (IntKind.u64.wrap (s0_2 * 8192))) ((Go.bits .xor .u64 s0_2 (IntKind.u64.wrap (s0_2 * 8192))) / 128)) (IntKind.u64.wrap ((Go.bits .xor .u64 (Go.bits .xor .u64 s0_2 (IntKind.u64.wrap (s0_2 * 8192))) ((Go.bits .xor .u64 s0_2 (IntKind.u64.wrap (s0_2 * 8192))) / 128)) * 131072))) + (IntKind.u64.wrap ((IntKind.u64.wrap (rd s0_0 s0_1)) * 13787848793156543929))))) else (none)) else (some (Go.bits .xor .u64 (IntKind.u64.wrap ((Go.bits .xor .u64 (Go.bits .xor .u64 (Go.bits .xor .u64 (Go.bits .xor .u64 s0_2 (IntKind.u64.wrap (s0_2 * 8192))) ((Go.bits .xor .u64 s0_2 (IntKind.u64.wrap (s0_2 * 8192))) / 128)) (IntKind.u64.wrap ((Go.bits .xor .u64 (Go.bits .xor .u64 s0_2 (IntKind.u64.wrap (s0_2 * 8192))) ((Go.bits .xor .u64 s0_2 (IntKind.u64.wrap (s0_2 * 8192))) / 128)) * 131072))) ((Go.bits .xor .u64 (Go.bits .xor .u64 (Go.bits .xor .u64 s0_2 (IntKind.u64.wrap (s0_2 * 8192))) ((Go.bits .xor .u64 s0_2 (IntKind.u64.wrap (s0_2 * 8192))) / 128)) (IntKind.u64.wrap ((Go.bits .xor .u64 (Go.bits .xor .u64 s0_2 (IntKind.u64.wrap (s0_2 * 8192))) ((Go.bits .xor .u64 s0_2 (IntKind.u64.wrap (s0_2 * 8192))) / 128)) * 131072))) / 1073741824)) * 10723151780598845931)) ((IntKind.u64.wrap ((Go.bits .xor .u64 (Go.bits .xor .u64 (Go.bits .xor .u64 (Go.bits .xor .u64 s0_2 (IntKind.u64.wrap (s0_2 * 8192))) ((Go.bits .xor .u64 s0_2 (IntKind.u64.wrap (s0_2 * 8192))) / 128)) (IntKind.u64.wrap ((Go.bits .xor .u64 (Go.bits .xor .u64 s0_2 (IntKind.u64.wrap (s0_2 * 8192))) ((Go.bits .xor .u64 s0_2 (IntKind.u64.wrap (s0_2 * 8192))) / 128)) * 131072))) ((Go.bits .xor .u64 (Go.bits .xor .u64 (Go.bits .xor .u64 s0_2 (IntKind.u64.wrap (s0_2 * 8192))) ((Go.bits .xor .u64 s0_2 (IntKind.u64.wrap (s0_2 * 8192))) / 128)) (IntKind.u64.wrap ((Go.bits .xor .u64 (Go.bits .xor .u64 s0_2 (IntKind.u64.wrap (s0_2 * 8192))) ((Go.bits .xor .u64 s0_2 (IntKind.u64.wrap (s0_2 * 8192))) / 128)) * 131072))) / 1073741824)) * 10723151780598845931)) / 2147483648), s0_1, Go.bits .xor .u64 (Go.bits .xor .u64 (Go.bits .xor .u64 s0_2 (IntKind.u64.wrap (s0_2 * 8192))) ((Go.bits .xor .u64 s0_2 (IntKind.u64.wrap (s0_2 * 8192))) / 128)) (IntKind.u64.wrap ((Go.bits .xor .u64 (Go.bits .xor .u64 s0_2 (IntKind.u64.wrap (s0_2 * 8192))) ((Go.bits .xor .u64 s0_2 (IntKind.u64.wrap (s0_2 * 8192))) / 128)) * 131072))))
end Go.Proofs.Ytfbimhnlcmdcpaa.Pa
/- The contract of Dice.raw: the next number. -/
namespace Go.Proofs.Ytfbimhnlcmdcpaa.Pa
open Go.RowKit Go.Proofs.YtfbimhnlcmdcpaaW.PrintWords Go.Proofs.YtfbimhnlcmdcpaaW.PrintLast Go.Proofs.YtfbimhnlcmdcpaaW.PrintMore
attribute [local go_sem] max2_int min2_int max_two min_two max_three min_three max_four min_four
set_option linter.unusedVariables false
set_option linter.unusedSimpArgs false

set_option maxHeartbeats 8000000 in
set_option maxRecDepth 100000 in
theorem wayzgoosekit_Dice_raw.calls (g : Nat) (s0_0 : List Int) (s0_1 : Int) (s0_2 : Int) (r1 : Int) (r2 : Int) (r3 : Int) (w0 w : World) (hI : IsS72 w0 w g s0_0 s0_1 s0_2) (hB : Below w0.heap.size w0 w) (h : wayzgoosekit_Dice_raw.f s0_0 s0_1 s0_2 = some (r1, r2, r3)) :
    Calls Try.prog 67 #[.pointer (some ⟨g, 0, none⟩)] w fun e w' => e = .returned (.int .u64 r1) ∧ IsS72 w0 w' g s0_0 r2 r3 ∧ Below w0.heap.size w0 w' ∧ KeepBut w w' g none := by
  have hK := KeepBut.refl w g none
  have hge := hI.ge
  unfold wayzgoosekit_Dice_raw.f at h
  obtain ⟨v1, hv1⟩ : ∃ v, Go.bits .xor .u64 s0_2 (IntKind.u64.wrap (s0_2 * 8192)) = v := ⟨_, rfl⟩
  rw [hv1] at h
  obtain ⟨v2, hv2⟩ : ∃ v, Go.bits .xor .u64 v1 (v1 / 128) = v := ⟨_, rfl⟩
  rw [hv2] at h
  obtain ⟨v3, hv3⟩ : ∃ v, Go.bits .xor .u64 v2 (IntKind.u64.wrap (v2 * 131072)) = v := ⟨_, rfl⟩
  rw [hv3] at h
  have hI0 := hI
  obtain ⟨A0, c0, HG, -, HS⟩ := hI
  have hc0 := cellS72_0 HG
  have hc1 := cellS72_1 HG
  have hc2 := cellS72_2 HG
  have hf1 := blk_frozen HG 1
  have hf2 := blk_frozen HG 2
  go_enter Try.func67, Try.ntmps67
  go_upto_region 1 with (fail)
  go_region
  obtain ⟨w1, hw1⟩ : ∃ W, W = (w.setCell ⟨g, 2, none⟩ (.int .u64 v1)).drew := ⟨_, rfl⟩
  have hI : IsS72 w0 w1 g s0_0 s0_1 v1 := by rw [hw1]; exact (IsS72.set_2 ⟨A0, c0, HG, hge, HS⟩ v1).drew
  replace hB : Below w0.heap.size w0 w1 := by rw [hw1]; exact below_drew1 (below_set hB hge)
  replace hK : KeepBut w w1 g none := by rw [hw1]; exact keep_drew (KeepBut.set_ hK _ _)
  rw [← hw1]
  clear hw1 hc0 hc1 hc2 hf1 hf2 HG HS hv1
  clear A0 c0 hI0
  have hI0 := hI
  obtain ⟨A0, c0, HG, -, HS⟩ := hI
  have hc0 := cellS72_0 HG
  have hc1 := cellS72_1 HG
  have hc2 := cellS72_2 HG
  have hf1 := blk_frozen HG 1
  have hf2 := blk_frozen HG 2
  go_upto_region 2 with (fail)
  go_region
  obtain ⟨w2, hw2⟩ : ∃ W, W = (w1.setCell ⟨g, 2, none⟩ (.int .u64 v2)).drew := ⟨_, rfl⟩
  have hI : IsS72 w0 w2 g s0_0 s0_1 v2 := by rw [hw2]; exact (IsS72.set_2 ⟨A0, c0, HG, hge, HS⟩ v2).drew
  replace hB : Below w0.heap.size w0 w2 := by rw [hw2]; exact below_drew1 (below_set hB hge)
  replace hK : KeepBut w w2 g none := by rw [hw2]; exact keep_drew (KeepBut.set_ hK _ _)
  rw [← hw2]
  clear hw2 hc0 hc1 hc2 hf1 hf2 HG HS hv2
  clear A0 c0 hI0
  have hI0 := hI
  obtain ⟨A0, c0, HG, -, HS⟩ := hI
  have hc0 := cellS72_0 HG
  have hc1 := cellS72_1 HG
  have hc2 := cellS72_2 HG
  have hf1 := blk_frozen HG 1
  have hf2 := blk_frozen HG 2
  go_upto_region 3 with (fail)
  go_region
  obtain ⟨w3, hw3⟩ : ∃ W, W = (w2.setCell ⟨g, 2, none⟩ (.int .u64 v3)).drew := ⟨_, rfl⟩
  have hI : IsS72 w0 w3 g s0_0 s0_1 v3 := by rw [hw3]; exact (IsS72.set_2 ⟨A0, c0, HG, hge, HS⟩ v3).drew
  replace hB : Below w0.heap.size w0 w3 := by rw [hw3]; exact below_drew1 (below_set hB hge)
  replace hK : KeepBut w w3 g none := by rw [hw3]; exact keep_drew (KeepBut.set_ hK _ _)
  rw [← hw3]
  clear hw3 hc0 hc1 hc2 hf1 hf2 HG HS hv3
  clear A0 c0 hI0
  have hI0 := hI
  obtain ⟨A0, c0, HG, -, HS⟩ := hI
  have hc0 := cellS72_0 HG
  have hc1 := cellS72_1 HG
  have hc2 := cellS72_2 HG
  have hf1 := blk_frozen HG 1
  have hf2 := blk_frozen HG 2
  go_upto_region 4 with (fail)
  by_cases c2 : s0_1 < (s0_0.length : Int)
  · rw [if_pos c2] at h
    by_cases c3 : 0 ≤ s0_1
    · rw [if_pos c3] at h
      obtain ⟨v4, hv4⟩ : ∃ v, IntKind.u64.wrap (v3 + (IntKind.u64.wrap ((IntKind.u64.wrap (rd s0_0 s0_1)) * 13787848793156543929))) = v := ⟨_, rfl⟩
      rw [hv4] at h
      obtain ⟨rfl, rfl, rfl⟩ : _ = r1 ∧ _ = r2 ∧ _ = r3 := by simpa only [Option.some.injEq, Prod.mk.injEq] using h
      clear h
      obtain ⟨ad, rfl, hx⟩ := Kd.at_int HS s0_1 c3 c2
      have hx3 := pw_cell_below hB hx
      have p1 := eq_true c3
      have q1 := eq_true c2
      have c2b : decide (s0_1 < (s0_0.length : Int)) = true := decide_eq_true c2
      clear c2 c3
      go_region
      go_upto_region 5 with (fail)
      go_region
      go_wp2
      go_ret
      exact ⟨rfl, ((hI0.set_2 v4).set_1 (wrap64 (s0_1 + 1))).drew.drew, below_drew1 (below_drew1 (below_set (below_set hB hge) hge)), keep_drew (keep_drew (KeepBut.set_ (KeepBut.set_ hK _ _) _ _))⟩
    · rw [if_neg c3] at h
      cases h
  · rw [if_neg c2] at h
    have c2b : decide (s0_1 < (s0_0.length : Int)) = false := decide_eq_false c2
    obtain ⟨rfl, rfl, rfl⟩ : _ = r1 ∧ _ = r2 ∧ _ = r3 := by simpa only [Option.some.injEq, Prod.mk.injEq] using h
    clear h
    go_region
    go_wp2
    go_ret
    exact ⟨rfl, hI0.drewN _, pw_below_drewN hB _, keep_drewN hK _⟩
end Go.Proofs.Ytfbimhnlcmdcpaa.Pa
namespace Go.Proofs.Ytfbimhnlcmdcpaa.Pa
open Go.RowKit Go.Proofs.YtfbimhnlcmdcpaaW.PrintWords Go.Proofs.YtfbimhnlcmdcpaaW.PrintLast Go.Proofs.YtfbimhnlcmdcpaaW.PrintMore
attribute [local go_sem] max2_int min2_int max_two min_two max_three min_three max_four min_four   -- for this text's walks alone
set_option linter.unusedVariables false
set_option linter.unusedSimpArgs false

/-! ### wayzgoosekit_Dice_To: function 32 -/
def wayzgoosekit_Dice_To.f (s0_0 : List Int) (s0_1 : Int) (s0_2 : Int) (a1 : Int) : Option (Int × Int × Int) := if a1 < 1 then (some (0, s0_1, s0_2)) else ((wayzgoosekit_Dice_raw.f s0_0 s0_1 s0_2).bind fun bt102 => (if (IntKind.u64.wrap (wrap64 (a1 + 1))) = 0 then (none) else (some (wrap64 (Int.tmod (bt102.1 / 65536) (IntKind.u64.wrap (wrap64 (a1 + 1)))), bt102.2.1, bt102.2.2))))
set_option maxHeartbeats 8000000 in
set_option maxRecDepth 100000 in
theorem wayzgoosekit_Dice_To.calls (g : Nat) (s0_0 : List Int) (s0_1 : Int) (s0_2 : Int) (a1 : Int) (r1 : Int) (r2 : Int) (r3 : Int) (w0 w : World) (hI : IsS72 w0 w g s0_0 s0_1 s0_2) (hB : Below w0.heap.size w0 w) (h : wayzgoosekit_Dice_To.f s0_0 s0_1 s0_2 a1 = some (r1, r2, r3)) :
    Calls Try.prog 32 #[.pointer (some ⟨g, 0, none⟩), .int .i64 a1] w fun e w' => e = .returned (.int .i64 r1) ∧ IsS72 w0 w' g s0_0 r2 r3 ∧ Below w0.heap.size w0 w' ∧ KeepBut w w' g none := by
  have HI0 := Aside0.mk hI
  have HK := Aside0.mk (KeepBut.refl w g none)
  have HL := Aside0.mk hB.size
  clear hI
  have HW0 := Aside0.mk hB.size
  have HB := Aside0.mk hB
  clear hB
  have H : (if a1 < 1 then (some (0, s0_1, s0_2)) else ((wayzgoosekit_Dice_raw.f s0_0 s0_1 s0_2).bind fun bt102 => (if (IntKind.u64.wrap (wrap64 (a1 + 1))) = 0 then (none) else (some (wrap64 (Int.tmod (bt102.1 / 65536) (IntKind.u64.wrap (wrap64 (a1 + 1)))), bt102.2.1, bt102.2.2))))) = some (r1, r2, r3) := h
  clear h
  by_cases c3 : a1 < 1
  · rw [if_pos c3] at H
    have c3b0 : decide (a1 < 1) = true := decide_eq_true c3
    clear c3
    simp only [Option.some.injEq, Prod.mk.injEq] at H
    obtain ⟨rfl, rfl, rfl⟩ := H
    go_enter Try.func32, Try.ntmps32
    go_wp2
    go_ret
    exact ⟨by first | rfl | (simp [errW_none, errW_some] <;> rfl) | (simp [*, errW_none, errW_some] <;> rfl), by repeat (first | (with_reducible first | exact HI0.out | apply IsS72.alloc | apply IsS72.drewN | apply IsS72.drew | apply IsS72.set_1 | apply IsS72.set_2) | exact HI0.out), by repeat (first | (with_reducible first | exact HB.out | apply below_alloc | apply pw_below_drewN | apply below_drew1 | refine below_set ?_ (IsS72.ge HI0.out)) | exact HB.out), by repeat (first | (with_reducible first | exact HK.out | apply KeepBut.set_ | apply keep_drewN | apply keep_drew | apply keep_alloc) | exact HK.out)⟩
  · rw [if_neg c3] at H
    have c3b0 : decide (a1 < 1) = false := decide_eq_false c3
    clear c3
    replace H := Option.bind_eq_some_iff.mp H
    obtain ⟨⟨t102, t103, t104⟩, A40, H⟩ := H
    replace H : (if (IntKind.u64.wrap (wrap64 (a1 + 1))) = 0 then (none) else (some (wrap64 (Int.tmod (t102 / 65536) (IntKind.u64.wrap (wrap64 (a1 + 1)))), t103, t104))) = some (r1, r2, r3) := H
    have A4 := Aside0.mk A40
    clear A40
    by_cases c5 : (IntKind.u64.wrap (wrap64 (a1 + 1))) = 0
    · rw [if_pos c5] at H
      exact absurd H (by simp)
    · rw [if_neg c5] at H
      have c5b0 : ((IntKind.u64.wrap (wrap64 (a1 + 1))) == 0) = false := beq_eq_false_iff_ne.mpr c5
      have c5b1 : ((IntKind.u64.wrap (wrap64 (a1 + 1))) != 0) = true := bne_iff_ne.mpr c5
      simp only [Option.some.injEq, Prod.mk.injEq] at H
      obtain ⟨rfl, rfl, rfl⟩ := H
      go_enter Try.func32, Try.ntmps32
      go_wp2_with (first | ((with_reducible refine gate_callee (f := 67) rfl ?_); refine goesL_ (some 8) rfl rfl Try.func67 (by kernel_rfl) rfl #[.pointer (some ⟨g, 0, none⟩)] rfl (by (try simp only [List.map_toArray, List.map_cons, List.map_nil]); first | done | rfl | (simp only [List.length_drop, List.length_take]; rfl)) ?_; (with_reducible refine (wayzgoosekit_Dice_raw.calls g s0_0 s0_1 s0_2 t102 t103 t104 w0 _ ?side1 ?side2 A4.out).mono ?_); (case side1 => repeat (first | (with_reducible first | exact HI0.out | apply IsS72.alloc | apply IsS72.drewN | apply IsS72.drew | apply IsS72.set_1 | apply IsS72.set_2) | exact HI0.out)); (case side2 => repeat (first | (with_reducible first | exact HB.out | apply below_alloc | apply pw_below_drewN | apply below_drew1 | refine below_set ?_ (IsS72.ge HI0.out)) | exact HB.out)); rintro e w6 ⟨rfl, hi, hb, hk⟩; refine ⟨_, rfl, ?_⟩; have n0_ := Aside0.mk (KeepBut.trans (by repeat (first | (with_reducible first | exact HK.out | apply KeepBut.set_ | apply keep_drewN | apply keep_drew | apply keep_alloc) | exact HK.out)) hk (.inl rfl)); have n1_ := Aside0.mk (hb); have n2_ := Aside0.mk (hi); clear HK; clear HB; clear HI0; have HK := n0_; have HB := n1_; have HI0 := n2_; clear n0_ n1_ n2_; (try clear hb); (try clear hb2); (try clear hk); (try clear hi)))
      go_ret
      exact ⟨by first | rfl | (simp [errW_none, errW_some] <;> rfl) | (simp [*, errW_none, errW_some] <;> rfl), by repeat (first | (with_reducible first | exact HI0.out | apply IsS72.alloc | apply IsS72.drewN | apply IsS72.drew | apply IsS72.set_1 | apply IsS72.set_2) | exact HI0.out), by repeat (first | (with_reducible first | exact HB.out | apply below_alloc | apply pw_below_drewN | apply below_drew1 | refine below_set ?_ (IsS72.ge HI0.out)) | exact HB.out), by repeat (first | (with_reducible first | exact HK.out | apply KeepBut.set_ | apply keep_drewN | apply keep_drew | apply keep_alloc) | exact HK.out)⟩

/-! ### wayzgoosekit_Dice_Order: function 23 -/
mutual
def wayzgoosekit_Dice_Order.l0 : Nat → Int → List Int → Int → List Int → Int → Int → Option (List Int × Int × Int)
  | 0, _, _, _, _, _, _ => none
  | k + 1, x1, x5, x6, x1000, x1001, x1002 => if x6 < x1 then (if x5.length < 17592186044416 then (wayzgoosekit_Dice_Order.l0 k x1 (x5 ++ [x6]) (wrap64 (x6 + 1)) x1000 x1001 x1002) else (none)) else (wayzgoosekit_Dice_Order.l1 k x5 (wrap64 (x1 - 1)) x1000 x1001 x1002)
def wayzgoosekit_Dice_Order.l1 : Nat → List Int → Int → List Int → Int → Int → Option (List Int × Int × Int)
  | 0, _, _, _, _, _ => none
  | k + 1, x5, x7, x1000, x1001, x1002 => if x7 > 0 then ((wayzgoosekit_Dice_To.f x1000 x1001 x1002 x7).bind fun bt108 => (if 0 ≤ x7 then (if x7 < (x5.length : Int) then (if 0 ≤ bt108.1 then (if bt108.1 < (x5.length : Int) then (wayzgoosekit_Dice_Order.l1 k ((x5.set (x7 : Int).toNat (rd x5 bt108.1)).set (bt108.1 : Int).toNat (rd x5 x7)) (wrap64 (x7 - 1)) x1000 bt108.2.1 bt108.2.2) else (none)) else (none)) else (none)) else (none))) else (some (x5, x1001, x1002))
end
def wayzgoosekit_Dice_Order.f (k : Nat) (s0_0 : List Int) (s0_1 : Int) (s0_2 : Int) (a1 : Int) : Option (List Int × Int × Int) := wayzgoosekit_Dice_Order.l0 k a1 ([] : List Int) 0 s0_0 s0_1 s0_2
theorem wayzgoosekit_Dice_Order.mono_l : ∀ k, (∀ y0 y1 y2 y3 y4 y5, LeO (wayzgoosekit_Dice_Order.l0 k y0 y1 y2 y3 y4 y5) (wayzgoosekit_Dice_Order.l0 (k + 1) y0 y1 y2 y3 y4 y5)) ∧ (∀ y0 y1 y2 y3 y4, LeO (wayzgoosekit_Dice_Order.l1 k y0 y1 y2 y3 y4) (wayzgoosekit_Dice_Order.l1 (k + 1) y0 y1 y2 y3 y4))
  | 0 => ⟨fun _ _ _ _ _ _ r h => by simp [wayzgoosekit_Dice_Order.l0] at h, fun _ _ _ _ _ r h => by simp [wayzgoosekit_Dice_Order.l1] at h⟩
  | k + 1 => by
    obtain ⟨ih0, ih1⟩ := wayzgoosekit_Dice_Order.mono_l k
    refine ⟨?_, ?_⟩
    · intro y0 y1 y2 y3 y4 y5
      unfold wayzgoosekit_Dice_Order.l0
      repeat' first
      | (with_reducible exact ih0 _ _ _ _ _ _)
      | (with_reducible exact ih1 _ _ _ _ _)
      | (with_reducible exact LeO.refl _)
      | (with_reducible exact LeO.none _)
      | (with_reducible refine LeO.ite ?_ ?_)
      | (with_reducible refine LeO.bind ?_ (fun _ => ?_))
      | exact ih0 _ _ _ _ _ _
      | exact ih1 _ _ _ _ _
      | exact LeO.none _
      | refine LeO.ite ?_ ?_
      | refine LeO.bind ?_ (fun _ => ?_)
    · intro y0 y1 y2 y3 y4
      unfold wayzgoosekit_Dice_Order.l1
      repeat' first
      | (with_reducible exact ih0 _ _ _ _ _ _)
      | (with_reducible exact ih1 _ _ _ _ _)
      | (with_reducible exact LeO.refl _)
      | (with_reducible exact LeO.none _)
      | (with_reducible refine LeO.ite ?_ ?_)
      | (with_reducible refine LeO.bind ?_ (fun _ => ?_))
      | exact ih0 _ _ _ _ _ _
      | exact ih1 _ _ _ _ _
      | exact LeO.none _
      | refine LeO.ite ?_ ?_
      | refine LeO.bind ?_ (fun _ => ?_)
theorem wayzgoosekit_Dice_Order.mono : ∀ a0 a1 a2 a3 k, LeO (wayzgoosekit_Dice_Order.f k a0 a1 a2 a3) (wayzgoosekit_Dice_Order.f (k + 1) a0 a1 a2 a3) := by
  intro a0 a1 a2 a3 k
  obtain ⟨ih0, ih1⟩ := wayzgoosekit_Dice_Order.mono_l k
  unfold wayzgoosekit_Dice_Order.f
  repeat' first
      | (with_reducible exact ih0 _ _ _ _ _ _)
      | (with_reducible exact ih1 _ _ _ _ _)
      | (with_reducible exact LeO.refl _)
      | (with_reducible exact LeO.none _)
      | (with_reducible refine LeO.ite ?_ ?_)
      | (with_reducible refine LeO.bind ?_ (fun _ => ?_))
      | exact ih0 _ _ _ _ _ _
      | exact ih1 _ _ _ _ _
      | exact LeO.none _
      | refine LeO.ite ?_ ?_
      | refine LeO.bind ?_ (fun _ => ?_)
set_option maxHeartbeats 8000000 in
set_option maxRecDepth 100000 in
theorem wayzgoosekit_Dice_Order.calls (k : Nat) (g : Nat) (s0_0 : List Int) (s0_1 : Int) (s0_2 : Int) (a1 : Int) (r1 : List Int) (r2 : Int) (r3 : Int) (w0 w : World) (hI : IsS72 w0 w g s0_0 s0_1 s0_2) (hB : Below w0.heap.size w0 w) (h : wayzgoosekit_Dice_Order.f k s0_0 s0_1 s0_2 a1 = some (r1, r2, r3)) :
    Calls Try.prog 23 #[.pointer (some ⟨g, 0, none⟩), .int .i64 a1] w fun e w' => ∃ v0_ : Value, e = .returned (v0_) ∧ Kd.R (Kd.int .i64) 3 w' w.heap.size (fun _ => True) v0_ r1 ∧ IsS72 w0 w' g s0_0 r2 r3 ∧ Below w0.heap.size w0 w' ∧ KeepBut w w' g none := by
  have HI0 := Aside0.mk hI
  have HK := Aside0.mk (KeepBut.refl w g none)
  have HL := Aside0.mk hB.size
  clear hI
  have HW0 := Aside0.mk hB.size
  have HB := Aside0.mk hB
  clear hB
  have H : (wayzgoosekit_Dice_Order.l0 k a1 ([] : List Int) 0 s0_0 s0_1 s0_2) = some (r1, r2, r3) := h
  clear h
  have H' := Aside0.mk H
  clear H
  go_enter Try.func23, Try.ntmps23
  go_wp2
  go_loopg [5, 6] k (fun kq v5 v6 w' => ∃ (x5_1 : List Int) (x6_1 : Int), v6 = .int .i64 x6_1 ∧ Aside0 (wayzgoosekit_Dice_Order.l0 kq a1 x5_1 x6_1 s0_0 s0_1 s0_2 = some (r1, r2, r3)) ∧ Aside0 (kq ≤ k) ∧ Aside0 (Kd.R (Kd.int .i64) 3 w' w.heap.size (fun _ => True) v5 x5_1) ∧ Aside0 (IsS72 w0 w' g s0_0 s0_1 s0_2) ∧ Aside0 (KeepBut w w' g none) ∧ Aside0 (Below w0.heap.size w0 w'))
  case atStart => exact ⟨(([] : List Int)), (0), (by first | rfl | (simp; done) | (simp [*]; done)), H', ⟨Nat.le_refl _⟩, ⟨by first | exact Kd.R_nil _ _ _ _ _ | exact Kd.N_nil _ _ _ _ _ | exact Kd.V_nil _ _ _ _ _ | exact Kd.Q_nil _ _ _ _ _ | exact Kd.S_nil _ _ _ _ _⟩, ⟨by repeat (first | (with_reducible first | exact HI0.out | apply IsS72.alloc | apply IsS72.drewN | apply IsS72.drew | apply IsS72.set_1 | apply IsS72.set_2) | exact HI0.out)⟩, ⟨by repeat (first | (with_reducible first | exact HK.out | apply KeepBut.set_ | apply keep_drewN | apply keep_drew | apply keep_alloc) | exact HK.out)⟩, ⟨by repeat (first | (with_reducible first | exact HB.out | apply below_alloc | apply pw_below_drewN | apply below_drew1 | refine below_set ?_ (IsS72.ge HI0.out)) | exact HB.out)⟩⟩
  case round =>
    clear H'
    try clear c2
    try clear p2
    obtain ⟨x5_1, x6_1, rfl, HA, HK1, HO_5, HI0, HK, HB⟩ := hrel
    cases gk with
    | zero => exact absurd HA.out (by simp [wayzgoosekit_Dice_Order.l0])
    | succ k1 =>
      have H := HA.out
      clear HA
      simp only [wayzgoosekit_Dice_Order.l0] at H
      by_cases c3 : x6_1 < a1
      · rw [if_pos c3] at H
        have c3b0 : decide (x6_1 < a1) = true := decide_eq_true c3
        clear c3
        by_cases c4 : x5_1.length < 17592186044416
        · rw [if_pos c4] at H
          have LMc4 := Aside0.mk c4
          clear c4
          obtain ⟨y105, hy105⟩ : ∃ y_ : List Int, y_ = (x5_1 ++ [x6_1]) := ⟨_, rfl⟩
          replace H : (wayzgoosekit_Dice_Order.l0 k1 a1 y105 (wrap64 (x6_1 + 1)) s0_0 s0_1 s0_2) = some (r1, r2, r3) := by first | (rw [hy105]; with_reducible exact H) | (have H2_ := (Option.bind_some _ _).symm.trans H; rw [hy105]; with_reducible exact H2_) | (have H2_ := (Option.bind_some _ _).symm.trans H; with_reducible exact H2_) | with_reducible exact H | (rw [hy105]; exact H) | exact H
          have Ny105 := Aside0.mk hy105
          clear hy105
          have H' := Aside0.mk H
          clear H
          go_wp2_with (first | ((with_reducible refine gate_builtin (b := .append) (xs := #[.tmp 15, .tmp 17]) rfl ?_); at_builtin; refine Kd.R_append (Kd.int .i64) w.heap.size rfl (.tmp 15) (.tmp 17) 22 3 (.int .i64 0) 8 rfl Try.underlying22 info3 rfl (by decide) (by omega) u5 x5_1 x6_1 [.int .i64 x6_1] (fun _ => True) (fun _ => False) rfl rfl ?aP (fun _ hk => hk.elim) ?aF ?aO (Below.refl _ _) ?aS ?aL ?_; (case aP => exact rfl); (case aF => exact (fun _ _ => trivial)); (case aO => exact (by (with_reducible repeat (first | apply Kd.R_alloc | apply Kd.R_drewN | apply Kd.R_drew)); exact HO_5.out)); (case aS => exact (keep_size (w := w) (g := g) (row := none) (by repeat (first | (with_reducible first | exact HK.out | apply KeepBut.set_ | apply keep_drewN | apply keep_drew | apply keep_alloc) | exact HK.out)))); (case aL => have := LMc4.out; omega); intro v106 w5 ho hb hg hat; rw [← Ny105.out] at ho; have n0_ := Aside0.mk (IsS72.grown (by repeat (first | (with_reducible first | exact HI0.out | apply IsS72.alloc | apply IsS72.drewN | apply IsS72.drew | apply IsS72.set_1 | apply IsS72.set_2) | exact HI0.out)) hg (IsS72.own_ne HI0.out HO_5.out (by decide))); have n1_ := Aside0.mk (below_weaken (by repeat (first | (with_reducible first | exact HB.out | apply below_alloc | apply pw_below_drewN | apply below_drew1 | refine below_set ?_ (IsS72.ge HI0.out)) | exact HB.out)) HL.out hb); have n2_ := Aside0.mk (KeepBut.trans (by repeat (first | (with_reducible first | exact HK.out | apply KeepBut.set_ | apply keep_drewN | apply keep_drew | apply keep_alloc) | exact HK.out)) (KeepBut.of_grown hg g) (Kd.R_base2 HO_5.out)); have n3_ := Aside0.mk (ho); clear HI0; clear HB; clear HK; clear HO_5; have HI0 := n0_; have HB := n1_; have HK := n2_; have HO107 := n3_; clear n0_ n1_ n2_ n3_; clear ho hb hg hat))
          go_roundg k1
          case measure => have := HK1.out; omega
          case rel => exact ⟨(y105), (wrap64 (x6_1 + 1)), (by first | rfl | (simp; done) | (simp [*]; done)), H', ⟨by have := HK1.out; omega⟩, ⟨by (with_reducible repeat (first | apply Kd.R_alloc | apply Kd.R_drewN | apply Kd.R_drew)); exact HO107.out⟩, ⟨by repeat (first | (with_reducible first | exact HI0.out | apply IsS72.alloc | apply IsS72.drewN | apply IsS72.drew | apply IsS72.set_1 | apply IsS72.set_2) | exact HI0.out)⟩, ⟨by repeat (first | (with_reducible first | exact HK.out | apply KeepBut.set_ | apply keep_drewN | apply keep_drew | apply keep_alloc) | exact HK.out)⟩, ⟨by repeat (first | (with_reducible first | exact HB.out | apply below_alloc | apply pw_below_drewN | apply below_drew1 | refine below_set ?_ (IsS72.ge HI0.out)) | exact HB.out)⟩⟩
        · rw [if_neg c4] at H
          exact absurd H (by simp)
      · rw [if_neg c3] at H
        have c3b0 : decide (x6_1 < a1) = false := decide_eq_false c3
        clear c3
        have H' := Aside0.mk H
        clear H
        go_wp2
        go_loopg [7] k1 (fun kq v7 w' => ∃ (x5_2 : List Int) (x7_2 : Int) (x1001_2 : Int) (x1002_2 : Int), v7 = .int .i64 x7_2 ∧ Aside0 (wayzgoosekit_Dice_Order.l1 kq x5_2 x7_2 s0_0 x1001_2 x1002_2 = some (r1, r2, r3)) ∧ Aside0 (kq ≤ k1) ∧ Aside0 (Kd.R (Kd.int .i64) 3 w' w.heap.size (fun _ => True) u5 x5_2) ∧ Aside0 (IsS72 w0 w' g s0_0 x1001_2 x1002_2) ∧ Aside0 (KeepBut w w' g none) ∧ Aside0 (Below w0.heap.size w0 w'))
        case atStart => exact ⟨(x5_1), (wrap64 (a1 - 1)), (s0_1), (s0_2), (by first | rfl | (simp; done) | (simp [*]; done)), H', ⟨Nat.le_refl _⟩, ⟨by (with_reducible repeat (first | apply Kd.R_alloc | apply Kd.R_drewN | apply Kd.R_drew)); exact HO_5.out⟩, ⟨by repeat (first | (with_reducible first | exact HI0.out | apply IsS72.alloc | apply IsS72.drewN | apply IsS72.drew | apply IsS72.set_1 | apply IsS72.set_2) | exact HI0.out)⟩, ⟨by repeat (first | (with_reducible first | exact HK.out | apply KeepBut.set_ | apply keep_drewN | apply keep_drew | apply keep_alloc) | exact HK.out)⟩, ⟨by repeat (first | (with_reducible first | exact HB.out | apply below_alloc | apply pw_below_drewN | apply below_drew1 | refine below_set ?_ (IsS72.ge HI0.out)) | exact HB.out)⟩⟩
        case round =>
          clear H'
          try clear c2
          try clear p2
          try clear c3
          try clear c3b0
          try clear c4
          try clear p2
          obtain ⟨x5_2, x7_2, x1001_2, x1002_2, rfl, HA, HK2, HO_5, HI0, HK, HB⟩ := hrel
          cases gk with
          | zero => exact absurd HA.out (by simp [wayzgoosekit_Dice_Order.l1])
          | succ k2 =>
            have H := HA.out
            clear HA
            simp only [wayzgoosekit_Dice_Order.l1] at H
            by_cases c6 : x7_2 > 0
            · rw [if_pos c6] at H
              have c6b0 : decide (0 < x7_2) = true := decide_eq_true c6
              clear c6
              replace H := Option.bind_eq_some_iff.mp H
              obtain ⟨⟨t108, t109, t110⟩, A70, H⟩ := H
              replace H : (if 0 ≤ x7_2 then (if x7_2 < (x5_2.length : Int) then (if 0 ≤ t108 then (if t108 < (x5_2.length : Int) then (wayzgoosekit_Dice_Order.l1 k2 ((x5_2.set (x7_2 : Int).toNat (rd x5_2 t108)).set (t108 : Int).toNat (rd x5_2 x7_2)) (wrap64 (x7_2 - 1)) s0_0 t109 t110) else (none)) else (none)) else (none)) else (none)) = some (r1, r2, r3) := H
              have A7 := Aside0.mk A70
              clear A70
              by_cases c8 : 0 ≤ x7_2
              · rw [if_pos c8] at H
                have c8b0 : decide (0 ≤ x7_2) = true := decide_eq_true c8
                clear c8
                by_cases c9 : x7_2 < (x5_2.length : Int)
                · rw [if_pos c9] at H
                  have c9b0 : decide (x7_2 < (x5_2.length : Int)) = true := decide_eq_true c9
                  clear c9
                  by_cases c10 : 0 ≤ t108
                  · rw [if_pos c10] at H
                    have c10b0 : decide (0 ≤ t108) = true := decide_eq_true c10
                    clear c10
                    by_cases c11 : t108 < (x5_2.length : Int)
                    · rw [if_pos c11] at H
                      have c11b0 : decide (t108 < (x5_2.length : Int)) = true := decide_eq_true c11
                      clear c11
                      obtain ⟨y113, hy113⟩ : ∃ y_ : List Int, y_ = (x5_2.set (x7_2 : Int).toNat (rd x5_2 t108)) := ⟨_, rfl⟩
                      replace H : (wayzgoosekit_Dice_Order.l1 k2 (y113.set (t108 : Int).toNat (rd x5_2 x7_2)) (wrap64 (x7_2 - 1)) s0_0 t109 t110) = some (r1, r2, r3) := by first | (rw [hy113]; with_reducible exact H) | (have H2_ := (Option.bind_some _ _).symm.trans H; rw [hy113]; with_reducible exact H2_) | (have H2_ := (Option.bind_some _ _).symm.trans H; with_reducible exact H2_) | with_reducible exact H | (rw [hy113]; exact H) | exact H
                      have Ny113 := Aside0.mk hy113
                      clear hy113
                      obtain ⟨y114, hy114⟩ : ∃ y_ : List Int, y_ = (y113.set (t108 : Int).toNat (rd x5_2 x7_2)) := ⟨_, rfl⟩
                      replace H : (wayzgoosekit_Dice_Order.l1 k2 y114 (wrap64 (x7_2 - 1)) s0_0 t109 t110) = some (r1, r2, r3) := by first | (rw [hy114]; with_reducible exact H) | (have H2_ := (Option.bind_some _ _).symm.trans H; rw [hy114]; with_reducible exact H2_) | (have H2_ := (Option.bind_some _ _).symm.trans H; with_reducible exact H2_) | with_reducible exact H | (rw [hy114]; exact H) | exact H
                      have Ny114 := Aside0.mk hy114
                      clear hy114
                      have H' := Aside0.mk H
                      clear H
                      go_wp2_with (first | ((with_reducible refine gate_callee (f := 32) rfl ?_); refine goesL_ (some 27) rfl rfl Try.func32 (by kernel_rfl) rfl #[.pointer (some ⟨g, 0, none⟩), .int .i64 x7_2] rfl (by (try simp only [List.map_toArray, List.map_cons, List.map_nil]); first | done | rfl | (simp only [List.length_drop, List.length_take]; rfl)) ?_; (with_reducible refine (wayzgoosekit_Dice_To.calls g s0_0 x1001_2 x1002_2 x7_2 t108 t109 t110 w0 _ ?side1 ?side2 A7.out).mono ?_); (case side1 => repeat (first | (with_reducible first | exact HI0.out | apply IsS72.alloc | apply IsS72.drewN | apply IsS72.drew | apply IsS72.set_1 | apply IsS72.set_2) | exact HI0.out)); (case side2 => repeat (first | (with_reducible first | exact HB.out | apply below_alloc | apply pw_below_drewN | apply below_drew1 | refine below_set ?_ (IsS72.ge HI0.out)) | exact HB.out)); rintro e w14 ⟨rfl, hi, hb, hk⟩; refine ⟨_, rfl, ?_⟩; have n0_ := Aside0.mk (Kd.R_mono (Kd.R_keep (IsS72.apart (show IsS72 w0 _ g s0_0 x1001_2 x1002_2 from by repeat (first | (with_reducible first | exact HI0.out | apply IsS72.alloc | apply IsS72.drewN | apply IsS72.drew | apply IsS72.set_1 | apply IsS72.set_2) | exact HI0.out)) (by (with_reducible repeat (first | apply Kd.R_alloc | apply Kd.R_drewN | apply Kd.R_drew)); exact HO_5.out) (by decide)) hk (fun _ h => h.2)) (fun _ h => h.1)); have n1_ := Aside0.mk (KeepBut.trans (by repeat (first | (with_reducible first | exact HK.out | apply KeepBut.set_ | apply keep_drewN | apply keep_drew | apply keep_alloc) | exact HK.out)) hk (.inl rfl)); have n2_ := Aside0.mk (hb); have n3_ := Aside0.mk (hi); clear HO_5; clear HK; clear HB; clear HI0; have HO_5 := n0_; have HK := n1_; have HB := n2_; have HI0 := n3_; clear n0_ n1_ n2_ n3_; (try clear hb); (try clear hb2); (try clear hk); (try clear hi); obtain ⟨Ao15, co15, eo15⟩ := Kd.R_slice HO_5.out; subst eo15; have p111 : 0 ≤ (x7_2 : Int) := of_decide_eq_true (by first | (with_reducible assumption) | assumption); have q111 : x7_2 < (x5_2.length : Int) := of_decide_eq_true (by first | (with_reducible assumption) | assumption); obtain ⟨ad111, e111, hx111_0⟩ := Kd.at_int (Kd.R_reads' HO_5.out).2.2 x7_2 p111 q111; cases e111; replace p111 := eq_true p111; replace q111 := eq_true q111; have p112 : 0 ≤ (t108 : Int) := of_decide_eq_true (by first | (with_reducible assumption) | assumption); have q112 : t108 < (x5_2.length : Int) := of_decide_eq_true (by first | (with_reducible assumption) | assumption); obtain ⟨ad112, e112, hx112_0⟩ := Kd.at_int (Kd.R_reads' HO_5.out).2.2 t108 p112 q112; obtain rfl : ad111 = ad112 := (by injection e112); replace p112 := eq_true p112; replace q112 := eq_true q112; have p12 : 0 ≤ (x7_2 : Int) := of_decide_eq_true (by first | (with_reducible assumption) | assumption); have q12 : (x7_2 : Int) < ((x5_2.length : Int) : Int) := of_decide_eq_true (by first | (with_reducible assumption) | assumption); obtain ⟨go12, co12, eo12, gb12, gl12, cl12, HG12⟩ := Kd.R_form HO_5.out (by omega); (first | cases eo12 | (injection eo12 with ea_ en_ ec_; (first | subst ea_ | (injection ea_ with ea_; subst ea_)); subst ec_; clear en_)); have GB12 := Aside0.mk gb12; have GG12 := Aside0.mk HG12; clear gb12 gl12 HG12; (first | simp only [add_plain] at hx111_0 | skip); (first | simp only [add_plain] at hx112_0 | skip); obtain ⟨hx12_0, hf12_0⟩ := Kd.R_celln 0 HO_5.out (x7_2 : Int) p12 q12; replace p12 := eq_true p12; replace q12 := eq_true q12; obtain ⟨hy16_, hz16_⟩ := Kd.R_celln 0 HO_5.out (x7_2 : Int) (of_decide_eq_true (by first | (with_reducible assumption) | assumption)) (of_decide_eq_true (by first | (with_reducible assumption) | assumption)); have HP16 := Kd.R_putg HO_5.out (x7_2 : Int) (rd x5_2 t108)) | ((with_reducible refine gate_store (t := 3) (p := 38) rfl ?_); refine store_event (t := 3) (p := 38) (v := ?vo_w17) (w1 := (w14.setCell ⟨go12, (x7_2 : Int).toNat, none⟩ (.int .i64 (rd x5_2 t108)))) ?hg ?ho ?hn ?hr ?_; (case ho => rfl); (case hg => rfl); (case hn => rfl); (case hr => first | (go_simp; done) | (go_simp; rfl)); intro w17 hw; have hg : w14.grownBy w17 (some go12) := (by rw [hw]; exact HP16.2); have hp_ : Kd.R (Kd.int .i64) 3 w17 w.heap.size (fun _ => True) (.slice (some ⟨go12, 0, none⟩) x5_2.length co15) y113 := (by rw [hw, Ny113.out]; exact HP16.1); clear HP16; have n0_ := Aside0.mk (hp_); have n1_ := Aside0.mk (IsS72.grown (by repeat (first | (with_reducible first | exact HI0.out | apply IsS72.alloc | apply IsS72.drewN | apply IsS72.drew | apply IsS72.set_1 | apply IsS72.set_2) | exact HI0.out)) hg (IsS72.own_ne HI0.out HO_5.out (by decide))); have n2_ := Aside0.mk ((by rw [hw]; exact below_set (HB.out) (Nat.le_trans HL.out GB12.out) : Below w0.heap.size w0 w17)); have n3_ := Aside0.mk (KeepBut.trans (by repeat (first | (with_reducible first | exact HK.out | apply KeepBut.set_ | apply keep_drewN | apply keep_drew | apply keep_alloc) | exact HK.out)) (KeepBut.of_grown hg g) (Kd.R_base2 HO_5.out)); clear HO_5; clear HI0; clear HB; clear HK; have HO_5 := n0_; have HI0 := n1_; have HB := n2_; have HK := n3_; clear n0_ n1_ n2_ n3_; clear hg hw hp_; have p13 : 0 ≤ (t108 : Int) := of_decide_eq_true (by first | (with_reducible assumption) | assumption); have q13 : (t108 : Int) < ((x5_2.length : Int) : Int) := of_decide_eq_true (by first | (with_reducible assumption) | assumption); obtain ⟨hx13_0, hf13_0⟩ := Kd.R_celln 0 HO_5.out (t108 : Int) p13 q13; replace p13 := eq_true p13; replace q13 := eq_true q13; obtain ⟨hy18_, hz18_⟩ := Kd.R_celln 0 HO_5.out (t108 : Int) (of_decide_eq_true (by first | (with_reducible assumption) | assumption)) (of_decide_eq_true (by first | (with_reducible assumption) | assumption)); have HP18 := Kd.R_putg HO_5.out (t108 : Int) (rd x5_2 x7_2)) | ((with_reducible refine gate_store (t := 3) (p := 42) rfl ?_); refine store_event (t := 3) (p := 42) (v := ?vo_w19) (w1 := (w17.setCell ⟨go12, (t108 : Int).toNat, none⟩ (.int .i64 (rd x5_2 x7_2)))) ?hg ?ho ?hn ?hr ?_; (case ho => rfl); (case hg => rfl); (case hn => rfl); (case hr => first | (go_simp; done) | (go_simp; rfl)); intro w19 hw; have hg : w17.grownBy w19 (some go12) := (by rw [hw]; exact HP18.2); have hp_ : Kd.R (Kd.int .i64) 3 w19 w.heap.size (fun _ => True) (.slice (some ⟨go12, 0, none⟩) x5_2.length co15) y114 := (by rw [hw, Ny114.out]; exact HP18.1); clear HP18; have n0_ := Aside0.mk (hp_); have n1_ := Aside0.mk (IsS72.grown (by repeat (first | (with_reducible first | exact HI0.out | apply IsS72.alloc | apply IsS72.drewN | apply IsS72.drew | apply IsS72.set_1 | apply IsS72.set_2) | exact HI0.out)) hg (IsS72.own_ne HI0.out HO_5.out (by decide))); have n2_ := Aside0.mk ((by rw [hw]; exact below_set (HB.out) (Nat.le_trans HL.out GB12.out) : Below w0.heap.size w0 w19)); have n3_ := Aside0.mk (KeepBut.trans (by repeat (first | (with_reducible first | exact HK.out | apply KeepBut.set_ | apply keep_drewN | apply keep_drew | apply keep_alloc) | exact HK.out)) (KeepBut.of_grown hg g) (Kd.R_base2 HO_5.out)); clear HO_5; clear HI0; clear HB; clear HK; have HO_5 := n0_; have HI0 := n1_; have HB := n2_; have HK := n3_; clear n0_ n1_ n2_ n3_; clear hg hw hp_))
                      go_roundg k2
                      case measure => have := HK1.out; have := HK2.out; omega
                      case rel => exact ⟨(y114), (wrap64 (x7_2 - 1)), (t109), (t110), (by first | rfl | (simp; done) | (simp [*]; done)), H', ⟨by have := HK1.out; have := HK2.out; omega⟩, ⟨by (with_reducible repeat (first | apply Kd.R_alloc | apply Kd.R_drewN | apply Kd.R_drew)); exact HO_5.out⟩, ⟨by repeat (first | (with_reducible first | exact HI0.out | apply IsS72.alloc | apply IsS72.drewN | apply IsS72.drew | apply IsS72.set_1 | apply IsS72.set_2) | exact HI0.out)⟩, ⟨by repeat (first | (with_reducible first | exact HK.out | apply KeepBut.set_ | apply keep_drewN | apply keep_drew | apply keep_alloc) | exact HK.out)⟩, ⟨by repeat (first | (with_reducible first | exact HB.out | apply below_alloc | apply pw_below_drewN | apply below_drew1 | refine below_set ?_ (IsS72.ge HI0.out)) | exact HB.out)⟩⟩
                    · rw [if_neg c11] at H
                      exact absurd H (by simp)
                  · rw [if_neg c10] at H
                    exact absurd H (by simp)
                · rw [if_neg c9] at H
                  exact absurd H (by simp)
              · rw [if_neg c8] at H
                exact absurd H (by simp)
            · rw [if_neg c6] at H
              have c6b0 : decide (0 < x7_2) = false := decide_eq_false c6
              clear c6
              simp only [Option.some.injEq, Prod.mk.injEq] at H
              obtain ⟨rfl, rfl, rfl⟩ := H
              go_wp2
              go_ret
              exact ⟨_, by first | rfl | (simp [errW_none, errW_some] <;> rfl) | (simp [*, errW_none, errW_some] <;> rfl), by (with_reducible repeat (first | apply Kd.R_alloc | apply Kd.R_drewN | apply Kd.R_drew)); exact HO_5.out, by repeat (first | (with_reducible first | exact HI0.out | apply IsS72.alloc | apply IsS72.drewN | apply IsS72.drew | apply IsS72.set_1 | apply IsS72.set_2) | exact HI0.out), by repeat (first | (with_reducible first | exact HB.out | apply below_alloc | apply pw_below_drewN | apply below_drew1 | refine below_set ?_ (IsS72.ge HI0.out)) | exact HB.out), by repeat (first | (with_reducible first | exact HK.out | apply KeepBut.set_ | apply keep_drewN | apply keep_drew | apply keep_alloc) | exact HK.out)⟩

/-! ### wayzgoosekit_sorts: function 37 -/
def wayzgoosekit_sorts.f  : Option (List ByteArray) := some (([(⟨#[102, 111, 111, 100]⟩ : ByteArray), (⟨#[98, 114, 101, 97, 100]⟩ : ByteArray), (⟨#[99, 108, 111, 116, 104]⟩ : ByteArray), (⟨#[104, 97, 116, 115]⟩ : ByteArray), (⟨#[119, 111, 111, 100]⟩ : ByteArray), (⟨#[105, 114, 111, 110]⟩ : ByteArray), (⟨#[98, 101, 101, 114]⟩ : ByteArray), (⟨#[105, 110]⟩ : ByteArray), (⟨#[115, 101, 101]⟩ : ByteArray)] : List ByteArray))
set_option maxHeartbeats 8000000 in
set_option maxRecDepth 100000 in
theorem wayzgoosekit_sorts.calls  (r : List ByteArray) (w : World) (h : wayzgoosekit_sorts.f  = some r) :
    Calls Try.prog 37 #[] w fun e w' => ∃ v0_ : Value, e = .returned (v0_) ∧ Kd.R Kd.string 9 w' w.heap.size (fun _ => True) v0_ r ∧ Below w.heap.size w w' := by
  have HB := Aside0.mk (Below.refl w.heap.size w)
  have H : (some (([(⟨#[102, 111, 111, 100]⟩ : ByteArray), (⟨#[98, 114, 101, 97, 100]⟩ : ByteArray), (⟨#[99, 108, 111, 116, 104]⟩ : ByteArray), (⟨#[104, 97, 116, 115]⟩ : ByteArray), (⟨#[119, 111, 111, 100]⟩ : ByteArray), (⟨#[105, 114, 111, 110]⟩ : ByteArray), (⟨#[98, 101, 101, 114]⟩ : ByteArray), (⟨#[105, 110]⟩ : ByteArray), (⟨#[115, 101, 101]⟩ : ByteArray)] : List ByteArray))) = some r := h
  clear h
  obtain ⟨y115, hy115⟩ : ∃ y_ : List ByteArray, y_ = (([(⟨#[102, 111, 111, 100]⟩ : ByteArray), (⟨#[98, 114, 101, 97, 100]⟩ : ByteArray), (⟨#[99, 108, 111, 116, 104]⟩ : ByteArray), (⟨#[104, 97, 116, 115]⟩ : ByteArray), (⟨#[119, 111, 111, 100]⟩ : ByteArray), (⟨#[105, 114, 111, 110]⟩ : ByteArray), (⟨#[98, 101, 101, 114]⟩ : ByteArray), (⟨#[105, 110]⟩ : ByteArray), (⟨#[115, 101, 101]⟩ : ByteArray)] : List ByteArray)) := ⟨_, rfl⟩
  replace H : (some y115) = some r := by first | (rw [hy115]; with_reducible exact H) | (have H2_ := (Option.bind_some _ _).symm.trans H; rw [hy115]; with_reducible exact H2_) | (have H2_ := (Option.bind_some _ _).symm.trans H; with_reducible exact H2_) | with_reducible exact H | (rw [hy115]; exact H) | exact H
  have Ny115 := Aside0.mk hy115
  clear hy115
  obtain rfl := Option.some.inj H
  go_enter Try.func37, Try.ntmps37
  go_wp2_with (first | ((with_reducible refine gate_dst (N := 1) rfl ?_); refine Kd.R_lit Kd.string _ 9 ?hg (N := 1) ?hd (xs := ([(⟨#[102, 111, 111, 100]⟩ : ByteArray), (⟨#[98, 114, 101, 97, 100]⟩ : ByteArray), (⟨#[99, 108, 111, 116, 104]⟩ : ByteArray), (⟨#[104, 97, 116, 115]⟩ : ByteArray), (⟨#[119, 111, 111, 100]⟩ : ByteArray), (⟨#[105, 114, 111, 110]⟩ : ByteArray), (⟨#[98, 101, 101, 114]⟩ : ByteArray), (⟨#[105, 110]⟩ : ByteArray), (⟨#[115, 101, 101]⟩ : ByteArray)] : List ByteArray)) (inner := [.string (⟨#[102, 111, 111, 100]⟩ : ByteArray), .string (⟨#[98, 114, 101, 97, 100]⟩ : ByteArray), .string (⟨#[99, 108, 111, 116, 104]⟩ : ByteArray), .string (⟨#[104, 97, 116, 115]⟩ : ByteArray), .string (⟨#[119, 111, 111, 100]⟩ : ByteArray), .string (⟨#[105, 114, 111, 110]⟩ : ByteArray), .string (⟨#[98, 101, 101, 114]⟩ : ByteArray), .string (⟨#[105, 110]⟩ : ByteArray), .string (⟨#[115, 101, 101]⟩ : ByteArray)]) (ok := fun _ => True) (okp := fun _ => True) ?hr ?hp (fun _ hk => hk) trivial (Below.refl _ _) (Nat.le_refl _) (by simp) ?_; (case hd => rfl); (case hg => rfl); (case hr => first | (go_simp; done) | (go_simp; rfl)); (case hp => exact (Reps.one (show Kd.M Kd.string _ _ _ (⟨#[102, 111, 111, 100]⟩ : ByteArray) [.string (⟨#[102, 111, 111, 100]⟩ : ByteArray)] from rfl) (Reps.one (show Kd.M Kd.string _ _ _ (⟨#[98, 114, 101, 97, 100]⟩ : ByteArray) [.string (⟨#[98, 114, 101, 97, 100]⟩ : ByteArray)] from rfl) (Reps.one (show Kd.M Kd.string _ _ _ (⟨#[99, 108, 111, 116, 104]⟩ : ByteArray) [.string (⟨#[99, 108, 111, 116, 104]⟩ : ByteArray)] from rfl) (Reps.one (show Kd.M Kd.string _ _ _ (⟨#[104, 97, 116, 115]⟩ : ByteArray) [.string (⟨#[104, 97, 116, 115]⟩ : ByteArray)] from rfl) (Reps.one (show Kd.M Kd.string _ _ _ (⟨#[119, 111, 111, 100]⟩ : ByteArray) [.string (⟨#[119, 111, 111, 100]⟩ : ByteArray)] from rfl) (Reps.one (show Kd.M Kd.string _ _ _ (⟨#[105, 114, 111, 110]⟩ : ByteArray) [.string (⟨#[105, 114, 111, 110]⟩ : ByteArray)] from rfl) (Reps.one (show Kd.M Kd.string _ _ _ (⟨#[98, 101, 101, 114]⟩ : ByteArray) [.string (⟨#[98, 101, 101, 114]⟩ : ByteArray)] from rfl) (Reps.one (show Kd.M Kd.string _ _ _ (⟨#[105, 110]⟩ : ByteArray) [.string (⟨#[105, 110]⟩ : ByteArray)] from rfl) (Reps.one (show Kd.M Kd.string _ _ _ (⟨#[115, 101, 101]⟩ : ByteArray) [.string (⟨#[115, 101, 101]⟩ : ByteArray)] from rfl) (Reps.none _ _))))))))))); intro v116 w1 ho2 hb hg_ hnew_; clear hg_ hnew_; (first | rw [← Ny115.out] at ho2 | (simp only [Int.reduceToNat] at ho2; rw [← Ny115.out] at ho2)); have n0_ := Aside0.mk (Kd.R_lower ho2 (below_size (by repeat (first | (with_reducible first | exact HB.out | apply below_alloc | apply pw_below_drewN | apply below_drew1) | exact HB.out)))); have n1_ := Aside0.mk (below_step (by repeat (first | (with_reducible first | exact HB.out | apply below_alloc | apply pw_below_drewN | apply below_drew1) | exact HB.out)) hb); clear HB; have HO117 := n0_; have HB := n1_; clear n0_ n1_; clear hb ho2))
  go_ret
  exact ⟨_, by first | rfl | (simp [errW_none, errW_some] <;> rfl) | (simp [*, errW_none, errW_some] <;> rfl), by (with_reducible repeat (first | apply Kd.R_alloc | apply Kd.R_drewN | apply Kd.R_drew)); exact HO117.out, by repeat (first | (with_reducible first | exact HB.out | apply below_alloc | apply pw_below_drewN | apply below_drew1) | exact HB.out)⟩

/-! ### wayzgoosekit_Dice_From: function 38 -/
def wayzgoosekit_Dice_From.f (s0_0 : List Int) (s0_1 : Int) (s0_2 : Int) (a1 : Int) (a2 : Int) : Option (Int × Int × Int) := (wayzgoosekit_Dice_To.f s0_0 s0_1 s0_2 (wrap64 (a2 - a1))).bind fun bt118 => (some (wrap64 (a1 + bt118.1), bt118.2.1, bt118.2.2))
set_option maxHeartbeats 8000000 in
set_option maxRecDepth 100000 in
theorem wayzgoosekit_Dice_From.calls (g : Nat) (s0_0 : List Int) (s0_1 : Int) (s0_2 : Int) (a1 : Int) (a2 : Int) (r1 : Int) (r2 : Int) (r3 : Int) (w0 w : World) (hI : IsS72 w0 w g s0_0 s0_1 s0_2) (hB : Below w0.heap.size w0 w) (h : wayzgoosekit_Dice_From.f s0_0 s0_1 s0_2 a1 a2 = some (r1, r2, r3)) :
    Calls Try.prog 38 #[.pointer (some ⟨g, 0, none⟩), .int .i64 a1, .int .i64 a2] w fun e w' => e = .returned (.int .i64 r1) ∧ IsS72 w0 w' g s0_0 r2 r3 ∧ Below w0.heap.size w0 w' ∧ KeepBut w w' g none := by
  have HI0 := Aside0.mk hI
  have HK := Aside0.mk (KeepBut.refl w g none)
  have HL := Aside0.mk hB.size
  clear hI
  have HW0 := Aside0.mk hB.size
  have HB := Aside0.mk hB
  clear hB
  have H : ((wayzgoosekit_Dice_To.f s0_0 s0_1 s0_2 (wrap64 (a2 - a1))).bind fun bt118 => (some (wrap64 (a1 + bt118.1), bt118.2.1, bt118.2.2))) = some (r1, r2, r3) := h
  clear h
  replace H := Option.bind_eq_some_iff.mp H
  obtain ⟨⟨t118, t119, t120⟩, A40, H⟩ := H
  replace H : (some (wrap64 (a1 + t118), t119, t120)) = some (r1, r2, r3) := H
  have A4 := Aside0.mk A40
  clear A40
  simp only [Option.some.injEq, Prod.mk.injEq] at H
  obtain ⟨rfl, rfl, rfl⟩ := H
  go_enter Try.func38, Try.ntmps38
  go_wp2_with (first | ((with_reducible refine gate_callee (f := 32) rfl ?_); refine goesL_ (some 12) rfl rfl Try.func32 (by kernel_rfl) rfl #[.pointer (some ⟨g, 0, none⟩), .int .i64 (wrap64 (a2 - a1))] rfl (by (try simp only [List.map_toArray, List.map_cons, List.map_nil]); first | done | rfl | (simp only [List.length_drop, List.length_take]; rfl)) ?_; (with_reducible refine (wayzgoosekit_Dice_To.calls g s0_0 s0_1 s0_2 (wrap64 (a2 - a1)) t118 t119 t120 w0 _ ?side1 ?side2 A4.out).mono ?_); (case side1 => repeat (first | (with_reducible first | exact HI0.out | apply IsS72.alloc | apply IsS72.drewN | apply IsS72.drew | apply IsS72.set_1 | apply IsS72.set_2) | exact HI0.out)); (case side2 => repeat (first | (with_reducible first | exact HB.out | apply below_alloc | apply pw_below_drewN | apply below_drew1 | refine below_set ?_ (IsS72.ge HI0.out)) | exact HB.out)); rintro e w5 ⟨rfl, hi, hb, hk⟩; refine ⟨_, rfl, ?_⟩; have n0_ := Aside0.mk (KeepBut.trans (by repeat (first | (with_reducible first | exact HK.out | apply KeepBut.set_ | apply keep_drewN | apply keep_drew | apply keep_alloc) | exact HK.out)) hk (.inl rfl)); have n1_ := Aside0.mk (hb); have n2_ := Aside0.mk (hi); clear HK; clear HB; clear HI0; have HK := n0_; have HB := n1_; have HI0 := n2_; clear n0_ n1_ n2_; (try clear hb); (try clear hb2); (try clear hk); (try clear hi)))
  go_ret
  exact ⟨by first | rfl | (simp [errW_none, errW_some] <;> rfl) | (simp [*, errW_none, errW_some] <;> rfl), by repeat (first | (with_reducible first | exact HI0.out | apply IsS72.alloc | apply IsS72.drewN | apply IsS72.drew | apply IsS72.set_1 | apply IsS72.set_2) | exact HI0.out), by repeat (first | (with_reducible first | exact HB.out | apply below_alloc | apply pw_below_drewN | apply below_drew1 | refine below_set ?_ (IsS72.ge HI0.out)) | exact HB.out), by repeat (first | (with_reducible first | exact HK.out | apply KeepBut.set_ | apply keep_drewN | apply keep_drew | apply keep_alloc) | exact HK.out)⟩

/-! ### wayzgoosekit_Index: function 20 -/
def wayzgoosekit_Index.l0 : Nat → List Int → Int → Int → Option (Int)
  | 0, _, _, _ => none
  | k + 1, x0, x1, x5 => if x5 < (x0.length : Int) then (if 0 ≤ x5 then (if (rd x0 x5) = x1 then (some x5) else (wayzgoosekit_Index.l0 k x0 x1 (wrap64 (x5 + 1)))) else (none)) else (some (-1))
def wayzgoosekit_Index.f (k : Nat) (l0 : List Int) (a1 : Int) : Option (Int) := wayzgoosekit_Index.l0 k l0 a1 0
theorem wayzgoosekit_Index.mono_l : ∀ k, (∀ y0 y1 y2, LeO (wayzgoosekit_Index.l0 k y0 y1 y2) (wayzgoosekit_Index.l0 (k + 1) y0 y1 y2))
  | 0 => fun _ _ _ r h => by simp [wayzgoosekit_Index.l0] at h
  | k + 1 => by
    have ih0 := wayzgoosekit_Index.mono_l k
    · intro y0 y1 y2
      unfold wayzgoosekit_Index.l0
      repeat' first
      | (with_reducible exact ih0 _ _ _)
      | (with_reducible exact LeO.refl _)
      | (with_reducible exact LeO.none _)
      | (with_reducible refine LeO.ite ?_ ?_)
      | (with_reducible refine LeO.bind ?_ (fun _ => ?_))
      | exact ih0 _ _ _
      | exact LeO.none _
      | refine LeO.ite ?_ ?_
      | refine LeO.bind ?_ (fun _ => ?_)
theorem wayzgoosekit_Index.mono : ∀ a0 a1 k, LeO (wayzgoosekit_Index.f k a0 a1) (wayzgoosekit_Index.f (k + 1) a0 a1) := by
  intro a0 a1 k
  have ih0 := wayzgoosekit_Index.mono_l k
  unfold wayzgoosekit_Index.f
  repeat' first
      | (with_reducible exact ih0 _ _ _)
      | (with_reducible exact LeO.refl _)
      | (with_reducible exact LeO.none _)
      | (with_reducible refine LeO.ite ?_ ?_)
      | (with_reducible refine LeO.bind ?_ (fun _ => ?_))
      | exact ih0 _ _ _
      | exact LeO.none _
      | refine LeO.ite ?_ ?_
      | refine LeO.bind ?_ (fun _ => ?_)
set_option maxHeartbeats 8000000 in
set_option maxRecDepth 100000 in
theorem wayzgoosekit_Index.calls (k : Nat) (A0 : Option Addr) (c0 : Nat) (l0 : List Int) (a1 : Int) (r : Int) (w : World) (hr0 : Kd.C (Kd.int .i64) w A0 l0.length l0) (hc0 : l0.length ≤ c0) (h : wayzgoosekit_Index.f k l0 a1 = some r) :
    Calls Try.prog 20 #[.slice A0 l0.length c0, .int .i64 a1] w fun e w' => e = .returned (.int .i64 r) ∧ Drawn0 w w' := by
  have HR0 := Aside0.mk hr0
  have HC0 := Aside0.mk hc0
  clear hr0 hc0
  have H : (wayzgoosekit_Index.l0 k l0 a1 0) = some r := h
  clear h
  have H' := Aside0.mk H
  clear H
  go_enter Try.func20, Try.ntmps20
  go_wp2
  go_loopg [5] k (fun kq v5 w' => ∃ (x5_1 : Int), v5 = .int .i64 x5_1 ∧ Aside0 (wayzgoosekit_Index.l0 kq l0 a1 x5_1 = some r) ∧ Aside0 (kq ≤ k) ∧ Drawn0 w w')
  case atStart => exact ⟨(0), (by first | rfl | (simp; done) | (simp [*]; done)), H', ⟨Nat.le_refl _⟩, by repeat (first | exact Drawn0.refl _ | apply Drawn0.step)⟩
  case round =>
    clear H'
    try clear c2
    try clear p2
    obtain ⟨x5_1, rfl, HA, HK1, ⟨m1, rfl⟩⟩ := hrel
    cases gk with
    | zero => exact absurd HA.out (by simp [wayzgoosekit_Index.l0])
    | succ k1 =>
      have H := HA.out
      clear HA
      simp only [wayzgoosekit_Index.l0] at H
      by_cases c3 : x5_1 < (l0.length : Int)
      · rw [if_pos c3] at H
        have c3b0 : decide (x5_1 < (l0.length : Int)) = true := decide_eq_true c3
        clear c3
        by_cases c4 : 0 ≤ x5_1
        · rw [if_pos c4] at H
          have c4b0 : decide (0 ≤ x5_1) = true := decide_eq_true c4
          clear c4
          by_cases c5 : (rd l0 x5_1) = a1
          · rw [if_pos c5] at H
            have c5b0 : ((rd l0 x5_1) == a1) = true := beq_iff_eq.mpr c5
            have c5b1 : ((rd l0 x5_1) != a1) = false := bne_eq_false_iff_eq.mpr c5
            clear c5
            obtain rfl := Option.some.inj H
            have p121 : 0 ≤ (x5_1 : Int) := of_decide_eq_true (by first | (with_reducible assumption) | assumption)
            have q121 : x5_1 < (l0.length : Int) := of_decide_eq_true (by first | (with_reducible assumption) | assumption)
            obtain ⟨ad121, e121, hx121_0⟩ := Kd.at_int HR0.out x5_1 p121 q121
            cases e121
            replace p121 := eq_true p121
            replace q121 := eq_true q121
            go_wp2
            go_ret
            exact ⟨by first | rfl | (simp; done) | (simp [*]; done), by repeat (first | exact Drawn0.refl _ | apply Drawn0.step)⟩
          · rw [if_neg c5] at H
            have c5b0 : ((rd l0 x5_1) == a1) = false := beq_eq_false_iff_ne.mpr c5
            have c5b1 : ((rd l0 x5_1) != a1) = true := bne_iff_ne.mpr c5
            have H' := Aside0.mk H
            clear H
            have p121 : 0 ≤ (x5_1 : Int) := of_decide_eq_true (by first | (with_reducible assumption) | assumption)
            have q121 : x5_1 < (l0.length : Int) := of_decide_eq_true (by first | (with_reducible assumption) | assumption)
            obtain ⟨ad121, e121, hx121_0⟩ := Kd.at_int HR0.out x5_1 p121 q121
            cases e121
            replace p121 := eq_true p121
            replace q121 := eq_true q121
            go_wp2
            go_roundg k1
            case measure => have := HK1.out; omega
            case rel => exact ⟨(wrap64 (x5_1 + 1)), (by first | rfl | (simp; done) | (simp [*]; done)), H', ⟨by have := HK1.out; omega⟩, by repeat (first | exact Drawn0.refl _ | apply Drawn0.step)⟩
        · rw [if_neg c4] at H
          exact absurd H (by simp)
      · rw [if_neg c3] at H
        have c3b0 : decide (x5_1 < (l0.length : Int)) = false := decide_eq_false c3
        clear c3
        obtain rfl := Option.some.inj H
        go_wp2
        go_ret
        exact ⟨by first | rfl | (simp; done) | (simp [*]; done), by repeat (first | exact Drawn0.refl _ | apply Drawn0.step)⟩

/-! ### wayzgoosekit_partOf: function 39 -/
def wayzgoosekit_partOf.l0 : Nat → Int → Int → List Int → List Int → Int → List Int → Int → Int → Option (List Int × Int × Int)
  | 0, _, _, _, _, _, _, _, _ => none
  | k + 1, x1, x2, x7, x8, x9, x1000, x1001, x1002 => if x9 < x1 then ((wayzgoosekit_Index.f k x7 x9).bind fun t127 => (if t127 < x2 then (if x8.length < 17592186044416 then (wayzgoosekit_partOf.l0 k x1 x2 x7 (x8 ++ [x9]) (wrap64 (x9 + 1)) x1000 x1001 x1002) else (none)) else (wayzgoosekit_partOf.l0 k x1 x2 x7 x8 (wrap64 (x9 + 1)) x1000 x1001 x1002))) else (some (x8, x1001, x1002))
def wayzgoosekit_partOf.f (k : Nat) (s0_0 : List Int) (s0_1 : Int) (s0_2 : Int) (a1 : Int) (a2 : Int) : Option (List Int × Int × Int) := (wayzgoosekit_Dice_Order.f k s0_0 s0_1 s0_2 a1).bind fun bt122 => (wayzgoosekit_partOf.l0 k a1 a2 bt122.1 ([] : List Int) 0 s0_0 bt122.2.1 bt122.2.2)
theorem wayzgoosekit_partOf.mono_l : ∀ k, (∀ y0 y1 y2 y3 y4 y5 y6 y7, LeO (wayzgoosekit_partOf.l0 k y0 y1 y2 y3 y4 y5 y6 y7) (wayzgoosekit_partOf.l0 (k + 1) y0 y1 y2 y3 y4 y5 y6 y7))
  | 0 => fun _ _ _ _ _ _ _ _ r h => by simp [wayzgoosekit_partOf.l0] at h
  | k + 1 => by
    have ih0 := wayzgoosekit_partOf.mono_l k
    · intro y0 y1 y2 y3 y4 y5 y6 y7
      unfold wayzgoosekit_partOf.l0
      repeat' first
      | (with_reducible exact ih0 _ _ _ _ _ _ _ _)
      | (with_reducible exact wayzgoosekit_Dice_Order.mono _ _ _ _ _)
      | (with_reducible exact wayzgoosekit_Index.mono _ _ _)
      | (with_reducible exact LeO.refl _)
      | (with_reducible exact LeO.none _)
      | (with_reducible refine LeO.ite ?_ ?_)
      | (with_reducible refine LeO.bind ?_ (fun _ => ?_))
      | exact ih0 _ _ _ _ _ _ _ _
      | exact wayzgoosekit_Dice_Order.mono _ _ _ _ _
      | exact wayzgoosekit_Index.mono _ _ _
      | exact LeO.none _
      | refine LeO.ite ?_ ?_
      | refine LeO.bind ?_ (fun _ => ?_)
theorem wayzgoosekit_partOf.mono : ∀ a0 a1 a2 a3 a4 k, LeO (wayzgoosekit_partOf.f k a0 a1 a2 a3 a4) (wayzgoosekit_partOf.f (k + 1) a0 a1 a2 a3 a4) := by
  intro a0 a1 a2 a3 a4 k
  have ih0 := wayzgoosekit_partOf.mono_l k
  unfold wayzgoosekit_partOf.f
  repeat' first
      | (with_reducible exact ih0 _ _ _ _ _ _ _ _)
      | (with_reducible exact wayzgoosekit_Dice_Order.mono _ _ _ _ _)
      | (with_reducible exact wayzgoosekit_Index.mono _ _ _)
      | (with_reducible exact LeO.refl _)
      | (with_reducible exact LeO.none _)
      | (with_reducible refine LeO.ite ?_ ?_)
      | (with_reducible refine LeO.bind ?_ (fun _ => ?_))
      | exact ih0 _ _ _ _ _ _ _ _
      | exact wayzgoosekit_Dice_Order.mono _ _ _ _ _
      | exact wayzgoosekit_Index.mono _ _ _
      | exact LeO.none _
      | refine LeO.ite ?_ ?_
      | refine LeO.bind ?_ (fun _ => ?_)
set_option maxHeartbeats 8000000 in
set_option maxRecDepth 100000 in
theorem wayzgoosekit_partOf.calls (k : Nat) (g : Nat) (s0_0 : List Int) (s0_1 : Int) (s0_2 : Int) (a1 : Int) (a2 : Int) (r1 : List Int) (r2 : Int) (r3 : Int) (w0 w : World) (hI : IsS72 w0 w g s0_0 s0_1 s0_2) (hB : Below w0.heap.size w0 w) (h : wayzgoosekit_partOf.f k s0_0 s0_1 s0_2 a1 a2 = some (r1, r2, r3)) :
    Calls Try.prog 39 #[.pointer (some ⟨g, 0, none⟩), .int .i64 a1, .int .i64 a2] w fun e w' => ∃ v0_ : Value, e = .returned (v0_) ∧ Kd.R (Kd.int .i64) 3 w' w.heap.size (fun _ => True) v0_ r1 ∧ IsS72 w0 w' g s0_0 r2 r3 ∧ Below w0.heap.size w0 w' ∧ KeepBut w w' g none := by
  have HI0 := Aside0.mk hI
  have HK := Aside0.mk (KeepBut.refl w g none)
  have HL := Aside0.mk hB.size
  clear hI
  have HW0 := Aside0.mk hB.size
  have HB := Aside0.mk hB
  clear hB
  have H : ((wayzgoosekit_Dice_Order.f k s0_0 s0_1 s0_2 a1).bind fun bt122 => (wayzgoosekit_partOf.l0 k a1 a2 bt122.1 ([] : List Int) 0 s0_0 bt122.2.1 bt122.2.2)) = some (r1, r2, r3) := h
  clear h
  replace H := Option.bind_eq_some_iff.mp H
  obtain ⟨⟨t122, t125, t126⟩, A40, H⟩ := H
  replace H : (wayzgoosekit_partOf.l0 k a1 a2 t122 ([] : List Int) 0 s0_0 t125 t126) = some (r1, r2, r3) := H
  have A4 := Aside0.mk A40
  clear A40
  have H' := Aside0.mk H
  clear H
  go_enter Try.func39, Try.ntmps39
  go_wp2_with (first | ((with_reducible refine gate_callee (f := 23) rfl ?_); refine goesL_ (some 13) rfl rfl Try.func23 (by kernel_rfl) rfl #[.pointer (some ⟨g, 0, none⟩), .int .i64 a1] rfl (by (try simp only [List.map_toArray, List.map_cons, List.map_nil]); first | done | rfl | (simp only [List.length_drop, List.length_take]; rfl)) ?_; (with_reducible refine (wayzgoosekit_Dice_Order.calls k g s0_0 s0_1 s0_2 a1 t122 t125 t126 w0 _ ?side1 ?side2 A4.out).mono ?_); (case side1 => repeat (first | (with_reducible first | exact HI0.out | apply IsS72.alloc | apply IsS72.drewN | apply IsS72.drew | apply IsS72.set_1 | apply IsS72.set_2) | exact HI0.out)); (case side2 => repeat (first | (with_reducible first | exact HB.out | apply below_alloc | apply pw_below_drewN | apply below_drew1 | refine below_set ?_ (IsS72.ge HI0.out)) | exact HB.out)); rintro e w5 ⟨v123, rfl, ho0, hi, hb, hk⟩; refine ⟨_, rfl, ?_⟩; have n0_ := Aside0.mk (Kd.R_lower ho0 (keep_size (w := w) (g := g) (row := none) (by repeat (first | (with_reducible first | exact HK.out | apply KeepBut.set_ | apply keep_drewN | apply keep_drew | apply keep_alloc) | exact HK.out)))); have n1_ := Aside0.mk (KeepBut.trans (by repeat (first | (with_reducible first | exact HK.out | apply KeepBut.set_ | apply keep_drewN | apply keep_drew | apply keep_alloc) | exact HK.out)) hk (.inl rfl)); have n2_ := Aside0.mk (hb); have n3_ := Aside0.mk (hi); clear HK; clear HB; clear HI0; have HO124 := n0_; have HK := n1_; have HB := n2_; have HI0 := n3_; clear n0_ n1_ n2_ n3_; (try clear hb); (try clear hb2); (try clear hk); (try clear hi); (try clear ho0)))
  go_loopg [8, 9] k (fun kq v8 v9 w' => ∃ (x8_1 : List Int) (x9_1 : Int), v9 = .int .i64 x9_1 ∧ Aside0 (wayzgoosekit_partOf.l0 kq a1 a2 t122 x8_1 x9_1 s0_0 t125 t126 = some (r1, r2, r3)) ∧ Aside0 (kq ≤ k) ∧ Aside0 (Kd.R (Kd.int .i64) 3 w' w.heap.size (fun k_ => some k_ ≠ (v8 : Value).ownBlock) v123 t122) ∧ Aside0 (Kd.R (Kd.int .i64) 3 w' w.heap.size (fun k_ => some k_ ≠ (v123 : Value).ownBlock) v8 x8_1) ∧ Aside0 (IsS72 w0 w' g s0_0 t125 t126) ∧ Aside0 (KeepBut w w' g none) ∧ Aside0 (Below w0.heap.size w0 w'))
  case atStart => exact ⟨(([] : List Int)), (0), (by first | rfl | (simp; done) | (simp [*]; done)), H', ⟨Nat.le_refl _⟩, ⟨by (with_reducible repeat (first | apply Kd.R_alloc | apply Kd.R_drewN | apply Kd.R_drew)); exact Kd.R_mono HO124.out (fun _ hk => (by simp [Value.ownBlock]))⟩, ⟨by first | exact Kd.R_nil _ _ _ _ _ | exact Kd.N_nil _ _ _ _ _ | exact Kd.V_nil _ _ _ _ _ | exact Kd.Q_nil _ _ _ _ _ | exact Kd.S_nil _ _ _ _ _⟩, ⟨by repeat (first | (with_reducible first | exact HI0.out | apply IsS72.alloc | apply IsS72.drewN | apply IsS72.drew | apply IsS72.set_1 | apply IsS72.set_2) | exact HI0.out)⟩, ⟨by repeat (first | (with_reducible first | exact HK.out | apply KeepBut.set_ | apply keep_drewN | apply keep_drew | apply keep_alloc) | exact HK.out)⟩, ⟨by repeat (first | (with_reducible first | exact HB.out | apply below_alloc | apply pw_below_drewN | apply below_drew1 | refine below_set ?_ (IsS72.ge HI0.out)) | exact HB.out)⟩⟩
  case round =>
    clear H'
    try clear c2
    try clear p2
    try clear c3
    obtain ⟨x8_1, x9_1, rfl, HA, HK1, HO_7, HO_8, HI0, HK, HB⟩ := hrel
    cases gk with
    | zero => exact absurd HA.out (by simp [wayzgoosekit_partOf.l0])
    | succ k1 =>
      have H := HA.out
      clear HA
      simp only [wayzgoosekit_partOf.l0] at H
      by_cases c6 : x9_1 < a1
      · rw [if_pos c6] at H
        have c6b0 : decide (x9_1 < a1) = true := decide_eq_true c6
        clear c6
        replace H := Option.bind_eq_some_iff.mp H
        obtain ⟨t127, A70, H⟩ := H
        replace H : (if t127 < a2 then (if x8_1.length < 17592186044416 then (wayzgoosekit_partOf.l0 k1 a1 a2 t122 (x8_1 ++ [x9_1]) (wrap64 (x9_1 + 1)) s0_0 t125 t126) else (none)) else (wayzgoosekit_partOf.l0 k1 a1 a2 t122 x8_1 (wrap64 (x9_1 + 1)) s0_0 t125 t126)) = some (r1, r2, r3) := H
        have A7 := Aside0.mk A70
        clear A70
        by_cases c8 : t127 < a2
        · rw [if_pos c8] at H
          have c8b0 : decide (t127 < a2) = true := decide_eq_true c8
          clear c8
          by_cases c9 : x8_1.length < 17592186044416
          · rw [if_pos c9] at H
            have LMc9 := Aside0.mk c9
            clear c9
            obtain ⟨y128, hy128⟩ : ∃ y_ : List Int, y_ = (x8_1 ++ [x9_1]) := ⟨_, rfl⟩
            replace H : (wayzgoosekit_partOf.l0 k1 a1 a2 t122 y128 (wrap64 (x9_1 + 1)) s0_0 t125 t126) = some (r1, r2, r3) := by first | (rw [hy128]; with_reducible exact H) | (have H2_ := (Option.bind_some _ _).symm.trans H; rw [hy128]; with_reducible exact H2_) | (have H2_ := (Option.bind_some _ _).symm.trans H; with_reducible exact H2_) | with_reducible exact H | (rw [hy128]; exact H) | exact H
            have Ny128 := Aside0.mk hy128
            clear hy128
            have H' := Aside0.mk H
            clear H
            obtain ⟨Ao10, co10, eo10⟩ := Kd.R_slice HO_7.out
            subst eo10
            go_wp2_with (first | ((with_reducible refine gate_callee (f := 20) rfl ?_); refine goesL_ (some 21) rfl rfl Try.func20 (by kernel_rfl) rfl #[.slice Ao10 t122.length co10, .int .i64 x9_1] rfl (by (try simp only [List.map_toArray, List.map_cons, List.map_nil]); first | done | rfl | (simp only [List.length_drop, List.length_take]; rfl)) ?_; (with_reducible refine (wayzgoosekit_Index.calls k1 _ _ t122 x9_1 t127 _ ?side1 ?side2 A7.out).mono ?_); (case side1 => repeat (first | exact (Kd.R_reads' HO_7.out).2.2 | (with_reducible refine Kd.C_alloc ?_ _) | (with_reducible refine Kd.C_drewN ?_ _) | (with_reducible refine Kd.C_drew ?_))); (case side2 => exact (Kd.R_reads' HO_7.out).2.1); rintro e w' ⟨rfl, ⟨nd, rfl⟩⟩; refine ⟨_, rfl, ?_⟩) | ((with_reducible refine gate_builtin (b := .append) (xs := #[.tmp 25, .tmp 27]) rfl ?_); at_builtin; refine Kd.R_append (Kd.int .i64) w.heap.size rfl (.tmp 25) (.tmp 27) 22 3 (.int .i64 0) 8 rfl Try.underlying22 info3 rfl (by decide) (by omega) u8 x8_1 x9_1 [.int .i64 x9_1] (fun k_ => some k_ ≠ (.slice Ao10 t122.length co10 : Value).ownBlock) (fun _ => False) rfl rfl ?aP (fun _ hk => hk.elim) ?aF ?aO (Below.refl _ _) ?aS ?aL ?_; (case aP => exact rfl); (case aF => exact (fun k_ hk => Kd.fresh' (Kd.R_lt (by (with_reducible repeat (first | apply Kd.R_alloc | apply Kd.R_drewN | apply Kd.R_drew)); exact HO_7.out)) k_ hk)); (case aO => exact (by (with_reducible repeat (first | apply Kd.R_alloc | apply Kd.R_drewN | apply Kd.R_drew)); exact HO_8.out)); (case aS => exact (keep_size (w := w) (g := g) (row := none) (by repeat (first | (with_reducible first | exact HK.out | apply KeepBut.set_ | apply keep_drewN | apply keep_drew | apply keep_alloc) | exact HK.out)))); (case aL => have := LMc9.out; omega); intro v129 w11 ho hb hg hat; rw [← Ny128.out] at ho; have n0_ := Aside0.mk (Kd.R_after (ok := (fun _ => True)) (by (with_reducible repeat (first | apply Kd.R_alloc | apply Kd.R_drewN | apply Kd.R_drew)); exact Kd.R_mono HO_7.out (fun _ hk => ⟨trivial, hk⟩)) hg hat); have n1_ := Aside0.mk (IsS72.grown (by repeat (first | (with_reducible first | exact HI0.out | apply IsS72.alloc | apply IsS72.drewN | apply IsS72.drew | apply IsS72.set_1 | apply IsS72.set_2) | exact HI0.out)) hg (IsS72.own_ne HI0.out HO_8.out (by decide))); have n2_ := Aside0.mk (below_weaken (by repeat (first | (with_reducible first | exact HB.out | apply below_alloc | apply pw_below_drewN | apply below_drew1 | refine below_set ?_ (IsS72.ge HI0.out)) | exact HB.out)) HL.out hb); have n3_ := Aside0.mk (KeepBut.trans (by repeat (first | (with_reducible first | exact HK.out | apply KeepBut.set_ | apply keep_drewN | apply keep_drew | apply keep_alloc) | exact HK.out)) (KeepBut.of_grown hg g) (Kd.R_base2 HO_8.out)); have n4_ := Aside0.mk (ho); clear HO_7; clear HI0; clear HB; clear HK; clear HO_8; have HO_7 := n0_; have HI0 := n1_; have HB := n2_; have HK := n3_; have HO130 := n4_; clear n0_ n1_ n2_ n3_ n4_; clear ho hb hg hat))
            go_roundg k1
            case measure => have := HK1.out; omega
            case rel => exact ⟨(y128), (wrap64 (x9_1 + 1)), (by first | rfl | (simp; done) | (simp [*]; done)), H', ⟨by have := HK1.out; omega⟩, ⟨by (with_reducible repeat (first | apply Kd.R_alloc | apply Kd.R_drewN | apply Kd.R_drew)); exact Kd.R_mono HO_7.out (fun _ hk => hk.2)⟩, ⟨by (with_reducible repeat (first | apply Kd.R_alloc | apply Kd.R_drewN | apply Kd.R_drew)); exact HO130.out⟩, ⟨by repeat (first | (with_reducible first | exact HI0.out | apply IsS72.alloc | apply IsS72.drewN | apply IsS72.drew | apply IsS72.set_1 | apply IsS72.set_2) | exact HI0.out)⟩, ⟨by repeat (first | (with_reducible first | exact HK.out | apply KeepBut.set_ | apply keep_drewN | apply keep_drew | apply keep_alloc) | exact HK.out)⟩, ⟨by repeat (first | (with_reducible first | exact HB.out | apply below_alloc | apply pw_below_drewN | apply below_drew1 | refine below_set ?_ (IsS72.ge HI0.out)) | exact HB.out)⟩⟩
          · rw [if_neg c9] at H
            exact absurd H (by simp)
        · rw [if_neg c8] at H
          have c8b0 : decide (t127 < a2) = false := decide_eq_false c8
          clear c8
          have H' := Aside0.mk H
          clear H
          obtain ⟨Ao12, co12, eo12⟩ := Kd.R_slice HO_7.out
          subst eo12
          go_wp2_with (first | ((with_reducible refine gate_callee (f := 20) rfl ?_); refine goesL_ (some 21) rfl rfl Try.func20 (by kernel_rfl) rfl #[.slice Ao12 t122.length co12, .int .i64 x9_1] rfl (by (try simp only [List.map_toArray, List.map_cons, List.map_nil]); first | done | rfl | (simp only [List.length_drop, List.length_take]; rfl)) ?_; (with_reducible refine (wayzgoosekit_Index.calls k1 _ _ t122 x9_1 t127 _ ?side1 ?side2 A7.out).mono ?_); (case side1 => repeat (first | exact (Kd.R_reads' HO_7.out).2.2 | (with_reducible refine Kd.C_alloc ?_ _) | (with_reducible refine Kd.C_drewN ?_ _) | (with_reducible refine Kd.C_drew ?_))); (case side2 => exact (Kd.R_reads' HO_7.out).2.1); rintro e w' ⟨rfl, ⟨nd, rfl⟩⟩; refine ⟨_, rfl, ?_⟩))
          go_roundg k1
          case measure => have := HK1.out; omega
          case rel => exact ⟨(x8_1), (wrap64 (x9_1 + 1)), (by first | rfl | (simp; done) | (simp [*]; done)), H', ⟨by have := HK1.out; omega⟩, ⟨by (with_reducible repeat (first | apply Kd.R_alloc | apply Kd.R_drewN | apply Kd.R_drew)); exact HO_7.out⟩, ⟨by (with_reducible repeat (first | apply Kd.R_alloc | apply Kd.R_drewN | apply Kd.R_drew)); exact HO_8.out⟩, ⟨by repeat (first | (with_reducible first | exact HI0.out | apply IsS72.alloc | apply IsS72.drewN | apply IsS72.drew | apply IsS72.set_1 | apply IsS72.set_2) | exact HI0.out)⟩, ⟨by repeat (first | (with_reducible first | exact HK.out | apply KeepBut.set_ | apply keep_drewN | apply keep_drew | apply keep_alloc) | exact HK.out)⟩, ⟨by repeat (first | (with_reducible first | exact HB.out | apply below_alloc | apply pw_below_drewN | apply below_drew1 | refine below_set ?_ (IsS72.ge HI0.out)) | exact HB.out)⟩⟩
      · rw [if_neg c6] at H
        have c6b0 : decide (x9_1 < a1) = false := decide_eq_false c6
        clear c6
        simp only [Option.some.injEq, Prod.mk.injEq] at H
        obtain ⟨rfl, rfl, rfl⟩ := H
        go_wp2
        go_ret
        exact ⟨_, by first | rfl | (simp [errW_none, errW_some] <;> rfl) | (simp [*, errW_none, errW_some] <;> rfl), by (with_reducible repeat (first | apply Kd.R_alloc | apply Kd.R_drewN | apply Kd.R_drew)); exact Kd.R_mono HO_8.out (fun _ hk => trivial), by repeat (first | (with_reducible first | exact HI0.out | apply IsS72.alloc | apply IsS72.drewN | apply IsS72.drew | apply IsS72.set_1 | apply IsS72.set_2) | exact HI0.out), by repeat (first | (with_reducible first | exact HB.out | apply below_alloc | apply pw_below_drewN | apply below_drew1 | refine below_set ?_ (IsS72.ge HI0.out)) | exact HB.out), by repeat (first | (with_reducible first | exact HK.out | apply KeepBut.set_ | apply keep_drewN | apply keep_drew | apply keep_alloc) | exact HK.out)⟩

/-! ### wayzgoosekit_callings: function 40 -/
def wayzgoosekit_callings.f  : Option (List ByteArray) := some (([(⟨#[98, 97, 107, 101, 114]⟩ : ByteArray), (⟨#[98, 97, 107, 101, 114, 115]⟩ : ByteArray), (⟨#[98, 111, 110, 110, 101, 116, 115]⟩ : ByteArray), (⟨#[98, 114, 101, 119, 101, 114]⟩ : ByteArray), (⟨#[98, 114, 117, 115, 104, 101, 115]⟩ : ByteArray), (⟨#[98, 117, 116, 99, 104, 101, 114]⟩ : ByteArray), (⟨#[99, 97, 110, 100, 108, 101, 115]⟩ : ByteArray), (⟨#[99, 111, 111, 112, 101, 114]⟩ : ByteArray), (⟨#[99, 111, 111, 112, 101, 114, 115]⟩ : ByteArray), (⟨#[99, 117, 116, 108, 101, 114]⟩ : ByteArray), (⟨#[104, 97, 116, 116, 101, 114]⟩ : ByteArray), (⟨#[104, 111, 115, 105, 101, 114]⟩ : ByteArray), (⟨#[109, 101, 114, 99, 101, 114]⟩ : ByteArray), (⟨#[109, 105, 108, 108, 105, 110, 101, 114]⟩ : ByteArray), (⟨#[116, 97, 105, 108, 111, 114]⟩ : ByteArray), (⟨#[116, 97, 110, 110, 101, 114]⟩ : ByteArray)] : List ByteArray))
set_option maxHeartbeats 8000000 in
set_option maxRecDepth 100000 in
theorem wayzgoosekit_callings.calls  (r : List ByteArray) (w : World) (h : wayzgoosekit_callings.f  = some r) :
    Calls Try.prog 40 #[] w fun e w' => ∃ v0_ : Value, e = .returned (v0_) ∧ Kd.R Kd.string 9 w' w.heap.size (fun _ => True) v0_ r ∧ Below w.heap.size w w' := by
  have HB := Aside0.mk (Below.refl w.heap.size w)
  have H : (some (([(⟨#[98, 97, 107, 101, 114]⟩ : ByteArray), (⟨#[98, 97, 107, 101, 114, 115]⟩ : ByteArray), (⟨#[98, 111, 110, 110, 101, 116, 115]⟩ : ByteArray), (⟨#[98, 114, 101, 119, 101, 114]⟩ : ByteArray), (⟨#[98, 114, 117, 115, 104, 101, 115]⟩ : ByteArray), (⟨#[98, 117, 116, 99, 104, 101, 114]⟩ : ByteArray), (⟨#[99, 97, 110, 100, 108, 101, 115]⟩ : ByteArray), (⟨#[99, 111, 111, 112, 101, 114]⟩ : ByteArray), (⟨#[99, 111, 111, 112, 101, 114, 115]⟩ : ByteArray), (⟨#[99, 117, 116, 108, 101, 114]⟩ : ByteArray), (⟨#[104, 97, 116, 116, 101, 114]⟩ : ByteArray), (⟨#[104, 111, 115, 105, 101, 114]⟩ : ByteArray), (⟨#[109, 101, 114, 99, 101, 114]⟩ : ByteArray), (⟨#[109, 105, 108, 108, 105, 110, 101, 114]⟩ : ByteArray), (⟨#[116, 97, 105, 108, 111, 114]⟩ : ByteArray), (⟨#[116, 97, 110, 110, 101, 114]⟩ : ByteArray)] : List ByteArray))) = some r := h
  clear h
  obtain ⟨y131, hy131⟩ : ∃ y_ : List ByteArray, y_ = (([(⟨#[98, 97, 107, 101, 114]⟩ : ByteArray), (⟨#[98, 97, 107, 101, 114, 115]⟩ : ByteArray), (⟨#[98, 111, 110, 110, 101, 116, 115]⟩ : ByteArray), (⟨#[98, 114, 101, 119, 101, 114]⟩ : ByteArray), (⟨#[98, 114, 117, 115, 104, 101, 115]⟩ : ByteArray), (⟨#[98, 117, 116, 99, 104, 101, 114]⟩ : ByteArray), (⟨#[99, 97, 110, 100, 108, 101, 115]⟩ : ByteArray), (⟨#[99, 111, 111, 112, 101, 114]⟩ : ByteArray), (⟨#[99, 111, 111, 112, 101, 114, 115]⟩ : ByteArray), (⟨#[99, 117, 116, 108, 101, 114]⟩ : ByteArray), (⟨#[104, 97, 116, 116, 101, 114]⟩ : ByteArray), (⟨#[104, 111, 115, 105, 101, 114]⟩ : ByteArray), (⟨#[109, 101, 114, 99, 101, 114]⟩ : ByteArray), (⟨#[109, 105, 108, 108, 105, 110, 101, 114]⟩ : ByteArray), (⟨#[116, 97, 105, 108, 111, 114]⟩ : ByteArray), (⟨#[116, 97, 110, 110, 101, 114]⟩ : ByteArray)] : List ByteArray)) := ⟨_, rfl⟩
  replace H : (some y131) = some r := by first | (rw [hy131]; with_reducible exact H) | (have H2_ := (Option.bind_some _ _).symm.trans H; rw [hy131]; with_reducible exact H2_) | (have H2_ := (Option.bind_some _ _).symm.trans H; with_reducible exact H2_) | with_reducible exact H | (rw [hy131]; exact H) | exact H
  have Ny131 := Aside0.mk hy131
  clear hy131
  obtain rfl := Option.some.inj H
  go_enter Try.func40, Try.ntmps40
  go_wp2_with (first | ((with_reducible refine gate_dst (N := 1) rfl ?_); refine Kd.R_lit Kd.string _ 9 ?hg (N := 1) ?hd (xs := ([(⟨#[98, 97, 107, 101, 114]⟩ : ByteArray), (⟨#[98, 97, 107, 101, 114, 115]⟩ : ByteArray), (⟨#[98, 111, 110, 110, 101, 116, 115]⟩ : ByteArray), (⟨#[98, 114, 101, 119, 101, 114]⟩ : ByteArray), (⟨#[98, 114, 117, 115, 104, 101, 115]⟩ : ByteArray), (⟨#[98, 117, 116, 99, 104, 101, 114]⟩ : ByteArray), (⟨#[99, 97, 110, 100, 108, 101, 115]⟩ : ByteArray), (⟨#[99, 111, 111, 112, 101, 114]⟩ : ByteArray), (⟨#[99, 111, 111, 112, 101, 114, 115]⟩ : ByteArray), (⟨#[99, 117, 116, 108, 101, 114]⟩ : ByteArray), (⟨#[104, 97, 116, 116, 101, 114]⟩ : ByteArray), (⟨#[104, 111, 115, 105, 101, 114]⟩ : ByteArray), (⟨#[109, 101, 114, 99, 101, 114]⟩ : ByteArray), (⟨#[109, 105, 108, 108, 105, 110, 101, 114]⟩ : ByteArray), (⟨#[116, 97, 105, 108, 111, 114]⟩ : ByteArray), (⟨#[116, 97, 110, 110, 101, 114]⟩ : ByteArray)] : List ByteArray)) (inner := [.string (⟨#[98, 97, 107, 101, 114]⟩ : ByteArray), .string (⟨#[98, 97, 107, 101, 114, 115]⟩ : ByteArray), .string (⟨#[98, 111, 110, 110, 101, 116, 115]⟩ : ByteArray), .string (⟨#[98, 114, 101, 119, 101, 114]⟩ : ByteArray), .string (⟨#[98, 114, 117, 115, 104, 101, 115]⟩ : ByteArray), .string (⟨#[98, 117, 116, 99, 104, 101, 114]⟩ : ByteArray), .string (⟨#[99, 97, 110, 100, 108, 101, 115]⟩ : ByteArray), .string (⟨#[99, 111, 111, 112, 101, 114]⟩ : ByteArray), .string (⟨#[99, 111, 111, 112, 101, 114, 115]⟩ : ByteArray), .string (⟨#[99, 117, 116, 108, 101, 114]⟩ : ByteArray), .string (⟨#[104, 97, 116, 116, 101, 114]⟩ : ByteArray), .string (⟨#[104, 111, 115, 105, 101, 114]⟩ : ByteArray), .string (⟨#[109, 101, 114, 99, 101, 114]⟩ : ByteArray), .string (⟨#[109, 105, 108, 108, 105, 110, 101, 114]⟩ : ByteArray), .string (⟨#[116, 97, 105, 108, 111, 114]⟩ : ByteArray), .string (⟨#[116, 97, 110, 110, 101, 114]⟩ : ByteArray)]) (ok := fun _ => True) (okp := fun _ => True) ?hr ?hp (fun _ hk => hk) trivial (Below.refl _ _) (Nat.le_refl _) (by simp) ?_; (case hd => rfl); (case hg => rfl); (case hr => first | (go_simp; done) | (go_simp; rfl)); (case hp => exact (Reps.one (show Kd.M Kd.string _ _ _ (⟨#[98, 97, 107, 101, 114]⟩ : ByteArray) [.string (⟨#[98, 97, 107, 101, 114]⟩ : ByteArray)] from rfl) (Reps.one (show Kd.M Kd.string _ _ _ (⟨#[98, 97, 107, 101, 114, 115]⟩ : ByteArray) [.string (⟨#[98, 97, 107, 101, 114, 115]⟩ : ByteArray)] from rfl) (Reps.one (show Kd.M Kd.string _ _ _ (⟨#[98, 111, 110, 110, 101, 116, 115]⟩ : ByteArray) [.string (⟨#[98, 111, 110, 110, 101, 116, 115]⟩ : ByteArray)] from rfl) (Reps.one (show Kd.M Kd.string _ _ _ (⟨#[98, 114, 101, 119, 101, 114]⟩ : ByteArray) [.string (⟨#[98, 114, 101, 119, 101, 114]⟩ : ByteArray)] from rfl) (Reps.one (show Kd.M Kd.string _ _ _ (⟨#[98, 114, 117, 115, 104, 101, 115]⟩ : ByteArray) [.string (⟨#[98, 114, 117, 115, 104, 101, 115]⟩ : ByteArray)] from rfl) (Reps.one (show Kd.M Kd.string _ _ _ (⟨#[98, 117, 116, 99, 104, 101, 114]⟩ : ByteArray) [.string (⟨#[98, 117, 116, 99, 104, 101, 114]⟩ : ByteArray)] from rfl) (Reps.one (show Kd.M Kd.string _ _ _ (⟨#[99, 97, 110, 100, 108, 101, 115]⟩ : ByteArray) [.string (⟨#[99, 97, 110, 100, 108, 101, 115]⟩ : ByteArray)] from rfl) (Reps.one (show Kd.M Kd.string _ _ _ (⟨#[99, 111, 111, 112, 101, 114]⟩ : ByteArray) [.string (⟨#[99, 111, 111, 112, 101, 114]⟩ : ByteArray)] from rfl) (Reps.one (show Kd.M Kd.string _ _ _ (⟨#[99, 111, 111, 112, 101, 114, 115]⟩ : ByteArray) [.string (⟨#[99, 111, 111, 112, 101, 114, 115]⟩ : ByteArray)] from rfl) (Reps.one (show Kd.M Kd.string _ _ _ (⟨#[99, 117, 116, 108, 101, 114]⟩ : ByteArray) [.string (⟨#[99, 117, 116, 108, 101, 114]⟩ : ByteArray)] from rfl) (Reps.one (show Kd.M Kd.string _ _ _ (⟨#[104, 97, 116, 116, 101, 114]⟩ : ByteArray) [.string (⟨#[104, 97, 116, 116, 101, 114]⟩ : ByteArray)] from rfl) (Reps.one (show Kd.M Kd.string _ _ _ (⟨#[104, 111, 115, 105, 101, 114]⟩ : ByteArray) [.string (⟨#[104, 111, 115, 105, 101, 114]⟩ : ByteArray)] from rfl) (Reps.one (show Kd.M Kd.string _ _ _ (⟨#[109, 101, 114, 99, 101, 114]⟩ : ByteArray) [.string (⟨#[109, 101, 114, 99, 101, 114]⟩ : ByteArray)] from rfl) (Reps.one (show Kd.M Kd.string _ _ _ (⟨#[109, 105, 108, 108, 105, 110, 101, 114]⟩ : ByteArray) [.string (⟨#[109, 105, 108, 108, 105, 110, 101, 114]⟩ : ByteArray)] from rfl) (Reps.one (show Kd.M Kd.string _ _ _ (⟨#[116, 97, 105, 108, 111, 114]⟩ : ByteArray) [.string (⟨#[116, 97, 105, 108, 111, 114]⟩ : ByteArray)] from rfl) (Reps.one (show Kd.M Kd.string _ _ _ (⟨#[116, 97, 110, 110, 101, 114]⟩ : ByteArray) [.string (⟨#[116, 97, 110, 110, 101, 114]⟩ : ByteArray)] from rfl) (Reps.none _ _)))))))))))))))))); intro v132 w1 ho2 hb hg_ hnew_; clear hg_ hnew_; (first | rw [← Ny131.out] at ho2 | (simp only [Int.reduceToNat] at ho2; rw [← Ny131.out] at ho2)); have n0_ := Aside0.mk (Kd.R_lower ho2 (below_size (by repeat (first | (with_reducible first | exact HB.out | apply below_alloc | apply pw_below_drewN | apply below_drew1) | exact HB.out)))); have n1_ := Aside0.mk (below_step (by repeat (first | (with_reducible first | exact HB.out | apply below_alloc | apply pw_below_drewN | apply below_drew1) | exact HB.out)) hb); clear HB; have HO133 := n0_; have HB := n1_; clear n0_ n1_; clear hb ho2))
  go_ret
  exact ⟨_, by first | rfl | (simp [errW_none, errW_some] <;> rfl) | (simp [*, errW_none, errW_some] <;> rfl), by (with_reducible repeat (first | apply Kd.R_alloc | apply Kd.R_drewN | apply Kd.R_drew)); exact HO133.out, by repeat (first | (with_reducible first | exact HB.out | apply below_alloc | apply pw_below_drewN | apply below_drew1) | exact HB.out)⟩

/-! ### wayzgoosekit_Dice_Once: function 41 -/
def wayzgoosekit_Dice_Once.f (s0_0 : List Int) (s0_1 : Int) (s0_2 : Int) (a1 : Int) : Option (Bool × Int × Int) := (wayzgoosekit_Dice_To.f s0_0 s0_1 s0_2 (wrap64 (a1 - 1))).bind fun bt134 => (some ((bt134.1 == 0), bt134.2.1, bt134.2.2))
set_option maxHeartbeats 8000000 in
set_option maxRecDepth 100000 in
theorem wayzgoosekit_Dice_Once.calls (g : Nat) (s0_0 : List Int) (s0_1 : Int) (s0_2 : Int) (a1 : Int) (r1 : Bool) (r2 : Int) (r3 : Int) (w0 w : World) (hI : IsS72 w0 w g s0_0 s0_1 s0_2) (hB : Below w0.heap.size w0 w) (h : wayzgoosekit_Dice_Once.f s0_0 s0_1 s0_2 a1 = some (r1, r2, r3)) :
    Calls Try.prog 41 #[.pointer (some ⟨g, 0, none⟩), .int .i64 a1] w fun e w' => e = .returned (.bool r1) ∧ IsS72 w0 w' g s0_0 r2 r3 ∧ Below w0.heap.size w0 w' ∧ KeepBut w w' g none := by
  have HI0 := Aside0.mk hI
  have HK := Aside0.mk (KeepBut.refl w g none)
  have HL := Aside0.mk hB.size
  clear hI
  have HW0 := Aside0.mk hB.size
  have HB := Aside0.mk hB
  clear hB
  have H : ((wayzgoosekit_Dice_To.f s0_0 s0_1 s0_2 (wrap64 (a1 - 1))).bind fun bt134 => (some ((bt134.1 == 0), bt134.2.1, bt134.2.2))) = some (r1, r2, r3) := h
  clear h
  replace H := Option.bind_eq_some_iff.mp H
  obtain ⟨⟨t134, t135, t136⟩, A30, H⟩ := H
  replace H : (some ((t134 == 0), t135, t136)) = some (r1, r2, r3) := H
  have A3 := Aside0.mk A30
  clear A30
  simp only [Option.some.injEq, Prod.mk.injEq] at H
  obtain ⟨rfl, rfl, rfl⟩ := H
  go_enter Try.func41, Try.ntmps41
  go_wp2_with (first | ((with_reducible refine gate_callee (f := 32) rfl ?_); refine goesL_ (some 8) rfl rfl Try.func32 (by kernel_rfl) rfl #[.pointer (some ⟨g, 0, none⟩), .int .i64 (wrap64 (a1 - 1))] rfl (by (try simp only [List.map_toArray, List.map_cons, List.map_nil]); first | done | rfl | (simp only [List.length_drop, List.length_take]; rfl)) ?_; (with_reducible refine (wayzgoosekit_Dice_To.calls g s0_0 s0_1 s0_2 (wrap64 (a1 - 1)) t134 t135 t136 w0 _ ?side1 ?side2 A3.out).mono ?_); (case side1 => repeat (first | (with_reducible first | exact HI0.out | apply IsS72.alloc | apply IsS72.drewN | apply IsS72.drew | apply IsS72.set_1 | apply IsS72.set_2) | exact HI0.out)); (case side2 => repeat (first | (with_reducible first | exact HB.out | apply below_alloc | apply pw_below_drewN | apply below_drew1 | refine below_set ?_ (IsS72.ge HI0.out)) | exact HB.out)); rintro e w4 ⟨rfl, hi, hb, hk⟩; refine ⟨_, rfl, ?_⟩; have n0_ := Aside0.mk (KeepBut.trans (by repeat (first | (with_reducible first | exact HK.out | apply KeepBut.set_ | apply keep_drewN | apply keep_drew | apply keep_alloc) | exact HK.out)) hk (.inl rfl)); have n1_ := Aside0.mk (hb); have n2_ := Aside0.mk (hi); clear HK; clear HB; clear HI0; have HK := n0_; have HB := n1_; have HI0 := n2_; clear n0_ n1_ n2_; (try clear hb); (try clear hb2); (try clear hk); (try clear hi)))
  go_ret
  exact ⟨by first | rfl | (simp [errW_none, errW_some] <;> rfl) | (simp [*, errW_none, errW_some] <;> rfl), by repeat (first | (with_reducible first | exact HI0.out | apply IsS72.alloc | apply IsS72.drewN | apply IsS72.drew | apply IsS72.set_1 | apply IsS72.set_2) | exact HI0.out), by repeat (first | (with_reducible first | exact HB.out | apply below_alloc | apply pw_below_drewN | apply below_drew1 | refine below_set ?_ (IsS72.ge HI0.out)) | exact HB.out), by repeat (first | (with_reducible first | exact HK.out | apply KeepBut.set_ | apply keep_drewN | apply keep_drew | apply keep_alloc) | exact HK.out)⟩

end Go.Proofs.Ytfbimhnlcmdcpaa.Pa
namespace Go.Proofs.Ytfbimhnlcmdcpaa.Pa
open Go.RowKit Go.Proofs.YtfbimhnlcmdcpaaW.PrintWords Go.Proofs.YtfbimhnlcmdcpaaW.PrintLast Go.Proofs.YtfbimhnlcmdcpaaW.PrintMore
attribute [local go_sem] max2_int min2_int max_two min_two max_three min_three max_four min_four   -- for this text's walks alone
set_option linter.unusedVariables false
set_option linter.unusedSimpArgs false


/-! ### wayzgoosekit_TradesOf: function 13 -/
mutual
def wayzgoosekit_TradesOf.l0 : Nat → Int → List Int → Int → List Int → Int → Int → List (S51) → Option ((List (S51)) × (List (S39)) × Int × Int)
  | 0, _, _, _, _, _, _, _ => none
  | k + 1, x2, x8, x9, x1000, x1001, x1002, x139000 => if x9 > 0 then ((wayzgoosekit_sorts.f).bind fun t150 => (if 0 ≤ (x139000.length : Int) then (if (x139000.length : Int) < (x8.length : Int) then (if 0 ≤ (rd x8 (x139000.length : Int)) then (if (rd x8 (x139000.length : Int)) < (t150.length : Int) then ((wayzgoosekit_Dice_From.f x1000 x1001 x1002 (-1) (wrap64 ((x139000.length : Int) - 1))).bind fun bt155 => (if x139000.length < 5864062014805 then (wayzgoosekit_TradesOf.l0 k x2 x8 (wrap64 (x9 - 1)) x1000 bt155.2.1 bt155.2.2 (x139000 ++ [(⟨rdOf ByteArray.empty t150 (rd x8 (x139000.length : Int)), bt155.1⟩ : S51)])) else (none))) else (none)) else (none)) else (none)) else (none))) else ((wayzgoosekit_callings.f).bind fun t161 => ((wayzgoosekit_Dice_To.f x1000 x1001 x1002 x2).bind fun bt164 => ((wayzgoosekit_partOf.f k x1000 bt164.2.1 bt164.2.2 (t161.length : Int) bt164.1).bind fun bt167 => (wayzgoosekit_TradesOf.l1 k bt167.1 (bt167.1.length : Int) 0 x1000 bt167.2.1 bt167.2.2 x139000 ([] : List (S39))))))
def wayzgoosekit_TradesOf.l1 : Nat → List Int → Int → Int → List Int → Int → Int → List (S51) → List (S39) → Option ((List (S51)) × (List (S39)) × Int × Int)
  | 0, _, _, _, _, _, _, _, _ => none
  | k + 1, x10, x11, x12, x1000, x1001, x1002, x139000, x139001 => if x12 < x11 then ((wayzgoosekit_callings.f).bind fun t172 => (if 0 ≤ x12 then (if x12 < (x10.length : Int) then (if 0 ≤ (rd x10 x12) then (if (rd x10 x12) < (t172.length : Int) then ((wayzgoosekit_Dice_To.f x1000 x1001 x1002 (wrap64 ((x139000.length : Int) - 1))).bind fun bt177 => (if x11 > 1 then ((wayzgoosekit_Dice_Once.f x1000 bt177.2.1 bt177.2.2 3).bind fun bt181 => (wayzgoosekit_TradesOf.j2 k x10 x11 x12 bt181.1 x1000 bt181.2.1 bt181.2.2 x139000 x139001 (rdOf ByteArray.empty t172 (rd x10 x12)) bt177.1 (-1))) else (wayzgoosekit_TradesOf.j2 k x10 x11 x12 false x1000 bt177.2.1 bt177.2.2 x139000 x139001 (rdOf ByteArray.empty t172 (rd x10 x12)) bt177.1 (-1)))) else (none)) else (none)) else (none)) else (none))) else (some (x139000, x139001, x1001, x1002))
def wayzgoosekit_TradesOf.j2 : Nat → List Int → Int → Int → Bool → List Int → Int → Int → List (S51) → List (S39) → ByteArray → Int → Int → Option ((List (S51)) × (List (S39)) × Int × Int)
  | 0, _, _, _, _, _, _, _, _, _, _, _, _ => none
  | k + 1, x10, x11, x12, x80, x1000, x1001, x1002, x139000, x139001, x181000, x181001, x181002 => if x80 = true then ((wayzgoosekit_Dice_To.f x1000 x1001 x1002 (wrap64 (x11 - 2))).bind fun bt184 => (if x11 = 0 then (none) else (if x139001.length < 2513169434916 then (wayzgoosekit_TradesOf.l1 k x10 x11 (wrap64 (x12 + 1)) x1000 bt184.2.1 bt184.2.2 x139000 (x139001 ++ [(⟨x181000, (-1), Int.tmod (wrap64 ((wrap64 (x12 + 1)) + bt184.1)) x11, ([] : List Int)⟩ : S39)])) else (none)))) else (wayzgoosekit_TradesOf.l2 k x10 x11 x12 0 x1000 x1001 x1002 x139000 x139001 x181000 x181001 x181002 ([] : List Int))
def wayzgoosekit_TradesOf.l2 : Nat → List Int → Int → Int → Int → List Int → Int → Int → List (S51) → List (S39) → ByteArray → Int → Int → List Int → Option ((List (S51)) × (List (S39)) × Int × Int)
  | 0, _, _, _, _, _, _, _, _, _, _, _, _, _ => none
  | k + 1, x10, x11, x12, x14, x1000, x1001, x1002, x139000, x139001, x181000, x181001, x181002, x181003 => if x14 < x11 then (if x14 = x12 then (wayzgoosekit_TradesOf.l2 k x10 x11 x12 (wrap64 (x14 + 1)) x1000 x1001 x1002 x139000 x139001 x181000 x181001 x181002 x181003) else ((wayzgoosekit_Dice_Once.f x1000 x1001 x1002 4).bind fun bt190 => (if bt190.1 = true then (if x181003.length < 17592186044416 then (wayzgoosekit_TradesOf.l2 k x10 x11 x12 (wrap64 (x14 + 1)) x1000 bt190.2.1 bt190.2.2 x139000 x139001 x181000 x181001 x181002 (x181003 ++ [x14])) else (none)) else (wayzgoosekit_TradesOf.l2 k x10 x11 x12 (wrap64 (x14 + 1)) x1000 bt190.2.1 bt190.2.2 x139000 x139001 x181000 x181001 x181002 x181003)))) else (if (x181003.length : Int) > 0 then ((wayzgoosekit_Dice_Once.f x1000 x1001 x1002 4).bind fun bt196 => (if bt196.1 = true then (if x139001.length < 2513169434916 then (wayzgoosekit_TradesOf.l1 k x10 x11 (wrap64 (x12 + 1)) x1000 bt196.2.1 bt196.2.2 x139000 (x139001 ++ [(⟨x181000, (-1), x181002, x181003⟩ : S39)])) else (none)) else (if x139001.length < 2513169434916 then (wayzgoosekit_TradesOf.l1 k x10 x11 (wrap64 (x12 + 1)) x1000 bt196.2.1 bt196.2.2 x139000 (x139001 ++ [(⟨x181000, x181001, x181002, x181003⟩ : S39)])) else (none)))) else (if x139001.length < 2513169434916 then (wayzgoosekit_TradesOf.l1 k x10 x11 (wrap64 (x12 + 1)) x1000 x1001 x1002 x139000 (x139001 ++ [(⟨x181000, x181001, x181002, x181003⟩ : S39)])) else (none)))
end
def wayzgoosekit_TradesOf.f (k : Nat) (s0_0 : List Int) (s0_1 : Int) (s0_2 : Int) (a1 : Int) (a2 : Int) : Option ((List (S51)) × (List (S39)) × Int × Int) := (wayzgoosekit_sorts.f).bind fun t139 => ((wayzgoosekit_Dice_Order.f k s0_0 s0_1 s0_2 (t139.length : Int)).bind fun bt142 => ((wayzgoosekit_Dice_From.f s0_0 bt142.2.1 bt142.2.2 1 a1).bind fun bt147 => (wayzgoosekit_TradesOf.l0 k a2 bt142.1 bt147.1 s0_0 bt147.2.1 bt147.2.2 ([] : List (S51)))))
theorem wayzgoosekit_TradesOf.mono_l : ∀ k, (∀ y0 y1 y2 y3 y4 y5 y6, LeO (wayzgoosekit_TradesOf.l0 k y0 y1 y2 y3 y4 y5 y6) (wayzgoosekit_TradesOf.l0 (k + 1) y0 y1 y2 y3 y4 y5 y6)) ∧ (∀ y0 y1 y2 y3 y4 y5 y6 y7, LeO (wayzgoosekit_TradesOf.l1 k y0 y1 y2 y3 y4 y5 y6 y7) (wayzgoosekit_TradesOf.l1 (k + 1) y0 y1 y2 y3 y4 y5 y6 y7)) ∧ (∀ y0 y1 y2 y3 y4 y5 y6 y7 y8 y9 y10 y11, LeO (wayzgoosekit_TradesOf.j2 k y0 y1 y2 y3 y4 y5 y6 y7 y8 y9 y10 y11) (wayzgoosekit_TradesOf.j2 (k + 1) y0 y1 y2 y3 y4 y5 y6 y7 y8 y9 y10 y11)) ∧ (∀ y0 y1 y2 y3 y4 y5 y6 y7 y8 y9 y10 y11 y12, LeO (wayzgoosekit_TradesOf.l2 k y0 y1 y2 y3 y4 y5 y6 y7 y8 y9 y10 y11 y12) (wayzgoosekit_TradesOf.l2 (k + 1) y0 y1 y2 y3 y4 y5 y6 y7 y8 y9 y10 y11 y12))
  | 0 => ⟨fun _ _ _ _ _ _ _ r h => by simp [wayzgoosekit_TradesOf.l0] at h, fun _ _ _ _ _ _ _ _ r h => by simp [wayzgoosekit_TradesOf.l1] at h, fun _ _ _ _ _ _ _ _ _ _ _ _ r h => by simp [wayzgoosekit_TradesOf.j2] at h, fun _ _ _ _ _ _ _ _ _ _ _ _ _ r h => by simp [wayzgoosekit_TradesOf.l2] at h⟩
  | k + 1 => by
    obtain ⟨ih0, ih1, ih2, ih3⟩ := wayzgoosekit_TradesOf.mono_l k
    refine ⟨?_, ?_, ?_, ?_⟩
    · intro y0 y1 y2 y3 y4 y5 y6
      unfold wayzgoosekit_TradesOf.l0
      repeat' first
      | (with_reducible exact ih0 _ _ _ _ _ _ _)
      | (with_reducible exact ih1 _ _ _ _ _ _ _ _)
      | (with_reducible exact ih2 _ _ _ _ _ _ _ _ _ _ _ _)
      | (with_reducible exact ih3 _ _ _ _ _ _ _ _ _ _ _ _ _)
      | (with_reducible exact wayzgoosekit_Dice_Order.mono _ _ _ _ _)
      | (with_reducible exact wayzgoosekit_partOf.mono _ _ _ _ _ _)
      | (with_reducible exact LeO.refl _)
      | (with_reducible exact LeO.none _)
      | (with_reducible refine LeO.ite ?_ ?_)
      | (with_reducible refine LeO.bind ?_ (fun _ => ?_))
      | exact ih0 _ _ _ _ _ _ _
      | exact ih1 _ _ _ _ _ _ _ _
      | exact ih2 _ _ _ _ _ _ _ _ _ _ _ _
      | exact ih3 _ _ _ _ _ _ _ _ _ _ _ _ _
      | exact wayzgoosekit_Dice_Order.mono _ _ _ _ _
      | exact wayzgoosekit_partOf.mono _ _ _ _ _ _
      | exact LeO.none _
      | refine LeO.ite ?_ ?_
      | refine LeO.bind ?_ (fun _ => ?_)
    · intro y0 y1 y2 y3 y4 y5 y6 y7
      unfold wayzgoosekit_TradesOf.l1
      repeat' first
      | (with_reducible exact ih0 _ _ _ _ _ _ _)
      | (with_reducible exact ih1 _ _ _ _ _ _ _ _)
      | (with_reducible exact ih2 _ _ _ _ _ _ _ _ _ _ _ _)
      | (with_reducible exact ih3 _ _ _ _ _ _ _ _ _ _ _ _ _)
      | (with_reducible exact wayzgoosekit_Dice_Order.mono _ _ _ _ _)
      | (with_reducible exact wayzgoosekit_partOf.mono _ _ _ _ _ _)
      | (with_reducible exact LeO.refl _)
      | (with_reducible exact LeO.none _)
      | (with_reducible refine LeO.ite ?_ ?_)
      | (with_reducible refine LeO.bind ?_ (fun _ => ?_))
      | exact ih0 _ _ _ _ _ _ _
      | exact ih1 _ _ _ _ _ _ _ _
      | exact ih2 _ _ _ _ _ _ _ _ _ _ _ _
      | exact ih3 _ _ _ _ _ _ _ _ _ _ _ _ _
      | exact wayzgoosekit_Dice_Order.mono _ _ _ _ _
      | exact wayzgoosekit_partOf.mono _ _ _ _ _ _
      | exact LeO.none _
      | refine LeO.ite ?_ ?_
      | refine LeO.bind ?_ (fun _ => ?_)
    · intro y0 y1 y2 y3 y4 y5 y6 y7 y8 y9 y10 y11
      unfold wayzgoosekit_TradesOf.j2
      repeat' first
      | (with_reducible exact ih0 _ _ _ _ _ _ _)
      | (with_reducible exact ih1 _ _ _ _ _ _ _ _)
      | (with_reducible exact ih2 _ _ _ _ _ _ _ _ _ _ _ _)
      | (with_reducible exact ih3 _ _ _ _ _ _ _ _ _ _ _ _ _)
      | (with_reducible exact wayzgoosekit_Dice_Order.mono _ _ _ _ _)
      | (with_reducible exact wayzgoosekit_partOf.mono _ _ _ _ _ _)
      | (with_reducible exact LeO.refl _)
      | (with_reducible exact LeO.none _)
      | (with_reducible refine LeO.ite ?_ ?_)
      | (with_reducible refine LeO.bind ?_ (fun _ => ?_))
      | exact ih0 _ _ _ _ _ _ _
      | exact ih1 _ _ _ _ _ _ _ _
      | exact ih2 _ _ _ _ _ _ _ _ _ _ _ _
      | exact ih3 _ _ _ _ _ _ _ _ _ _ _ _ _
      | exact wayzgoosekit_Dice_Order.mono _ _ _ _ _
      | exact wayzgoosekit_partOf.mono _ _ _ _ _ _
      | exact LeO.none _
      | refine LeO.ite ?_ ?_
      | refine LeO.bind ?_ (fun _ => ?_)
    · intro y0 y1 y2 y3 y4 y5 y6 y7 y8 y9 y10 y11 y12
      unfold wayzgoosekit_TradesOf.l2
      repeat' first
      | (with_reducible exact ih0 _ _ _ _ _ _ _)
      | (with_reducible exact ih1 _ _ _ _ _ _ _ _)
      | (with_reducible exact ih2 _ _ _ _ _ _ _ _ _ _ _ _)
      | (with_reducible exact ih3 _ _ _ _ _ _ _ _ _ _ _ _ _)
      | (with_reducible exact wayzgoosekit_Dice_Order.mono _ _ _ _ _)
      | (with_reducible exact wayzgoosekit_partOf.mono _ _ _ _ _ _)
      | (with_reducible exact LeO.refl _)
      | (with_reducible exact LeO.none _)
      | (with_reducible refine LeO.ite ?_ ?_)
      | (with_reducible refine LeO.bind ?_ (fun _ => ?_))
      | exact ih0 _ _ _ _ _ _ _
      | exact ih1 _ _ _ _ _ _ _ _
      | exact ih2 _ _ _ _ _ _ _ _ _ _ _ _
      | exact ih3 _ _ _ _ _ _ _ _ _ _ _ _ _
      | exact wayzgoosekit_Dice_Order.mono _ _ _ _ _
      | exact wayzgoosekit_partOf.mono _ _ _ _ _ _
      | exact LeO.none _
      | refine LeO.ite ?_ ?_
      | refine LeO.bind ?_ (fun _ => ?_)
theorem wayzgoosekit_TradesOf.mono : ∀ a0 a1 a2 a3 a4 k, LeO (wayzgoosekit_TradesOf.f k a0 a1 a2 a3 a4) (wayzgoosekit_TradesOf.f (k + 1) a0 a1 a2 a3 a4) := by
  intro a0 a1 a2 a3 a4 k
  obtain ⟨ih0, ih1, ih2, ih3⟩ := wayzgoosekit_TradesOf.mono_l k
  unfold wayzgoosekit_TradesOf.f
  repeat' first
      | (with_reducible exact ih0 _ _ _ _ _ _ _)
      | (with_reducible exact ih1 _ _ _ _ _ _ _ _)
      | (with_reducible exact ih2 _ _ _ _ _ _ _ _ _ _ _ _)
      | (with_reducible exact ih3 _ _ _ _ _ _ _ _ _ _ _ _ _)
      | (with_reducible exact wayzgoosekit_Dice_Order.mono _ _ _ _ _)
      | (with_reducible exact wayzgoosekit_partOf.mono _ _ _ _ _ _)
      | (with_reducible exact LeO.refl _)
      | (with_reducible exact LeO.none _)
      | (with_reducible refine LeO.ite ?_ ?_)
      | (with_reducible refine LeO.bind ?_ (fun _ => ?_))
      | exact ih0 _ _ _ _ _ _ _
      | exact ih1 _ _ _ _ _ _ _ _
      | exact ih2 _ _ _ _ _ _ _ _ _ _ _ _
      | exact ih3 _ _ _ _ _ _ _ _ _ _ _ _ _
      | exact wayzgoosekit_Dice_Order.mono _ _ _ _ _
      | exact wayzgoosekit_partOf.mono _ _ _ _ _ _
      | exact LeO.none _
      | refine LeO.ite ?_ ?_
      | refine LeO.bind ?_ (fun _ => ?_)
end Go.Proofs.Ytfbimhnlcmdcpaa.Pa
