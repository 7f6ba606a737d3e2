/- Small laws for walks in which the world is a variable: what a store, a box, a load leaves; nothing of the program. -/
import Derived.Test.YtokpdecpmcbcpaaWMore
import Derived.Lib.Hide
import Derived.WalkSpells
namespace Go.Proofs.Ytokpdecpmcbcpaa
open Go.RowKit Go.Proofs.YtokpdecpmcbcpaaW.PrintWords Go.Proofs.YtokpdecpmcbcpaaW.PrintLast Go.Proofs.YtokpdecpmcbcpaaW.PrintMore
set_option linter.unusedVariables false

/-- w' is w but for the blocks of S and new ones. -/
structure Chg (S : Nat → Prop) (w w' : World) : Prop where
  os : w'.os = w.os
  tape : w'.tape = w.tape
  output : w'.output = w.output
  size : w.heap.size ≤ w'.heap.size
  block : ∀ k, k < w.heap.size → ¬ S k → w'.heap[k]? = w.heap[k]?

theorem Chg.refl (S : Nat → Prop) (w : World) : Chg S w w := ⟨rfl, rfl, rfl, Nat.le_refl _, fun _ _ _ => rfl⟩
theorem Chg.trans {S S' : Nat → Prop} {a b c : World} (h : Chg S a b) (k : Chg S' b c) (hs : ∀ i, S' i → S i ∨ a.heap.size ≤ i) : Chg S a c :=
  ⟨k.os.trans h.os, k.tape.trans h.tape, k.output.trans h.output, Nat.le_trans h.size k.size, fun i hi hn => (k.block i (Nat.lt_of_lt_of_le hi h.size) (fun hk => (hs i hk).elim hn (by omega))).trans (h.block i hi hn)⟩
theorem Chg.mono {S S' : Nat → Prop} {a b : World} (h : Chg S a b) (hs : ∀ i, S i → S' i) : Chg S' a b :=
  ⟨h.os, h.tape, h.output, h.size, fun i hi hn => h.block i hi (fun hk => hn (hs i hk))⟩
theorem Chg.of_below {S : Nat → Prop} {w w' : World} (h : Below w.heap.size w w') : Chg S w w' := ⟨h.os, h.tape, h.output, h.size, fun k hk _ => h.block k hk⟩
theorem Chg.to_below {S : Nat → Prop} {w w' : World} (h : Chg S w w') (hs : ∀ k, ¬ S k) : Below w.heap.size w w' := ⟨h.os, h.tape, h.output, h.size, fun k hk => h.block k hk (hs k)⟩
theorem Chg.below {S : Nat → Prop} {B : Nat} {w0 w w' : World} (hB : Below B w0 w) (h : Chg S w w') (hle : B ≤ w.heap.size) (hs : ∀ k, S k → B ≤ k) : Below B w0 w' :=
  hB.trans ⟨h.os, h.tape, h.output, h.size, fun k hk => h.block k (Nat.lt_of_lt_of_le hk hle) (fun hS => by have := hs k hS; omega)⟩
theorem Chg.of_grown {S : Nat → Prop} {w w' : World} {row : Option Nat} (h : w.grownBy w' row) (hs : ∀ k, row = some k → S k) : Chg S w w' :=
  ⟨h.os, h.tape, h.output, h.size, fun k hk hn => h.block k hk (fun e => hn (hs k e.symm))⟩
theorem Chg.kept {S : Nat → Prop} {w w' : World} (h : Chg S w w') : Kept w w' S := ⟨h.size, h.block⟩
theorem Chg.blk {S : Nat → Prop} {w w' : World} (h : Chg S w w') {g : Nat} {o : Obj} (hb : w.heap[g]? = some o) (hn : ¬ S g) : w'.heap[g]? = some o := (h.block g (blk_lt hb) hn).trans hb
theorem Chg.V {α : Type} {d : Kd α} {e base : Nat} {ok S : Nat → Prop} {w w' : World} {v : Value} {xs : List α} (h : Chg S w w') (hv : Kd.V d e w base ok v xs) (hn : ∀ k, ok k → ¬ S k) : Kd.V d e w' base ok v xs := Kd.V_kept hv h.kept hn
theorem Chg.N {α : Type} {d : Kd α} {e base : Nat} {ok S : Nat → Prop} {w w' : World} {v : Value} {xs : List α} (h : Chg S w w') (hv : Kd.N d e w base ok v xs) (hn : ∀ k, ok k → ¬ S k) : Kd.N d e w' base ok v xs := Kd.N_kept hv h.kept hn
theorem Chg.R {α : Type} {d : Kd α} {e base : Nat} {ok S : Nat → Prop} {w w' : World} {v : Value} {xs : List α} (h : Chg S w w') (hv : Kd.R d e w base ok v xs) (hn : ∀ k, ok k → ¬ S k) : Kd.R d e w' base ok v xs := Kd.R_kept hv h.kept hn

theorem R_in {α : Type} {d : Kd α} {e base : Nat} {ok : Nat → Prop} {w : World} {v : Value} {xs : List α} (h : Kd.R d e w base ok v xs) : Kd.R d e w base (fun k => base ≤ k ∧ k < w.heap.size) v xs := Kd.R_mono (Kd.R_bound h) (fun k hk => ⟨hk.2.1, hk.2.2.1⟩)
theorem cellA {w : World} {a : Addr} {u : Value} (h : w.cell? a = some u) (o : Obj) : (w.alloc o).cell? a = some u := pw_cell_below (below_alloc (Below.refl _ _) o) h
/-- A draw turns no block. -/
theorem und {w w' : World} (h : Below w.drew.heap.size w.drew w') : Below w.heap.size w w' := ⟨h.os, h.tape, h.output, h.size, h.block⟩
theorem undN {w w' : World} {n : Nat} (h : Below (w.drewN n).heap.size (w.drewN n) w') : Below w.heap.size w w' := ⟨h.os, h.tape, h.output, h.size, h.block⟩
theorem undC {S : Nat → Prop} {w w' : World} (h : Chg S w.drew w') : Chg S w w' := ⟨h.os, h.tape, h.output, h.size, h.block⟩

section
variable {P : Program} {ops : Array Oper} {rest : List Oper} {o : Oper} {a : Act} {Q : Exit → Act → World → Prop} {W : World}
/-- A store into a block that is known whole: the world behind it is a variable. -/
theorem store_ev (hN : o.dst = none) (hgd : o.guard = none) (t : TypeId) (p x : Operand) (ho : o.op = .store t p x) {g i : Nat} {e : TypeId} {cur : Array Value} (hh : W.heap[g]? = some (.cells cur e (0, 0)))
    (haddr : a.eval p = .pointer (some ⟨g, i, none⟩)) (u : Value) (hx : a.eval x = u) (seg : List Value) (hu : u.cells.toList = seg) (ht : (P.info? t).map (·.size) = some seg.length) (hfit : i + seg.length ≤ cur.size) (h1 : ∀ q ∈ seg, q.oneCell' = true)
    (cur' : List Value) (hc : cur.toList.take i ++ seg ++ cur.toList.drop (i + seg.length) = cur')
    (h : ∀ w1, w1.heap[g]? = some (.cells cur'.toArray e (0, 0)) → Chg (fun k => k = g) W w1 → wpList P ops Q rest a w1) : wpList P ops Q (o :: rest) a W := by
  have hrun := run_store_run (P := P) t u seg hh hu ht hfit h1
  have hrow := setCells_row (e := e) seg i W cur hh hfit
  have hsame := setCells_same g seg i W
  refine wpList_plain hgd fun K hK => ?_
  unfold Oper.wp execOp
  simp only [ho, haddr, hx, Sem.run_bind, Sem.run_pure, Result.andThen_ok, hrun]
  show K (a.put o.dst undef) _
  rw [hN]
  refine hK a _ (h _ ?_ ⟨hsame.1, hsame.2.1, hsame.2.2.1, by rw [hsame.2.2.2]; exact Nat.le_refl _, fun k _ hk => setCells_far seg i k hk⟩)
  obtain ⟨cur2, hr, _, hl⟩ := hrow
  have he : cur2 = cur'.toArray := by rw [← hc, ← hl]
  rw [hr, he]
/-- A store through a pointer, as a step of a region that draws. -/
theorem store_step {Kc : Act → World → Prop} (hw : Region.wanted o (yielded ops a.tmps) = true) (hN : o.dst = none) (t : TypeId) (p x : Operand) (ho : o.op = .store t p x) {g i : Nat} {e : TypeId} {cur : Array Value} (hh : W.heap[g]? = some (.cells cur e (0, 0)))
    (haddr : a.eval p = .pointer (some ⟨g, i, none⟩)) (u : Value) (hx : a.eval x = u) (seg : List Value) (hu : u.cells.toList = seg) (ht : (P.info? t).map (·.size) = some seg.length) (hfit : i + seg.length ≤ cur.size) (h1 : ∀ q ∈ seg, q.oneCell' = true)
    (cur' : List Value) (hc : cur.toList.take i ++ seg ++ cur.toList.drop (i + seg.length) = cur')
    (h : ∀ w1, w1.heap[g]? = some (.cells cur'.toArray e (0, 0)) → Chg (fun k => k = g) W w1 → Kc a w1) : if Region.wanted o (yielded ops a.tmps) = true then Oper.wp P o a W Kc Q else Kc (a.put o.dst undef) W := by
  have hrun := run_store_run (P := P) t u seg hh hu ht hfit h1
  have hrow := setCells_row (e := e) seg i W cur hh hfit
  have hsame := setCells_same g seg i W
  rw [if_pos hw]
  unfold Oper.wp execOp
  simp only [ho, haddr, hx, Sem.run_bind, Sem.run_pure, Result.andThen_ok, hrun]
  show Kc (a.put o.dst undef) _
  rw [hN]
  refine h _ ?_ ⟨hsame.1, hsame.2.1, hsame.2.2.1, by rw [hsame.2.2.2]; exact Nat.le_refl _, fun k _ hk => setCells_far seg i k hk⟩
  obtain ⟨cur2, hr, _, hl⟩ := hrow
  have he : cur2 = cur'.toArray := by rw [← hc, ← hl]
  rw [hr, he]
/-- A load of a struct out of a block that is known whole, at whatever cell. -/
theorem run_loadVar_seg (w : World) (g i : Nat) (t ty : TypeId) (cs : Array Value) (fr : Nat × Nat) (seg : List Value) (d : TypeDesc) (hg : w.heap[g]? = some (.cells cs t fr)) (hs : (cs.toList.drop i).take seg.length = seg)
    (hu : P.underlying ty = some d) (hd : (match d with | .struct _ | .array _ _ => true | _ => false) = true) (hi : (P.info? ty).map (·.size) = some seg.length) :
    (loadVar ty ⟨g, i, none⟩).run P w = .ok (.agg seg.toArray) w := by
  have hl : (loadCells ⟨g, i, none⟩ seg.length).run P w = .ok seg.toArray w :=
    run_loadCells_list (P := P) w ⟨g, i, none⟩ seg (fun j v hv => by
      have hadd : (⟨g, i, none⟩ : Addr).add j = ⟨g, i + j, none⟩ := by unfold Addr.add; split <;> simp_all
      rw [hadd, cell_of_row w g (i + j) cs t fr hg]
      rw [← hs, List.getElem?_take] at hv
      split at hv
      · rw [List.getElem?_drop] at hv; simpa using hv
      · cases hv)
  cases hq : P.info? ty with
  | none => simp [hq] at hi
  | some inf =>
    have hs : inf.size = seg.length := by simpa [hq] using hi
    have hagg : (isAgg ty).run P w = .ok true w := by
      unfold isAgg
      rw [Sem.run_bind, run_underlying hu w]
      cases d <;> simp_all
    simp [loadVar, Sem.run_bind, hagg, sizeOf, typeInfo, hq, hs, hl]
theorem load_ev (hgd : o.guard = none) (ty : TypeId) (x : Operand) (ho : o.op = .load ty x) {g i : Nat} {t : TypeId} {cs : Array Value} (hg : W.heap[g]? = some (.cells cs t (0, 0))) (hx : a.eval x = .pointer (some ⟨g, i, none⟩))
    (seg : List Value) (hs : (cs.toList.drop i).take seg.length = seg) {d : TypeDesc} (hu : P.underlying ty = some d) (hd : (match d with | .struct _ | .array _ _ => true | _ => false) = true) (hi : (P.info? ty).map (·.size) = some seg.length)
    (h : wpList P ops Q rest (a.put o.dst (.agg seg.toArray)) W) : wpList P ops Q (o :: rest) a W := by
  refine Kd.event_run hgd ?_ h
  unfold execOp
  simp only [ho, hx, Instr.loadAt, Instr.sureAddr, Sem.run_bind, Sem.run_pure, Result.andThen_ok, run_loadVar_seg W g i t ty cs (0, 0) seg d hg hs hu hd hi]
end
/-! A region that draws its order: what only yields may be taken first, as long as what may come before it keeps S ('late': the operations behind which S may fail). -/
section
variable {P : Program} {md : Region.Mode} {ops : Array Oper} {Q : Exit → Act → World → Prop} {late : Nat → Bool} {S : World → Prop}
def wpAnyT (P : Program) (md : Region.Mode) (ops : Array Oper) (Q : Exit → Act → World → Prop) (late : Nat → Bool) (S : World → Prop) : Nat → Array Bool → Act → World → Prop
  | 0, l, a, w => Region.ready md ops l = [] ∧ Q .normal a w
  | n + 1, l, a, w => (Region.ready md ops l = [] → Q .normal a w) ∧ ∀ i ∈ Region.ready md ops l, wpOp P ops Q i (fun a' w' => (late i = false → S w') ∧ wpAnyT P md ops Q late S n (l.setIfInBounds i true) a' w') a w
theorem wpAny_of_T : ∀ (n : Nat) (l : Array Bool) (a : Act) (w : World), wpAnyT P md ops Q late S n l a w → wpAny P md ops Q n l a w
  | 0, _, _, _, h => h
  | n + 1, _, _, _, h => ⟨h.1, fun i hi => wpOp_mono (fun a' w' k => wpAny_of_T n _ a' w' k.2) (h.2 i hi)⟩
def freeT (md : Region.Mode) (ops : Array Oper) (late : Nat → Bool) (l : Array Bool) (i : Nat) : Bool :=
  match ops[i]? with
  | none => false
  | some oi => (List.range ops.size).all fun j => j == i || (l.getD j true || (match ops[j]? with
      | some oj => oj.after.any (fun e => Region.binds md e && e.on == i) || (oi.apart ops oj && !late j)
      | none => true))
theorem freeT_spec {i : Nat} {oi : Oper} {l : Array Bool} (hi : ops[i]? = some oi) (h : freeT md ops late l i = true) (j : Nat) (oj : Oper) (hj : ops[j]? = some oj) (hne : j ≠ i) (hun : l.getD j true = false)
    (hno : ∀ e ∈ oj.after, Region.binds md e = true → e.on ≠ i) : oi.apart ops oj = true ∧ late j = false := by
  unfold freeT at h
  simp only [hi, List.all_eq_true, List.mem_range] at h
  have h1 := h j (Array.getElem?_eq_some_iff.1 hj).1
  simp only [hj, Bool.or_eq_true, beq_iff_eq, hne, false_or, hun, Bool.false_eq_true, Array.any_eq_true', Bool.and_eq_true, Bool.not_eq_true'] at h1
  rcases h1 with ⟨e, he, hb, ho⟩ | h1
  · exact absurd ho (hno e he hb)
  · exact h1
theorem wpAnyT_first {i : Nat} {oi : Oper} {v : Value} (hi : ops[i]? = some oi) (hsel : ∀ (j : Nat) (o : Oper) cs b, ops[j]? = some o → o.op ≠ .select cs b) (hQ : ∀ c a w, Q (.panic c) (a.put oi.dst v) w → Q (.panic c) a w) :
    ∀ (n : Nat) (l : Array Bool) (a : Act) (w : World),
      (∀ j oj, ops[j]? = some oj → j ≠ i → l.getD j true = false → (∀ e ∈ oj.after, Region.binds md e = true → e.on ≠ i) → oi.apart ops oj = true ∧ late j = false) →
      i ∈ Region.ready md ops l → YieldsIf P ops S oi v a → S w → wpAnyT P md ops Q late S n (l.setIfInBounds i true) (a.put oi.dst v) w → wpAnyT P md ops Q late S (n + 1) l a w := by
  intro n
  induction n with
  | zero =>
    intro l a w _ hr hy hS H
    refine ⟨fun h => (by rw [h] at hr; cases hr), fun j hj => ?_⟩
    by_cases hji : j = i
    · subst hji; exact hy.wpOp hi hS ⟨fun _ => hS, H⟩
    · have := ready_mono hj hji
      rw [H.1] at this
      cases this
  | succ n ih =>
    intro l a w hfree hr hy hS H
    refine ⟨fun h => (by rw [h] at hr; cases hr), fun j hj => ?_⟩
    by_cases hji : j = i
    · subst hji; exact hy.wpOp hi hS ⟨fun _ => hS, H⟩
    have h1 := H.2 j (ready_mono hj hji)
    obtain ⟨hun, oj, hoj, hall⟩ := mem_ready.1 hj
    have hnot : ∀ e ∈ oj.after, Region.binds md e = true → e.on ≠ i := by
      intro e he hb heq
      have q1 := hall e he hb
      have q0 := (mem_ready.1 hr).1
      rw [heq] at q1
      by_cases hs : i < l.size
      · simp [hs] at q0 q1
        rw [q0] at q1
        cases q1
      · simp [Array.getElem?_eq_none (Nat.le_of_not_lt hs)] at q1
    obtain ⟨hap, hlt⟩ := hfree j oj hoj hji hun hnot
    refine wpOp_mono (fun a' w' k => ?_) (wpOp_putIf hoj hap (fun cs b => hsel i oi cs b hi) (fun cs b => hsel j oj cs b hoj) hQ hy h1)
    have hS' : S w' := k.2.1 hlt
    refine ⟨fun _ => hS', ih _ a' w' (fun m om hm hmi hmun hno => ?_) (ready_mono hr (Ne.symm hji)) k.1 hS' ?_⟩
    · refine hfree m om hm hmi ?_ hno
      by_cases hjm : j = m
      · subst hjm; exact hun
      · rw [getD_set_ne true hjm] at hmun; exact hmun
    · rw [Array.setIfInBounds_comm _ _ hji]
      exact k.2.2
/-- The operation itself, written out, by 'rfl'. -/
theorem at_of_drop {i : Nat} {o : Oper} {rest : List Oper} (h : ops.toList.drop i = o :: rest) : ops[i]? = some o := by
  have h1 : (ops.toList.drop i)[0]? = some o := by rw [h]; rfl
  rw [List.getElem?_drop] at h1
  simpa using h1
/-- Take number i, which yields v in every world of S. -/
theorem wpAnyT_take {i : Nat} {oi : Oper} {rest : List Oper} {v : Value} {n : Nat} {l : Array Bool} {a : Act} {w : World} (hi : ops.toList.drop i = oi :: rest) (hs : Region.noSelect ops = true) (hf : freeT md ops late l i = true) (hr : (Region.ready md ops l).contains i = true)
    (hQ : ∀ c a w, Q (.panic c) (a.put oi.dst v) w → Q (.panic c) a w) (hw : Region.wanted oi (yielded ops a.tmps) = true) (hy : ∀ w, S w → (execOp a.eval oi).run P w = .ok (.value v) w) (hS : S w)
    (h : wpAnyT P md ops Q late S n (l.setIfInBounds i true) (a.put oi.dst v) w) : wpAnyT P md ops Q late S (n + 1) l a w :=
  wpAnyT_first (at_of_drop hi) (Region.noSelect_spec hs) hQ n l a w (freeT_spec (at_of_drop hi) hf) (by simpa using hr) (Or.inl ⟨hw, hy⟩) hS h
/-- .. which is not carried out (its guard). -/
theorem wpAnyT_pass {i : Nat} {oi : Oper} {rest : List Oper} {n : Nat} {l : Array Bool} {a : Act} {w : World} (hi : ops.toList.drop i = oi :: rest) (hs : Region.noSelect ops = true) (hf : freeT md ops late l i = true) (hr : (Region.ready md ops l).contains i = true)
    (hQ : ∀ c a w, Q (.panic c) (a.put oi.dst undef) w → Q (.panic c) a w) (hw : Region.wanted oi (yielded ops a.tmps) = false) (hS : S w)
    (h : wpAnyT P md ops Q late S n (l.setIfInBounds i true) (a.put oi.dst undef) w) : wpAnyT P md ops Q late S (n + 1) l a w :=
  wpAnyT_first (at_of_drop hi) (Region.noSelect_spec hs) hQ n l a w (freeT_spec (at_of_drop hi) hf) (by simpa using hr) (Or.inr ⟨hw, rfl⟩) hS h
/-- One operation of a region: behind a name of its own, so that nobody lays it open. -/
structure WOp (P : Program) (ops : Array Oper) (Q : Exit → Act → World → Prop) (i : Nat) (K : Act → World → Prop) (a : Act) (w : World) : Prop where
  out : wpOp P ops Q i K a w
/-- Number i alone may come up. -/
theorem wpAnyT_one {i : Nat} {n : Nat} {l : Array Bool} {a : Act} {w : World} (hr : Region.ready md ops l = [i])
    (h : WOp P ops Q i (fun a' w' => (late i = false → S w') ∧ wpAnyT P md ops Q late S n (l.setIfInBounds i true) a' w') a w) : wpAnyT P md ops Q late S (n + 1) l a w :=
  ⟨fun h0 => (by rw [hr] at h0; cases h0), fun j hj => (by rw [hr] at hj; obtain rfl := List.mem_singleton.1 hj; exact h.out)⟩
theorem wpAnyT_done {n : Nat} {l : Array Bool} {a : Act} {w : World} (hr : Region.ready md ops l = []) (h : Q .normal a w) : wpAnyT P md ops Q late S n l a w := by
  cases n with
  | zero => exact ⟨hr, h⟩
  | succ n => exact ⟨fun _ => h, fun j hj => (by rw [hr] at hj; cases hj)⟩
theorem wp_region_T {id : Nat} {a : Act} {w : World} (late : Nat → Bool) (S : World → Prop) (hm : P.follows .mixedOrders = true) (h : wpAnyT P .any ops Q late S ops.size (Array.replicate ops.size false) a w.drew) : (Code.region id ops true).wp P Q a w :=
  wp_region_any hm (wpAny_of_T _ _ _ _ h)
theorem wpOp_step {i : Nat} {o : Oper} {rest : List Oper} {K : Act → World → Prop} {a : Act} {w : World} (hi : ops.toList.drop i = o :: rest) (h : if Region.wanted o (yielded ops a.tmps) = true then Oper.wp P o a w K Q else K (a.put o.dst undef) w) : WOp P ops Q i K a w := by
  refine ⟨?_⟩
  unfold wpOp
  simp only [at_of_drop hi]
  split
  · rename_i hw; rw [if_pos hw] at h; exact .inl h
  · rename_i hw; rw [if_neg hw] at h; exact h
theorem wpOp_call {i : Nat} {o : Oper} {rest : List Oper} {K : Act → World → Prop} {a : Act} {w : World} {f : FuncId} {args : Array Value} (hi : ops.toList.drop i = o :: rest) (hw : Region.wanted o (yielded ops a.tmps) = true) (hrun : (execOp a.eval o).run P w = .ok (.enter f args) w)
    {R : Ending → World → Prop} (hc : Calls P f args w R) (h : ∀ e w1, R e w1 → ∃ v, e = .returned v ∧ K (a.put o.dst v) w1) : WOp P ops Q i K a w := by
  refine wpOp_step hi ?_
  rw [if_pos hw]
  unfold Oper.wp
  rw [hrun]
  refine Calls.mono hc fun e w1 hR => ?_
  obtain ⟨v, rfl, hk⟩ := h e w1 hR
  exact hk
/-- A step whose run is known: a value and a world. -/
theorem wpOp_value {i : Nat} {o : Oper} {rest : List Oper} {K : Act → World → Prop} {a : Act} {w w1 : World} {v : Value} (hi : ops.toList.drop i = o :: rest) (hw : Region.wanted o (yielded ops a.tmps) = true) (hrun : (execOp a.eval o).run P w = .ok (.value v) w1) (h : K (a.put o.dst v) w1) : WOp P ops Q i K a w :=
  wpOp_step hi (event_step hw hrun h)
/-- A store through a pointer into a block that is known whole. -/
theorem wpOp_store {K : Act → World → Prop} {n : Nat} {o : Oper} {rest : List Oper} {a : Act} {W : World} (hi : ops.toList.drop n = o :: rest) (hw : Region.wanted o (yielded ops a.tmps) = true) (hN : o.dst = none) (t : TypeId) (p x : Operand) (ho : o.op = .store t p x) {g i : Nat} {e : TypeId} {cur : Array Value} (hh : W.heap[g]? = some (.cells cur e (0, 0)))
    (haddr : a.eval p = .pointer (some ⟨g, i, none⟩)) (u : Value) (hx : a.eval x = u) (seg : List Value) (hu : u.cells.toList = seg) (ht : (P.info? t).map (·.size) = some seg.length) (hfit : i + seg.length ≤ cur.size) (h1 : ∀ q ∈ seg, q.oneCell' = true)
    (cur' : List Value) (hc : cur.toList.take i ++ seg ++ cur.toList.drop (i + seg.length) = cur')
    (h : ∀ w1, w1.heap[g]? = some (.cells cur'.toArray e (0, 0)) → Chg (fun k => k = g) W w1 → K a w1) : WOp P ops Q n K a W :=
  wpOp_step hi (store_step (Kc := K) hw hN t p x ho hh haddr u hx seg hu ht hfit h1 cur' hc h)
end
/-! Cuts with three bounds, cuts up to the capacity; clear behind what a row holds. -/
section
variable {P : Program}
theorem cut3 (t e : TypeId) {i : TypeInfo} (ht : P.underlying t = some (.slice e)) (hi : P.info? e = some i) (A : Option Addr) (n c : Nat) (kl kh km : IntKind) (lo hh mx : Int) (h0 : 0 ≤ lo) (h1 : lo ≤ hh) (h2 : hh ≤ mx) (h3 : mx ≤ c) :
    ∃ v, ∀ W : World, (Instr.slice t (.slice A n c) (some (.int kl lo)) (some (.int kh hh)) (some (.int km mx))).run P W = .ok v W := by
  have hel : P.elem t = e := by simp [Program.elem, ht]
  have hu : P.underlying t = some (.slice (P.elem t)) := by rw [hel]; exact ht
  refine ⟨sliced A lo.toNat hh.toNat mx.toNat i.size, fun W => ?_⟩
  rw [run_slice_any W t A n c hu]
  have e1 : (mx.toNat : Int) = mx := Int.toNat_of_nonneg (by omega)
  have e2 : (hh.toNat : Int) = hh := Int.toNat_of_nonneg (by omega)
  simp [Instr.sliceBounds, run_sliceBound, sizeOf, typeInfo, hel, hi, e1, e2, h0, h1, h2, h3, (by omega : 0 ≤ mx), (by omega : 0 ≤ hh)]
theorem cut_lh (t e : TypeId) (kl kh : IntKind) {i : TypeInfo} (ht : P.underlying t = some (.slice e)) (hi : P.info? e = some i) (size : Nat) (hsz : i.size = size) (A : Option Addr) (n c : Nat) (lo hh : Int) (h0 : 0 ≤ lo) (h1 : lo ≤ hh) (h2 : hh ≤ c) :
    ∀ W : World, (Instr.slice t (.slice A n c) (some (.int kl lo)) (some (.int kh hh)) none).run P W = .ok (.slice (if c = lo.toNat then A else A.map (·.add (lo.toNat * size))) (hh.toNat - lo.toNat) (c - lo.toNat)) W := by
  intro W
  have hel : P.elem t = e := by simp [Program.elem, ht]
  have hu : P.underlying t = some (.slice (P.elem t)) := by rw [hel]; exact ht
  rw [run_slice_lh W t A n c hu kl kh lo hh h0 h1 h2, hel]
  simp [sizeOf, typeInfo, hi, hsz, sliced, Result.andThen]
theorem own_beyond {W : World} {base n c g size : Nat} {e : TypeId} {xs : List Value} (h : W.ownsRow base e size (.slice (some ⟨g, 0, none⟩) n c) n xs) (o : Nat) (seg : List Value) (ho : n * size ≤ o) (hl : o + seg.length ≤ c * size) :
    (W.setCells g o seg).ownsRow base e size (.slice (some ⟨g, 0, none⟩) n c) n xs := by
  obtain ⟨h1, h2⟩ := h
  refine ⟨h1, ?_⟩
  rcases h2 with ⟨hv, _⟩ | ⟨g', cap, cur, hv, hg, hh, hn, hm, hs, ht⟩
  · cases hv
  injection hv with ha _ hc
  injection ha with ha
  injection ha with ha
  subst ha; subst hc
  obtain ⟨cur2, hr, hsz, hl2⟩ := setCells_row (e := e) seg o W cur hh (by omega)
  refine .inr ⟨g, c, cur2, rfl, hg, hr, hn, hm, by omega, ?_⟩
  rw [hl2, List.append_assoc, List.take_append_of_le_length (by rw [List.length_take, Array.length_toList]; omega), List.take_take, Nat.min_eq_left ho]
  exact ht
theorem N_beyond {α : Type} {d : Kd α} {W : World} {base n c g e : Nat} {ok : Nat → Prop} {xs : List α} (h : Kd.N d e W base ok (.slice (some ⟨g, 0, none⟩) n c) xs) (o : Nat) (seg : List Value) (ho : n * d.sz ≤ o) (hl : o + seg.length ≤ c * d.sz) :
    Kd.N d e (W.setCells g o seg) base ok (.slice (some ⟨g, 0, none⟩) n c) xs := by
  have hn := (Kd.N_reads' h).1
  obtain ⟨h0, rows, hlr, hR, hf⟩ := h
  obtain ⟨hR0, inner, hown, hreps⟩ := hR
  have hnr : rows.length = n := by omega
  refine ⟨h0, rows, hlr, ⟨hR0, inner, ?_, hreps⟩, fun j x cc hx hc => Kd.FK_step (hf j x cc hx hc) (fun k hk _ => setCells_far seg o k (fun he => hk.2 (by rw [he]; rfl)))⟩
  rw [hnr] at hown ⊢
  exact own_beyond hown o seg ho hl
theorem N_row {α : Type} {d : Kd α} {W : World} {base n c g e : Nat} {ok : Nat → Prop} {xs : List α} (h : Kd.N d e W base ok (.slice (some ⟨g, 0, none⟩) n c) xs) : ∃ cur, W.heap[g]? = some (.cells cur e (0, 0)) ∧ cur.size = c * d.sz := by
  obtain ⟨h0, rows, hlr, hR, hf⟩ := h
  obtain ⟨hR0, inner, hown, hreps⟩ := hR
  rcases hown.2 with ⟨hv, _⟩ | ⟨g', cap, cur, hv, hg, hh, hn, hm, hs, ht⟩
  · cases hv
  injection hv with ha _ hc
  injection ha with ha
  injection ha with ha
  subst ha; subst hc
  exact ⟨cur, hh, hs⟩
theorem Chg.setCells {S : Nat → Prop} (W : World) (g o : Nat) (seg : List Value) (hS : S g) : Chg S W (W.setCells g o seg) := by
  have hsame := setCells_same g seg o W
  exact ⟨hsame.1, hsame.2.1, hsame.2.2.1, by rw [hsame.2.2.2]; exact Nat.le_refl _, fun k _ hk => setCells_far seg o k (fun e => hk (e ▸ hS))⟩
/-- clear on one element behind the n of a row. -/
theorem run_clear_one {W : World} (t e ty : TypeId) (z : Value) (ht : P.underlying t = some (.slice e)) (hv : ∀ w, (zeroValue e).run P w = .ok z w) (zs : List Value) (hz : z.cells = zs.toArray) (h1 : ∀ q ∈ zs, q.oneCell' = true) {g o c : Nat} {cur : Array Value} {te : TypeId} (hh : W.heap[g]? = some (.cells cur te (0, 0)))
    (hfit : o + zs.length ≤ cur.size) : (Builtin.clear_ #[t] ty #[.slice (some ⟨g, o, none⟩) 1 c]).run P W = .ok (.tuple #[]) (W.setCells g o zs) := by
  have hst := run_storeCells_cells (P := P) g o zs 0 W (fun j hj => by rw [cell_of_row W g _ cur te (0, 0) hh]; simp; omega) (fun j _ => blk_frozen hh _) h1
  simp only [Nat.add_zero] at hst
  have hzc : (Builtin.zeroCells z.cells 1).toList = zs := by
    rw [hz]
    simp only [Builtin.zeroCells, Nat.one_mul]
    apply List.ext_getElem
    · simp
    · intro i h1 h2
      simp only [Array.getElem_toList, Array.getElem_map, Array.getElem_range]
      have hs : i % zs.toArray.size = i := Nat.mod_eq_of_lt (by simpa using h2)
      rw [hs]
      simp [h2]
  simp [Builtin.clear_, run_underlying ht, hv, hzc, hst]
end
end Go.Proofs.Ytokpdecpmcbcpaa
