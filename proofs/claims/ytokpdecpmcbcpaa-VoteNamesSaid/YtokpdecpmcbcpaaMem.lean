/- Memory of a walk as a list of resources, each with blocks of its own; loads, stores and new blocks over it. Nothing of the program. -/
import Derived.Test.YtokpdecpmcbcpaaStp
namespace Go.Proofs.Ytokpdecpmcbcpaa
open Go.RowKit Go.Proofs.YtokpdecpmcbcpaaW.PrintWords Go.Proofs.YtokpdecpmcbcpaaW.PrintLast Go.Proofs.YtokpdecpmcbcpaaW.PrintMore
set_option linter.unusedVariables false
set_option linter.unusedSimpArgs false

/-- What holds of some blocks, and goes on to hold while these stay as they are. -/
structure Res where
  fp : Nat → Prop
  ok : World → Prop
  lt : ∀ w, ok w → ∀ k, fp k → k < w.heap.size
  st : ∀ w w', ok w → (∀ k, fp k → w'.heap[k]? = w.heap[k]?) → ok w'
/-- Since W0 only blocks of S0 and new ones turned; the resources hold, none shares a block with another. -/
structure Hp (S0 : Nat → Prop) (W0 w : World) (rs : List Res) : Prop where
  chg : Chg S0 W0 w
  ok : ∀ r ∈ rs, r.ok w
  own : ∀ r ∈ rs, ∀ k, r.fp k → S0 k ∨ W0.heap.size ≤ k
  sep : rs.Pairwise fun r r' => ∀ k, r.fp k → ¬ r'.fp k
/-- A block known whole. -/
def blk (g : Nat) (cs : List Value) (t : TypeId) : Res where
  fp k := k = g
  ok w := w.heap[g]? = some (.cells cs.toArray t (0, 0))
  lt w h k hk := by subst hk; exact blk_lt h
  st w w' h hm := (hm g rfl).trans h
section
variable {S0 : Nat → Prop} {W0 w w1 : World} {rs : List Res}
theorem Hp.start (S0 : Nat → Prop) (W0 : World) : Hp S0 W0 W0 [] := ⟨Chg.refl _ _, by simp, by simp, .nil⟩
theorem Hp.start1 {S0 : Nat → Prop} {W0 : World} (r : Res) (hr : r.ok W0) (hf : ∀ k, r.fp k → S0 k) : Hp S0 W0 W0 [r] :=
  ⟨Chg.refl _ _, by simpa using hr, fun q hq k hk => by rw [List.mem_singleton.1 hq] at hk; exact .inl (hf k hk), by simp⟩
theorem Hp.size (h : Hp S0 W0 w rs) : W0.heap.size ≤ w.heap.size := h.chg.size
theorem Hp.get (h : Hp S0 W0 w rs) (i : Nat) {r : Res} (hi : rs[i]? = some r) : r.ok w := h.ok r (List.mem_of_getElem? hi)
theorem Hp.below (h : Hp S0 W0 w rs) (hb : Below w.heap.size w w1) : Hp S0 W0 w1 rs :=
  ⟨h.chg.trans (Chg.of_below (S := fun _ => False) hb) (fun _ h => h.elim), fun r hr => r.st w w1 (h.ok r hr) (fun k hk => hb.block k (r.lt w (h.ok r hr) k hk)), h.own, h.sep⟩
theorem Hp.drew (h : Hp S0 W0 w rs) : Hp S0 W0 w.drew rs := h.below (below_drew (Below.refl _ _))
theorem Hp.drewN (h : Hp S0 W0 w rs) (m : Nat) : Hp S0 W0 (w.drewN m) rs := h.below (pw_below_drewN (Below.refl _ _) m)
theorem Hp.add (h : Hp S0 W0 w rs) (hb : Below w.heap.size w w1) (r : Res) (hr : r.ok w1) (hf : ∀ k, r.fp k → w.heap.size ≤ k) : Hp S0 W0 w1 (r :: rs) := by
  have h1 := h.below hb
  refine ⟨h1.chg, fun q hq => ?_, fun q hq k hk => ?_, List.pairwise_cons.2 ⟨fun q hq k hk hk2 => ?_, h1.sep⟩⟩
  · rcases List.mem_cons.1 hq with rfl | hq
    · exact hr
    · exact h1.ok q hq
  · rcases List.mem_cons.1 hq with rfl | hq
    · exact .inr (Nat.le_trans h.size (hf k hk))
    · exact h1.own q hq k hk
  · have := q.lt w (h.ok q hq) k hk2
    have := hf k hk
    omega
/-- An event that turns blocks of resource i alone (and makes new ones); r' is what holds of it then. -/
theorem Hp.upd (h : Hp S0 W0 w rs) (i : Nat) {r : Res} (hi : rs[i]? = some r) (hc : Chg r.fp w w1) (r' : Res) (hr : r'.ok w1) (hf : ∀ k, r'.fp k → r.fp k ∨ w.heap.size ≤ k) : Hp S0 W0 w1 (rs.set i r') := by
  obtain ⟨hil, hie⟩ := List.getElem?_eq_some_iff.1 hi
  have hsep := h.sep
  rw [List.pairwise_iff_getElem] at hsep
  have hother : ∀ j (hj : j < rs.length), j ≠ i → ∀ k, rs[j].fp k → ¬ r.fp k := by
    intro j hj hne k hk hk2
    rw [← hie] at hk2
    rcases Nat.lt_or_ge j i with hlt | hge
    · exact hsep j i hj hil hlt k hk hk2
    · exact hsep i j hil hj (by omega) k hk2 hk
  have hlt : ∀ j (hj : j < rs.length), ∀ k, rs[j].fp k → k < w.heap.size := fun j hj k hk => rs[j].lt w (h.ok _ (List.getElem_mem hj)) k hk
  have hget : ∀ j (hj : j < (rs.set i r').length), (rs.set i r')[j] = if i = j then r' else rs[j]'(by simpa using hj) := fun j hj => by rw [List.getElem_set]
  refine ⟨h.chg.trans hc (fun k hk => h.own r (List.mem_of_getElem? hi) k hk), fun q hq => ?_, fun q hq k hk => ?_, ?_⟩
  · obtain ⟨j, hj, rfl⟩ := List.getElem_of_mem hq
    rw [hget]
    split
    · exact hr
    · rename_i hne
      have hj' : j < rs.length := by simpa using hj
      exact rs[j].st w w1 (h.ok _ (List.getElem_mem hj')) (fun k hk => hc.block k (hlt j hj' k hk) (hother j hj' (fun e => hne e.symm) k hk))
  · obtain ⟨j, hj, rfl⟩ := List.getElem_of_mem hq
    rw [hget] at hk
    split at hk
    · rcases hf k hk with h1 | h1
      · exact h.own r (List.mem_of_getElem? hi) k h1
      · exact .inr (Nat.le_trans h.size h1)
    · exact h.own _ (List.getElem_mem _) k hk
  · rw [List.pairwise_iff_getElem]
    intro a b ha hb hab k hk hk2
    rw [hget] at hk hk2
    have ha' : a < rs.length := by simpa using ha
    have hb' : b < rs.length := by simpa using hb
    split at hk
    · rename_i hia
      split at hk2
      · omega
      · rename_i hib
        rcases hf k hk with h1 | h1
        · exact hother b hb' (fun e => hib e.symm) k hk2 h1
        · have := hlt b hb' k hk2; omega
    · rename_i hia
      split at hk2
      · rcases hf k hk2 with h1 | h1
        · exact hother a ha' (fun e => hia e.symm) k hk h1
        · have := hlt a ha' k hk; omega
      · exact hsep a b ha' hb' hab k hk hk2
/-- An event that turns blocks of resource i, and what it made beside. -/
theorem Hp.upd2 (h : Hp S0 W0 w rs) (i : Nat) {r : Res} (hi : rs[i]? = some r) (hc : Chg r.fp w w1) (r' q : Res) (hr : r'.ok w1) (hq : q.ok w1) (hf : ∀ k, r'.fp k → r.fp k) (hfq : ∀ k, q.fp k → w.heap.size ≤ k) : Hp S0 W0 w1 (q :: rs.set i r') := by
  have h1 := h.upd i hi hc r' hr (fun k hk => .inl (hf k hk))
  refine ⟨h1.chg, fun p hp => ?_, fun p hp k hk => ?_, List.pairwise_cons.2 ⟨fun p hp k hk hk2 => ?_, h1.sep⟩⟩
  · rcases List.mem_cons.1 hp with rfl | hp
    · exact hq
    · exact h1.ok p hp
  · rcases List.mem_cons.1 hp with rfl | hp
    · exact .inr (Nat.le_trans h.size (hfq k hk))
    · exact h1.own p hp k hk
  · have h2 : k < w.heap.size := by
      obtain ⟨j, hj, rfl⟩ := List.getElem_of_mem hp
      rw [List.getElem_set] at hk2
      split at hk2
      · exact r.lt w (h.get i hi) k (hf k hk2)
      · exact Res.lt _ w (h.ok _ (List.getElem_mem _)) k hk2
    have := hfq k hk
    omega
/-- The same of resource i in other words. -/
theorem Hp.imp (h : Hp S0 W0 w rs) (i : Nat) {r : Res} (hi : rs[i]? = some r) (r' : Res) (hr : r.ok w → r'.ok w) (hf : ∀ k, r'.fp k → r.fp k) : Hp S0 W0 w (rs.set i r') :=
  h.upd i hi (Chg.refl _ _) r' (hr (h.get i hi)) (fun k hk => .inl (hf k hk))
/-- Some of the resources, in whatever order. -/
theorem Hp.sel (h : Hp S0 W0 w rs) (is : List Nat) (hnd : is.Nodup) : Hp S0 W0 w (is.filterMap (rs[·]?)) := by
  have hsep := h.sep
  rw [List.pairwise_iff_getElem] at hsep
  have hmem : ∀ r ∈ is.filterMap (rs[·]?), r ∈ rs := fun r hr => by
    obtain ⟨i, _, hi⟩ := List.mem_filterMap.1 hr
    exact List.mem_of_getElem? hi
  refine ⟨h.chg, fun r hr => h.ok r (hmem r hr), fun r hr => h.own r (hmem r hr), ?_⟩
  rw [List.pairwise_filterMap]
  refine hnd.imp ?_
  intro a b hab r hr r' hr' k hk hk'
  obtain ⟨ha, rfl⟩ := List.getElem?_eq_some_iff.1 hr
  obtain ⟨hb, rfl⟩ := List.getElem?_eq_some_iff.1 hr'
  rcases Nat.lt_or_ge a b with hlt | hge
  · exact hsep a b ha hb hlt k hk hk'
  · exact hsep b a hb ha (by omega) k hk' hk
/-- What held of W0's other blocks holds. -/
theorem Hp.cell (h : Hp S0 W0 w rs) {a : Addr} {v : Value} (hc : W0.cell? a = some v) (hn : ¬ S0 a.block) : w.cell? a = some v := by
  have hlt := World.block_lt_of_cell? W0 a hc
  have := h.chg.block a.block hlt hn
  exact (World.cell?_of_block this).trans hc
/-- What a callee made, beside what was there. -/
theorem Hp.join {rs' : List Res} (h : Hp S0 W0 w rs) (h' : Hp (fun _ => False) w w1 rs') : Hp S0 W0 w1 (rs' ++ rs) := by
  have hb : Below w.heap.size w w1 := h'.chg.to_below (fun _ h => h)
  have h1 := h.below hb
  refine ⟨h1.chg, fun r hr => ?_, fun r hr k hk => ?_, List.pairwise_append.2 ⟨h'.sep, h1.sep, fun a ha b hbm k hk hk2 => ?_⟩⟩
  · rcases List.mem_append.1 hr with h2 | h2
    · exact h'.ok r h2
    · exact h1.ok r h2
  · rcases List.mem_append.1 hr with h2 | h2
    · rcases h'.own r h2 k hk with h3 | h3
      · exact h3.elim
      · exact .inr (Nat.le_trans h.size h3)
    · exact h1.own r h2 k hk
  · rcases h'.own a ha k hk with h3 | h3
    · exact h3.elim
    · have := b.lt w (h.ok b hbm) k hk2; omega
theorem Hp.to_below (h : Hp (fun _ => False) W0 w rs) : Below W0.heap.size W0 w := h.chg.to_below (fun _ h => h)
/-- A new base: since here. -/
theorem Hp.rebase (h : Hp S0 W0 w rs) : Hp (fun k => ∃ r ∈ rs, r.fp k) w w rs := ⟨Chg.refl _ _, h.ok, fun r hr k hk => .inl ⟨r, hr, hk⟩, h.sep⟩
end

/-! ### Cells at an address -/
def At (w : World) (ad : Addr) (seg : List Value) : Prop := ∀ j v, seg[j]? = some v → w.cell? (ad.add j) = some v
section
variable {w w1 : World} {ad : Addr} {seg : List Value}
theorem At.blk {g : Nat} {cs : List Value} {t : TypeId} (h : (blk g cs t).ok w) (i : Nat) : At w ⟨g, i, none⟩ (cs.drop i) := fun j v hv => by
  have hadd : (⟨g, i, none⟩ : Addr).add j = ⟨g, i + j, none⟩ := by unfold Addr.add; split <;> simp_all
  rw [hadd, cell_of_row w g (i + j) cs.toArray t (0, 0) h]
  rw [List.getElem?_drop] at hv
  simpa using hv
theorem At.field (h : At w ad seg) (i : Nat) : At w (ad.add i) (seg.drop i) := fun j v hv => by
  rw [add_add]
  exact h (i + j) v (by rw [List.getElem?_drop] at hv; exact hv)
theorem At.below (h : At w ad seg) (hb : Below w.heap.size w w1) : At w1 ad seg := fun j v hv => pw_cell_below hb (h j v hv)
theorem At.hp {S0 : Nat → Prop} {W0 : World} {rs : List Res} (h : At W0 ad seg) (H : Hp S0 W0 w rs) (hn : ¬ S0 ad.block) : At w ad seg := fun j v hv => H.cell (h j v hv) (by rw [add_block]; exact hn)
/-- What a load of type t yields there. -/
def ldV (P : Program) (t : TypeId) (seg : List Value) : Option Value :=
  match P.underlying t, P.info? t with
  | some (.struct _), some i => match Nat.ble i.size seg.length with
    | true => some (.agg (seg.take i.size).toArray)
    | false => none
  | some (.array _ _), some i => match Nat.ble i.size seg.length with
    | true => some (.agg (seg.take i.size).toArray)
    | false => none
  | some _, some _ => seg.head?
  | _, _ => none
variable {P : Program} {n : Nat} {L : Nat → Value} {ps : List (Nat × Value)} {o : Oper}
theorem run_loadAt {t : TypeId} {v : Value} (h : At w ad seg) (hv : ldV P t seg = some v) : (Instr.loadAt t (.pointer (some ad))).run P w = .ok v w := by
  simp only [ldV] at hv
  have hl : ∀ k, k ≤ seg.length → (loadCells ad k).run P w = .ok (seg.take k).toArray w := fun k hk => by
    have := run_loadCells_list (P := P) w ad (seg.take k) (fun j v hj => by
      rw [List.getElem?_take] at hj
      split at hj
      · exact h j v hj
      · cases hj)
    rwa [List.length_take, Nat.min_eq_left hk] at this
  have h0 : ∀ v, seg.head? = some v → w.cell? ad = some v := fun v hv => by
    have := h 0 v (by rw [← List.head?_eq_getElem?]; exact hv)
    rwa [show ad.add 0 = ad from by simp [Addr.add]] at this
  cases hu : P.underlying t with
  | none => simp [hu] at hv
  | some d =>
    cases hi : P.info? t with
    | none => rw [hu, hi] at hv; cases d <;> simp at hv
    | some inf =>
      rw [hu, hi] at hv
      cases d with
      | struct fs =>
        simp only at hv
        split at hv
        · rename_i hs
          have hs' : inf.size ≤ seg.length := by simpa [Nat.ble_eq] using hs
          injection hv with hv
          subst hv
          have hagg : (isAgg t).run P w = .ok true w := by unfold isAgg; rw [Sem.run_bind, run_underlying hu w]; simp
          simp [Instr.loadAt, Instr.sureAddr, loadVar, Sem.run_bind, hagg, sizeOf, typeInfo, hi, hl _ hs']
        · cases hv
      | array k e =>
        simp only at hv
        split at hv
        · rename_i hs
          have hs' : inf.size ≤ seg.length := by simpa [Nat.ble_eq] using hs
          injection hv with hv
          subst hv
          have hagg : (isAgg t).run P w = .ok true w := by unfold isAgg; rw [Sem.run_bind, run_underlying hu w]; simp
          simp [Instr.loadAt, Instr.sureAddr, loadVar, Sem.run_bind, hagg, sizeOf, typeInfo, hi, hl _ hs']
        · cases hv
      | _ =>
        all_goals
          have hagg : (isAgg t).run P w = .ok false w := by unfold isAgg; rw [Sem.run_bind, run_underlying hu w]; simp
          simp [Instr.loadAt, Instr.sureAddr, loadVar, Sem.run_bind, hagg, load, Sem.run, h0 v hv]
/-- A load. -/
theorem run_ld {t : TypeId} {x : Operand} {v : Value} (ho : o.op = .load t x) (hx : evF n L ps x = .pointer (some ad)) (h : At w ad seg) (hv : ldV P t seg = some v) : (execOp (evF n L ps) o).run P w = .ok (.value v) w := by
  unfold execOp
  simp only [ho, hx, Sem.run_bind, run_loadAt h hv, Result.andThen_ok, Sem.run_pure]
end

/-! ### Events over memory -/
section
variable {P : Program} {ops : Array Oper} {Q : Exit → Act → World → Prop} {o : Oper} {K : Act → World → Prop} {n : Nat} {L : Nat → Value} {ps : List (Nat × Value)} {w : World} {S0 : Nat → Prop} {W0 : World} {rs : List Res}
/-- A new block. -/
theorem ev_new {d : Nat} {cs : List Value} {t : TypeId} (hw : Region.wanted o (yielded ops (Fr n L ps).tmps) = true) (hd : o.dst = some d) (H : Hp S0 W0 w rs) (hrun : (execOp (evF n L ps) o).run P w = .ok (.value (.pointer (some ⟨w.heap.size, 0, none⟩))) (w.alloc (.cells cs.toArray t (0, 0))))
    (h : ∀ g w1, Hp S0 W0 w1 (blk g cs t :: rs) → w.heap.size ≤ g → Below w.heap.size w w1 → K (Fr n L ((d, .pointer (some ⟨g, 0, none⟩)) :: ps)) w1) : OpW P ops Q o (Fr n L ps) w K :=
  ev_run hw hd hrun (h _ _ (H.add (below_alloc (Below.refl _ _) _) (blk w.heap.size cs t) (blk_new w _) (fun k hk => Nat.le_of_eq hk.symm)) (Nat.le_refl _) (below_alloc (Below.refl _ _) _))
/-- A new row (a slice's literal), or an empty one. -/
theorem ev_newRow {d : Nat} {cs : List Value} {t : TypeId} {len : Nat} (hw : Region.wanted o (yielded ops (Fr n L ps).tmps) = true) (hd : o.dst = some d) (H : Hp S0 W0 w rs) (hrun : (execOp (evF n L ps) o).run P w = .ok (.value (.slice (some ⟨w.heap.size, 0, none⟩) len len)) (w.alloc (.cells cs.toArray t (0, 0))))
    (h : ∀ g w1, Hp S0 W0 w1 (blk g cs t :: rs) → w.heap.size ≤ g → Below w.heap.size w w1 → K (Fr n L ((d, .slice (some ⟨g, 0, none⟩) len len) :: ps)) w1) : OpW P ops Q o (Fr n L ps) w K :=
  ev_run hw hd hrun (h _ _ (H.add (below_alloc (Below.refl _ _) _) (blk w.heap.size cs t) (blk_new w _) (fun k hk => Nat.le_of_eq hk.symm)) (Nat.le_refl _) (below_alloc (Below.refl _ _) _))
/-- A store into a block known whole. -/
theorem ev_store {t : TypeId} {p x : Operand} {k g i : Nat} {cs : List Value} {ty : TypeId} (hw : Region.wanted o (yielded ops (Fr n L ps).tmps) = true) (hN : o.dst = none) (ho : o.op = .store t p x) (H : Hp S0 W0 w rs) (hk : rs[k]? = some (blk g cs ty))
    (haddr : evF n L ps p = .pointer (some ⟨g, i, none⟩)) (u : Value) (hx : evF n L ps x = u) (seg : List Value) (hu : u.cells.toList = seg) (ht : (P.info? t).map (·.size) = some seg.length) (hfit : Nat.ble (i + seg.length) cs.length = true) (h1 : seg.all (·.oneCell') = true)
    (cs' : List Value) (hc : cs.take i ++ seg ++ cs.drop (i + seg.length) = cs')
    (h : ∀ w1, Hp S0 W0 w1 (rs.set k (blk g cs' ty)) → Chg (fun q => q = g) w w1 → K (Fr n L ps) w1) : OpW P ops Q o (Fr n L ps) w K :=
  ⟨store_step (Kc := K) hw hN t p x ho (H.get k hk) (by rw [Fr_eval]; exact haddr) u (by rw [Fr_eval]; exact hx) seg hu ht (by simpa [Nat.ble_eq] using hfit) (fun q hq => List.all_eq_true.1 h1 q hq) cs' (by simpa using hc)
    (fun w1 hb hcg => h w1 (H.upd k hk hcg (blk g cs' ty) hb (fun q hq => .inl hq)) hcg)⟩
end
/-! ### What a body hands back -/
section
variable {P : Program} {n : Nat} {L : Nat → Value} {ps : List (Nat × Value)} {w : World} {fn : Func}
inductive ValsF (P : Program) (n : Nat) (L : Nat → Value) (ps : List (Nat × Value)) (w : World) : List ResultVar → List Value → Prop where
  | nil : ValsF P n L ps w [] []
  | tmp {u : Tmp} {v : Value} {rs : List ResultVar} {vs : List Value} (hv : evF n L ps (.tmp u) = v) (h : ValsF P n L ps w rs vs) : ValsF P n L ps w (.tmp u :: rs) (v :: vs)
  | cell {p : Tmp} {ty : TypeId} {v : Value} {rs : List ResultVar} {vs : List Value} (ad : Addr) (seg : List Value) (hp : evF n L ps (.tmp p) = .pointer (some ad)) (ha : At w ad seg) (hl : ldV P ty seg = some v)
      (h : ValsF P n L ps w rs vs) : ValsF P n L ps w (.cell p ty :: rs) (v :: vs)
theorem valsF_run {rs : List ResultVar} {vs : List Value} (hv : ValsF P n L ps w rs vs) (f : ResultVar → Sem Value) (hf : ∀ u, f (.tmp u) = pure ((Fr n L ps).tmps.getD u undef)) (hc : ∀ a t, f (.cell a t) = (do loadVar t (← asAddr ((Fr n L ps).tmps.getD a undef)))) :
    (rs.mapM f).run P w = .ok vs w := by
  induction hv with
  | nil => simp
  | tmp hv h ih =>
    rw [List.mapM_cons, hf, Fr_tmp, hv]
    simp [ih]
  | cell ad seg hp ha hl h ih =>
    have hld := run_loadAt (P := P) ha hl
    simp only [Instr.loadAt, Instr.sureAddr, Sem.run_bind, Sem.run_pure, Result.andThen_ok] at hld
    rw [List.mapM_cons, hc, Fr_tmp, hp]
    simp [asAddr, hld, ih]
theorem resL {rs : List ResultVar} {vs : List Value} (h : fn.results = rs.toArray) (hl : vs.length ≠ 1) (hv : ValsF P n L ps w rs vs) : (results fn (Fr n L ps).tmps).run P w = .ok (.tuple vs.toArray) w := by
  unfold results
  rw [h, List.mapM_toArray]
  simp only [Sem.run_bind, Sem.run_map]
  rw [valsF_run hv]
  · simp [hl]
  · intro u; rfl
  · intro a t; rfl
theorem resS {r : ResultVar} {v : Value} (h : fn.results = #[r]) (hv : ValsF P n L ps w [r] [v]) : (results fn (Fr n L ps).tmps).run P w = .ok v w := by
  unfold results
  rw [show fn.results = [r].toArray from h, List.mapM_toArray]
  simp only [Sem.run_bind, Sem.run_map]
  rw [valsF_run hv]
  · simp
  · intro u; rfl
  · intro a t; rfl
end
end Go.Proofs.Ytokpdecpmcbcpaa
