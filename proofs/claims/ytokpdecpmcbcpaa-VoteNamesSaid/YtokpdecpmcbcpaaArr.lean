/- Arrays of words as blocks; slices cut; copies within a block. Nothing of the program. -/
import Derived.Test.YtokpdecpmcbcpaaLst
import Derived.Laws.CopyRow
import Derived.Lib.AppendZeros
namespace Go.Proofs.Ytokpdecpmcbcpaa
open Go.RowKit Go.Proofs.YtokpdecpmcbcpaaW.PrintWords Go.Proofs.YtokpdecpmcbcpaaW.PrintLast Go.Proofs.YtokpdecpmcbcpaaW.PrintMore
set_option linter.unusedVariables false
set_option linter.unusedSimpArgs false
/-- Words as cells. -/
def wds (ws : List Int) : List Value := ws.map (Value.int .u32)
theorem wds_length (ws : List Int) : (wds ws).length = ws.length := by simp [wds]
theorem wds_get (ws : List Int) (i : Nat) (hi : i < ws.length) : (wds ws)[i]? = some (.int .u32 (ws.getD i 0)) := by
  simp [wds, List.getElem?_eq_getElem hi, List.getD_eq_getElem?_getD]
section
variable {w : World} {g t : Nat} {ws : List Int} {tl : List Value}
theorem At_arrK (h : (blk g (wds ws ++ tl) t).ok w) (i : Nat) (hi : i < ws.length) : At w ⟨g, i, none⟩ [.int .u32 (ws.getD i 0)] := fun j u hu => by
  have hA := At.blk h i
  match j, hu with
  | 0, hu =>
    refine hA 0 u ?_
    rw [List.getElem?_drop, Nat.add_zero, List.getElem?_append_left (by rw [wds_length]; exact hi), wds_get ws i hi]
    exact hu
  | j + 1, hu => simp at hu
theorem At_arr (h : (blk g (wds ws ++ tl) t).ok w) (i : Nat) (hi : i < ws.length) : At w ((⟨g, 0, none⟩ : Addr).add (i * 1)) [.int .u32 (ws.getD i 0)] := by
  rw [add_plain, Nat.mul_one]; exact At_arrK h i hi
theorem At_arr0 (h : (blk g (wds ws) t).ok w) (i : Nat) (hi : i < ws.length) : At w ((⟨g, 0, none⟩ : Addr).add (i * 1)) [.int .u32 (ws.getD i 0)] := At_arr (tl := []) (by rw [List.append_nil]; exact h) i hi
theorem At_arrK0 (h : (blk g (wds ws) t).ok w) (i : Nat) (hi : i < ws.length) : At w ⟨g, i, none⟩ [.int .u32 (ws.getD i 0)] := At_arrK (tl := []) (by rw [List.append_nil]; exact h) i hi
end
theorem set_cells (ws : List Int) (tl : List Value) (j : Nat) (y : Int) (hj : j < ws.length) : (wds ws ++ tl).take j ++ [Value.int .u32 y] ++ (wds ws ++ tl).drop (j + 1) = wds (ws.set j y) ++ tl := by
  rw [List.take_append_of_le_length (by rw [wds_length]; omega), List.drop_append_of_le_length (by rw [wds_length]; omega)]
  rw [show wds (ws.set j y) = (wds ws).set j (.int .u32 y) by simp [wds], List.set_eq_take_append_cons_drop, if_pos (by rw [wds_length]; exact hj)]
  simp
section
variable {P : Program} {ops : Array Oper} {Q : Exit → Act → World → Prop} {o : Oper} {K : Act → World → Prop} {n : Nat} {L : Nat → Value} {ps : List (Nat × Value)} {w : World} {S0 : Nat → Prop} {W0 : World} {rs : List Res}
/-- A word stored into an array. -/
theorem ev_setarr {t : TypeId} {p x : Operand} {k g j : Nat} {ws : List Int} {tl : List Value} {ty : TypeId} {y : Int} (hw : Region.wanted o (yielded ops (Fr n L ps).tmps) = true) (hN : o.dst = none) (ho : o.op = .store t p x) (H : Hp S0 W0 w rs) (hk : rs[k]? = some (blk g (wds ws ++ tl) ty))
    (haddr : evF n L ps p = .pointer (some ((⟨g, 0, none⟩ : Addr).add (j * 1)))) (hx : evF n L ps x = .int .u32 y) (ht : (P.info? t).map (·.size) = some 1) (hj : j < ws.length)
    (h : ∀ w1, Hp S0 W0 w1 (rs.set k (blk g (wds (ws.set j y) ++ tl) ty)) → Chg (fun q => q = g) w w1 → K (Fr n L ps) w1) : OpW P ops Q o (Fr n L ps) w K := by
  rw [add_plain, Nat.mul_one] at haddr
  exact ev_store hw hN ho H hk haddr (.int .u32 y) hx [.int .u32 y] rfl ht (by simp [Nat.ble_eq, wds_length]; omega) rfl _ (set_cells ws tl j y hj) h
theorem ev_setarr0 {t : TypeId} {p x : Operand} {k g j : Nat} {ws : List Int} {ty : TypeId} {y : Int} (hw : Region.wanted o (yielded ops (Fr n L ps).tmps) = true) (hN : o.dst = none) (ho : o.op = .store t p x) (H : Hp S0 W0 w rs) (hk : rs[k]? = some (blk g (wds ws) ty))
    (haddr : evF n L ps p = .pointer (some ((⟨g, 0, none⟩ : Addr).add (j * 1)))) (hx : evF n L ps x = .int .u32 y) (ht : (P.info? t).map (·.size) = some 1) (hj : j < ws.length)
    (h : ∀ w1, Hp S0 W0 w1 (rs.set k (blk g (wds (ws.set j y)) ty)) → Chg (fun q => q = g) w w1 → K (Fr n L ps) w1) : OpW P ops Q o (Fr n L ps) w K :=
  ev_setarr (tl := []) hw hN ho H (by rw [List.append_nil]; exact hk) haddr hx ht hj (fun w1 H1 => h w1 (by rw [List.append_nil] at H1; exact H1))
/-- copy within a block known whole. -/
theorem ev_copyblk {d : Nat} {s x : Operand} {t e : TypeId} {k g i j m c1 c2 : Nat} {cs : List Value} {ty : TypeId} (hw : Region.wanted o (yielded ops (Fr n L ps).tmps) = true) (hd : o.dst = some d) (ho : o.op = .call { callee := .builtin .copy, args := #[s, x], argTypes := #[t, t] }) (H : Hp S0 W0 w rs) (hk : rs[k]? = some (blk g cs ty))
    (hs : evF n L ps s = .slice (some ⟨g, i, none⟩) m c1) (hx : evF n L ps x = .slice (some ⟨g, j, none⟩) m c2) (hu : P.underlying t = some (.slice e)) (hz : (P.info? e).map (·.size) = some 1) (seg : List Value) (hseg : (cs.drop j).take m = seg) (hm : seg.length = m) (hfit : Nat.ble (i + m) cs.length = true) (h1 : seg.all (·.oneCell') = true)
    (cs' : List Value) (hc : cs.take i ++ seg ++ cs.drop (i + seg.length) = cs')
    (h : ∀ w1, Hp S0 W0 w1 (rs.set k (blk g cs' ty)) → Chg (fun q => q = g) w w1 → K (Fr n L ((d, .int .i64 (m : Int)) :: ps)) w1) : OpW P ops Q o (Fr n L ps) w K := by
  have hb := H.get k hk
  have hfit' : i + m ≤ cs.length := by simpa [Nat.ble_eq] using hfit
  have hin : ∀ q, q < seg.length → ∃ v, w.cell? ⟨g, i + q, none⟩ = some v := fun q hq => by
    have hq' : i + q < cs.length := by omega
    have := At.blk hb (i + q) 0 cs[i + q] (by rw [List.getElem?_drop, Nat.add_zero, List.getElem?_eq_getElem hq'])
    rw [show (⟨g, i + q, none⟩ : Addr).add 0 = ⟨g, i + q, none⟩ by unfold Addr.add; split <;> simp_all] at this
    exact ⟨_, this⟩
  have hrc := run_copy_cells (P := P) w t t o.type e g i m c1 ⟨g, j, none⟩ m c2 seg hu hz (by rw [hm]; exact (Nat.min_self m).symm) (fun q v hv => by
      refine At.blk hb j q v ?_
      rw [← hseg, List.getElem?_take] at hv
      split at hv
      · exact hv
      · cases hv) (fun q hq => by obtain ⟨v, hv⟩ := hin q hq; rw [hv]; rfl) (fun q hq => by simp [World.frozen?, show w.heap[g]? = _ from hb]) (fun v hv => List.all_eq_true.1 h1 v hv)
  rw [hm] at hrc
  have hrun : (execOp (evF n L ps) o).run P w = .ok (.value (.int .i64 (m : Int))) (w.setCells g i seg) := by
    unfold execOp
    simp only [ho, resolve, invoke, builtin, Sem.run_bind, Sem.run_pure, Result.andThen_ok, List.map_toArray, List.map_cons, List.map_nil, hs, hx, hrc]
    rfl
  have hrow := setCells_row (e := ty) seg i w cs.toArray hb (by simpa [hm] using hfit')
  have hsame := setCells_same g seg i w
  have hcg : Chg (fun q => q = g) w (w.setCells g i seg) := ⟨hsame.1, hsame.2.1, hsame.2.2.1, by rw [hsame.2.2.2]; exact Nat.le_refl _, fun k _ hk => setCells_far seg i k hk⟩
  refine ev_run hw hd hrun (h _ (H.upd k hk hcg (blk g cs' ty) ?_ (fun q hq => .inl hq)) hcg)
  obtain ⟨cur2, hr, _, hl⟩ := hrow
  have he : cur2 = cs'.toArray := by rw [← hc, ← hl]
  show (w.setCells g i seg).heap[g]? = _
  rw [hr, he]
/-- Shifts of whole numbers. -/
theorem run_shr {t t2 : TypeId} {x y : Operand} {k yk : IntKind} {a b : Int} (ho : o.op = .binOp .shr t x y t2) (hx : evF n L ps x = .int k a) (hy : evF n L ps y = .int yk b) (hb : 0 ≤ b) : (execOp (evF n L ps) o).run P w = .ok (.value (.int k (shr k a b))) w := by
  unfold execOp
  have h1 : ∀ m : Nat, a.fdiv (2 ^ m) = a / 2 ^ m := fun m => Int.fdiv_eq_ediv_of_nonneg a (by
    have : (0 : Int) < 2 ^ m := Int.pow_pos (by omega)
    omega)
  simp [ho, hx, hy, eqGuard, binOp, Op.shift, shr, Sem.run_bind, show ¬ b < 0 by omega, h1]
theorem run_shl {t t2 : TypeId} {x y : Operand} {k yk : IntKind} {a b : Int} (ho : o.op = .binOp .shl t x y t2) (hx : evF n L ps x = .int k a) (hy : evF n L ps y = .int yk b) (hb : 0 ≤ b) : (execOp (evF n L ps) o).run P w = .ok (.value (.int k (shl k a b))) w := by
  unfold execOp
  simp [ho, hx, hy, eqGuard, binOp, Op.shift, shl, Sem.run_bind, show ¬ b < 0 by omega]
/-- s[:h], s[l:]. -/
theorem run_slhi {t : TypeId} {x hi : Operand} {A : Option Addr} {len cap q sz : Nat} {e : TypeId} {k : IntKind} {z : Int} (ho : o.op = .slice t x none (some hi) none) (hx : evF n L ps x = .slice A len cap) (hh : evF n L ps hi = .int k z) (hu : P.underlying t = some (.slice e)) (hs : (P.info? e).map (·.size) = some sz) (hz : z = (q : Int)) (hq : q ≤ cap) :
    (execOp (evF n L ps) o).run P w = .ok (.value (.slice A q cap)) w := by
  subst hz
  obtain ⟨inf, hinf, hsz⟩ := Option.map_eq_some_iff.1 hs
  unfold execOp
  have h2 : (0 : Int) ≤ (q : Int) ∧ (q : Int) ≤ (cap : Int) := by omega
  have h3 : (if cap = 0 then A else Option.map (fun x => x.add 0) A) = A := by
    split
    · rfl
    · cases A with
      | none => rfl
      | some a => show some (a.add 0) = some a; unfold Addr.add; split <;> simp_all
  simp [ho, hx, hh, Instr.sliceAt, Instr.slice, Instr.sliceBounds, Instr.sliceBound, asIntOf, Sem.run_bind, run_underlying hu, sizeOf, typeInfo, hinf, hsz, h2, h3]
  intro h; omega
theorem run_sllo {t : TypeId} {x lo : Operand} {A : Option Addr} {len cap q sz : Nat} {e : TypeId} {k : IntKind} {z : Int} (ho : o.op = .slice t x (some lo) none none) (hx : evF n L ps x = .slice A len cap) (hh : evF n L ps lo = .int k z) (hu : P.underlying t = some (.slice e)) (hs : (P.info? e).map (·.size) = some sz) (hz : z = (q : Int)) (hq : q ≤ len) :
    (execOp (evF n L ps) o).run P w = .ok (.value (.slice (if cap = q then A else A.map (·.add (q * sz))) (len - q) (cap - q))) w := by
  subst hz
  obtain ⟨inf, hinf, hsz⟩ := Option.map_eq_some_iff.1 hs
  unfold execOp
  have h2 : (0 : Int) ≤ (q : Int) ∧ (q : Int) ≤ (len : Int) := by omega
  simp [ho, hx, hh, Instr.sliceAt, Instr.slice, Instr.sliceBounds, Instr.sliceBound, asIntOf, Sem.run_bind, run_underlying hu, sizeOf, typeInfo, hinf, hsz, h2]
  intro h; omega
end
/-- A row cut to nothing, its room kept. -/
theorem rowR_cut0 {e sz g n c : Nat} {rows : List (List Value)} {w : World} (h : (rowR e sz (some ⟨g, 0, none⟩) n c rows).ok w) : (rowR e sz (some ⟨g, 0, none⟩) 0 c []).ok w := by
  obtain ⟨h0, inner, ⟨hl, ho⟩, hr⟩ := h
  refine ⟨fun _ _ => trivial, [], ⟨by simp, ?_⟩, ⟨by simp, fun j p hj => by simp at hj⟩⟩
  rcases ho with ⟨hv, _⟩ | ⟨g', cap, cur, hv, hb, hg, hn, hm, hs, ht⟩
  · cases hv
  · injection hv with h1 h2 h3
    injection h1 with h1
    injection h1 with h1
    subst h1; subst h3
    exact .inr ⟨g, c, cur, rfl, hb, hg, Nat.zero_le _, hm, hs, by simp⟩
theorem row_zeros {e g c : Nat} {cur : Array Value} {w : World} (hg : w.heap[g]? = some (.cells cur e (0, 0))) (hs : cur.size = c) (hm : c ≤ 9223372036854775807) : (rowR e 1 (some ⟨g, 0, none⟩) 0 c []).ok w :=
  ⟨fun _ _ => trivial, [], ⟨by simp, .inr ⟨g, c, cur, rfl, Nat.zero_le _, hg, Nat.zero_le _, by unfold maxLen; omega, by rw [hs]; exact (Nat.mul_one _).symm, by simp⟩⟩, ⟨by simp, fun j p hj => by simp at hj⟩⟩
section
variable {P : Program} {ops : Array Oper} {Q : Exit → Act → World → Prop} {o : Oper} {K : Act → World → Prop} {n : Nat} {L : Nat → Value} {ps : List (Nat × Value)} {w : World} {S0 : Nat → Prop} {W0 : World} {rs : List Res}
/-- append(nil, make([]T, m)...): room alone is used of it. -/
theorem ev_zeros {d : Nat} {s x : Operand} {t tn e bytes m : Nat} {k kn : IntKind} {z : Value} (hw : Region.wanted o (yielded ops (Fr n L ps).tmps) = true) (hd : o.dst = some d) (ho : o.op = .call { callee := .builtin .append, args := #[s, x], argTypes := #[t, tn] }) (hs : evF n L ps s = .slice none 0 0) (hx : evF n L ps x = .int k (m : Int))
    (ht : P.underlying t = some (.slice e)) (htn : P.underlying tn = some (.int kn)) (hinfo : (P.info? e).map (fun i => (i.zero, i.size, i.bytes)) = some (some z, 1, bytes)) (hz : z.cells.size = 1) (hm : 0 < m) (hb : m * bytes ≤ 281474976710656) (hl : m ≤ 9223372036854775807)
    (H : Hp S0 W0 w rs) (h : ∀ g c w1, Hp S0 W0 w1 (rowR e 1 (some ⟨g, 0, none⟩) 0 c [] :: rs) → m ≤ c → Below w.heap.size w w1 → K (Fr n L ((d, .slice (some ⟨g, 0, none⟩) m c) :: ps)) w1) : OpW P ops Q o (Fr n L ps) w K := by
  obtain ⟨i, hi, hi2⟩ := Option.map_eq_some_iff.1 hinfo
  simp only [Prod.mk.injEq] at hi2
  obtain ⟨hz0, hsz, hby⟩ := hi2
  have hr := Lib.run_append_nil_zeros (P := P) w t tn o.type e i z k kn ht htn hi hz0 m hm (by omega) (by omega) (by rw [hby]; exact hb)
  have hrun : (execOp (evF n L ps) o).run P w = .ok (.value (.slice (some ⟨w.heap.size, 0, none⟩) m (grownCap w m 0 e))) (w.drew.alloc (.cells (Builtin.zeroCells z.cells m ++ Builtin.zeroCells z.cells (grownCap w m 0 e - m)) e)) := by
    unfold execOp
    simp only [ho, resolve, invoke, builtin, Sem.run_bind, Sem.run_pure, Result.andThen_ok, List.map_toArray, List.map_cons, List.map_nil, hs, hx, hr]
  have hge := grownCap_ge w m 0 e
  have hlm : grownCap w m 0 e ≤ 9223372036854775807 := grownCap_le_maxLen w m 0 e (by unfold maxLen; omega)
  have hbl : Below w.heap.size w (w.drew.alloc (.cells (Builtin.zeroCells z.cells m ++ Builtin.zeroCells z.cells (grownCap w m 0 e - m)) e)) := below_alloc (below_drew (Below.refl _ _)) _
  refine ev_run hw hd hrun (h _ _ _ (H.add hbl (rowR e 1 (some ⟨w.heap.size, 0, none⟩) 0 (grownCap w m 0 e) []) (row_zeros (cur := Builtin.zeroCells z.cells m ++ Builtin.zeroCells z.cells (grownCap w m 0 e - m)) (blk_new w.drew _) (by rw [Array.size_append, size_zeroCells, size_zeroCells, hz]; omega) hlm) (fun k hk => ?_)) hge hbl)
  have : some w.heap.size = some k := hk
  injection this with this
  omega
end
/-- What is behind the first q elements reads as before. -/
theorem C_drop {α : Type} {d : Kd α} {w : World} {A : Option Addr} {n c q : Nat} {xs : List α} (h : Kd.C d w A n xs) (hq : q ≤ n) (hc : n ≤ c) : Kd.C d w (if c = q then A else A.map (·.add (q * d.sz))) (n - q) (xs.drop q) := by
  obtain ⟨h1, h2, h3⟩ := h
  refine ⟨by rw [List.length_drop, h1], by omega, fun hp => ?_⟩
  rw [if_neg (by omega)]
  obtain ⟨ad, rfl, hr⟩ := h3 (by omega)
  refine ⟨ad.add (q * d.sz), rfl, fun j p hj => ?_⟩
  rw [List.getElem?_drop] at hj
  obtain ⟨cs, hc1, hc2, hc3⟩ := hr (q + j) p hj
  refine ⟨cs, hc1, hc2, fun i u hu => ?_⟩
  rw [add_add, show q * d.sz + (j * d.sz + i) = (q + j) * d.sz + i by rw [Nat.add_mul]; omega]
  exact hc3 i u hu
theorem C_take {α : Type} {d : Kd α} {w : World} {A : Option Addr} {n q : Nat} {xs : List α} (h : Kd.C d w A n xs) (hq : q ≤ n) : Kd.C d w A q (xs.take q) := by
  obtain ⟨h1, h2, h3⟩ := h
  refine ⟨by rw [List.length_take]; omega, by omega, fun hp => ?_⟩
  obtain ⟨ad, rfl, hr⟩ := h3 (by omega)
  refine ⟨ad, rfl, fun j p hj => hr j p ?_⟩
  rw [List.getElem?_take] at hj
  split at hj
  · exact hj
  · cases hj
end Go.Proofs.Ytokpdecpmcbcpaa
