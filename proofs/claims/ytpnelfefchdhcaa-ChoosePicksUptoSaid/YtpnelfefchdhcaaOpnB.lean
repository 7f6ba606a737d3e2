/- How an argument's reading opens, with a measure that its bulk bounds. -/
import Derived.Test.YtpnelfefchdhcaaOpn
import Derived.Test.YtpnelfefchdhcaaRows
namespace Go.Proofs.Ytpnelfefchdhcaa
open Go.RowKit Go.Proofs.YtpnelfefchdhcaaW.PrintWords Go.ChangeShapes Go.WideShapes
set_option linter.unusedVariables false
/-- What reads as type t reads as d, meets Q, and its measure is within its bulk. -/
def OpnM (P : Program) {α : Type} (d : Kd α) (t : TypeId) (Q : α → Prop) (m : α → Nat) : Prop :=
  ∀ (H : Type) (enc : TypeId × Value → H) (w : World) (fuel : Nat) (cs : List Value) (x : DataW H × List MemPlace), DataW.trod enc P w 0 (fun _ => true) true fuel t cs = some x → (∀ n ∈ x.1.weights P t, n ≤ reachBytes) → ∃ a, d.K w a cs ∧ Q a ∧ m a ≤ Rows.uptoBulk x.1
def OpnFsM (P : Program) {α : Type} (d : Kd α) (fs : List Field) (off : Nat) (Q : α → Prop) (m : α → Nat) : Prop :=
  ∀ (H : Type) (enc : TypeId × Value → H) (w : World) (fuel : Nat) (cs : List Value) (xs : List (DataW H × List MemPlace)), cs.length = off + d.sz → xs.length = fs.length →
    (∀ (i : Nat) (f : Field), fs[i]? = some f → DataW.trod enc P w 0 (fun _ => true) true fuel f.type ((cs.drop f.offset).take (P.cellsOf f.type)) = xs[i]?) → (∀ n ∈ DataW.weightsEach P (fs.map Field.type) (xs.map (·.1)), n ≤ reachBytes) → ∃ a, d.K w a (cs.drop off) ∧ Q a ∧ m a ≤ Rows.uptoBulkAll (xs.map (·.1))
variable {P : Program}
theorem bulk_one {H : Type} (d : DataW H) : 1 ≤ Rows.uptoBulk d := by
  cases d with
  | lit l => cases l <;> simp [Rows.uptoBulk]
  | nil => simp [Rows.uptoBulk]
  | ptr d => simp [Rows.uptoBulk]
  | slice elems spare => simp [Rows.uptoBulk]
  | agg parts => simp [Rows.uptoBulk]
  | iface t d => simp [Rows.uptoBulk]
  | map entries => simp [Rows.uptoBulk]
  | held h => simp [Rows.uptoBulk]
theorem bulk_append {H : Type} (l r : List (DataW H)) : Rows.uptoBulkAll (l ++ r) = Rows.uptoBulkAll l + Rows.uptoBulkAll r := by
  induction l with
  | nil => simp [Rows.uptoBulkAll]
  | cons x l ih => simp only [List.cons_append, Rows.uptoBulkAll, ih]; omega
theorem OpnM.of {α : Type} {d : Kd α} {t : TypeId} {Q : α → Prop} (h : Opn P d t Q) : OpnM P d t Q (fun _ => 1) := fun H enc w fuel cs x h1 h2 => by
  obtain ⟨a, hk, ho⟩ := h _ enc w fuel cs x h1 h2
  exact ⟨a, hk, ho, bulk_one _⟩
theorem OpnM.imp {α : Type} {d : Kd α} {t : TypeId} {Q Q' : α → Prop} {m m' : α → Nat} (h : OpnM P d t Q m) (hi : ∀ a, Q a → Q' a) (hm : ∀ a, m' a ≤ m a) : OpnM P d t Q' m' := fun H enc w fuel cs x h1 h2 => by
  obtain ⟨a, hk, ho, hb⟩ := h _ enc w fuel cs x h1 h2
  exact ⟨a, hk, hi a ho, Nat.le_trans (hm a) hb⟩
theorem sum_map_le {H : Type} {α : Type} {D : Nat → DataW H} {m : α → Nat} : ∀ (l : List α) (s : Nat), (∀ i a, l[i]? = some a → m a ≤ Rows.uptoBulk (D (s + i))) → (l.map m).sum ≤ Rows.uptoBulkAll ((List.range' s l.length).map D)
  | [], _, _ => by simp
  | a :: l, s, h => by
    have h0 := h 0 a rfl
    have ih := sum_map_le (D := D) l (s + 1) (fun i b hb => by have := h (i + 1) b hb; rwa [show s + (i + 1) = s + 1 + i by omega] at this)
    rw [List.map_cons, List.sum_cons, List.length_cons, List.range'_succ, List.map_cons, Rows.uptoBulkAll]
    rw [Nat.add_zero] at h0
    omega
theorem OpnM.slice {α : Type} {d : Kd α} {t e : TypeId} {Q : α → Prop} {m : α → Nat} {B : Nat} (ht : P.underlying t = some (.slice e)) (hc : P.cellsOf e = d.sz) (hb : P.bytesOf e = B) (h : OpnM P d e Q m) :
    OpnM P (Kd.slice e d) t (fun l => (∀ a ∈ l, Q a) ∧ l.length * B ≤ 140737488351232) (fun l => (l.map m).sum + 1) := fun H enc w fuel cs x hx hw => by
  rcases Deep.open_slice ht hx with ⟨rfl, rfl⟩ | ⟨a, len, cap, k, n, D, Pl, rfl, _, hl, hm, hmm, rfl, hel⟩
  · exact ⟨[], ⟨none, 0, rfl, Nat.le_refl _, rfl, by simp, fun h => absurd h (Nat.lt_irrefl 0)⟩, by simp, by simp [Rows.uptoBulk]⟩
  simp only [if_true] at hmm
  subst hmm
  simp only [DataW.weights, ht, List.mem_cons, List.mem_append, List.length_map, List.length_range] at hw
  have hlen : len * B ≤ 140737488351232 := by
    have h1 := hw _ (Or.inl rfl)
    rw [hb, reach_is] at h1
    exact Nat.le_trans (Nat.mul_le_mul_right _ (by omega)) h1
  obtain ⟨l, hll, hlp⟩ := choose_list (p := fun i a' => ∃ c, c.length = d.sz ∧ d.K w a' c ∧ (Q a' ∧ m a' ≤ Rows.uptoBulk (D i)) ∧ ∀ j u, c[j]? = some u → w.cell? (a.add (i * d.sz + j)) = some u) len (fun i hi => by
    obtain ⟨cs', h1, h2⟩ := hel i (by omega)
    obtain ⟨a', hk, ho⟩ := h _ enc w n cs' _ h2 (fun q hq => hw q (Or.inr (Or.inl (weights_all (List.mem_map.2 ⟨i, List.mem_range.2 hi, rfl⟩) q hq))))
    refine ⟨a', cs', d.K_len hk, hk, ho, fun j u hu => ?_⟩
    obtain ⟨_, hlen2, hcell⟩ := World.cells?_some h1
    have h3 := hcell j (by rw [← hlen2]; exact (List.getElem?_eq_some_iff.1 hu).1)
    rw [hc, add_add] at h3
    exact h3.trans hu)
  subst hll
  refine ⟨l, ⟨some a, k, rfl, hl, rfl, by unfold maxLen at hm; omega, fun _ => ⟨a, rfl, fun j p hj => ?_⟩⟩, ⟨fun a' ha' => ?_, hlen⟩, ?_⟩
  · obtain ⟨c, h1, h2, h3, h4⟩ := hlp j p hj
    exact ⟨c, h1, h2, h4⟩
  · obtain ⟨j, hj⟩ := List.getElem?_of_mem ha'
    obtain ⟨c, h1, h2, h3, h4⟩ := hlp j a' hj
    exact h3.1
  · have h5 := sum_map_le (D := D) (m := m) l 0 (fun i b hb => by
      obtain ⟨c, h1, h2, h3, h4⟩ := hlp i b hb
      rw [Nat.zero_add]; exact h3.2)
    rw [← List.range_eq_range'] at h5
    simp only [Rows.uptoBulk]
    omega
theorem OpnFsM.one {α : Type} {d : Kd α} {f : Field} {off : Nat} {Q : α → Prop} {m : α → Nat} (ho : f.offset = off) (hc : P.cellsOf f.type = d.sz) (h : OpnM P d f.type Q m) : OpnFsM P d [f] off Q m := fun H enc w fuel cs xs hl hx hf hw => by
  match xs, hx with
  | [x], _ =>
    have h1 := hf 0 f rfl
    rw [ho, hc, List.take_of_length_le (by rw [List.length_drop]; omega)] at h1
    obtain ⟨a, hk, hq, hm⟩ := h _ enc w fuel _ x h1 (fun n hn => hw n (by simp [DataW.weightsEach, hn]))
    exact ⟨a, hk, hq, by simp only [List.map_cons, List.map_nil, Rows.uptoBulkAll]; omega⟩
theorem OpnFsM.cons {α β : Type} {d1 : Kd α} {d2 : Kd β} {f : Field} {fs : List Field} {off : Nat} {Q1 : α → Prop} {Q2 : β → Prop} {m1 : α → Nat} {m2 : β → Nat} (ho : f.offset = off) (hc : P.cellsOf f.type = d1.sz) (h : OpnM P d1 f.type Q1 m1) (h2 : OpnFsM P d2 fs (off + d1.sz) Q2 m2) :
    OpnFsM P (Kd.pair d1 d2) (f :: fs) off (fun a => Q1 a.1 ∧ Q2 a.2) (fun a => m1 a.1 + m2 a.2) := fun H enc w fuel cs xs hl hx hf hw => by
  match xs, hx with
  | x :: r, hx =>
    have hl' : cs.length = off + (d1.sz + d2.sz) := hl
    have h1 := hf 0 f rfl
    rw [ho, hc] at h1
    obtain ⟨a, ka, oa, ma⟩ := h _ enc w fuel _ x h1 (fun n hn => hw n (by simp [DataW.weightsEach, hn]))
    obtain ⟨b, kb, ob, mb⟩ := h2 _ enc w fuel cs r (by omega) (by simpa using hx) (fun i f' hi => hf (i + 1) f' hi) (fun n hn => hw n (by simp [DataW.weightsEach, hn]))
    refine ⟨(a, b), ⟨_, _, ?_, ka, kb⟩, ⟨oa, ob⟩, by simp only [List.map_cons, Rows.uptoBulkAll]; omega⟩
    rw [← List.drop_drop]
    exact (List.take_append_drop _ _).symm
theorem OpnM.struct {α : Type} {d : Kd α} {t : TypeId} {fs : Array Field} {Q : α → Prop} {m : α → Nat} (ht : P.underlying t = some (.struct fs)) (hc : P.cellsOf t = d.sz) (h : OpnFsM P d fs.toList 0 Q m) : OpnM P d t Q m := fun H enc w fuel cs x hx hw => by
  obtain ⟨xs, n, _, rfl, hl, hlen, hf⟩ := DataW.trod_struct ht hx
  obtain ⟨a, hk, hq, hm⟩ := h _ enc w n cs xs (by rw [hl, hc]; omega) (by rw [hlen]; simp) (fun i f hi => hf i f (by simpa using hi)) (by simpa [DataW.weights, ht] using hw)
  exact ⟨a, by simpa using hk, hq, by simp only [Rows.uptoBulk]; omega⟩
theorem OpnM.iso {α β : Type} {d : Kd α} {t : TypeId} {Q : α → Prop} {m : α → Nat} (f : β → α) (g : α → β) (hg : ∀ a, f (g a) = a) (h : OpnM P d t Q m) : OpnM P (Kd.iso d f) t (fun b => Q (f b)) (fun b => m (f b)) := fun H enc w fuel cs x h1 h2 => by
  obtain ⟨a, hk, ho, hm⟩ := h _ enc w fuel cs x h1 h2
  exact ⟨g a, by show d.K w (f (g a)) cs; rw [hg]; exact hk, by show Q (f (g a)); rw [hg]; exact ho, by show m (f (g a)) ≤ _; rw [hg]; exact hm⟩
/-- The argument opened. -/
theorem OpnM.arg {α : Type} {d : Kd α} {t : TypeId} {Q : α → Prop} {m : α → Nat} (h : OpnM P d t Q m) {H : Type} {enc : TypeId × Value → H} {W : World} {v : Value} {dd : DataW H} {p : List MemPlace} {ts : List TypeId} {ds : List (DataW H)} {j : Nat}
    (hk : DataW.Trod enc P W 0 (fun _ => true) true t v dd p) (hsz : (DataW.weightsEach P ts ds).all (· ≤ reachBytes) = true) (h1 : ts[j]? = some t) (h2 : ds[j]? = some dd) : ∃ a, d.K W a v.cells.toList ∧ Q a ∧ m a ≤ Rows.uptoBulk dd := by
  obtain ⟨fuel, hf⟩ := hk
  refine h _ enc W fuel _ _ hf (fun n hn => ?_)
  have := List.all_eq_true.1 hsz _ (DataW.weights_mem_each h1 h2 n hn)
  simpa using this
theorem bulk_in {H : Type} {ds : List (DataW H)} {d : DataW H} (hk : Rows.uptoSmall H ds = true) (h : d ∈ ds) : Rows.uptoBulk d ≤ 1048576 := by
  have h1 : Rows.uptoBulkAll ds ≤ 1048576 := of_decide_eq_true hk
  have key : ∀ (l : List (DataW H)), d ∈ l → Rows.uptoBulk d ≤ Rows.uptoBulkAll l := by
    intro l
    induction l with
    | nil => intro h; cases h
    | cons x l ih =>
      intro h
      simp only [Rows.uptoBulkAll]
      rcases List.mem_cons.1 h with rfl | h
      · omega
      · have := ih h; omega
  have := key ds h
  omega
end Go.Proofs.Ytpnelfefchdhcaa
