/- How an argument's reading opens into the words 'Kd': by its type's shape; with the bounds that the row's reach gives. -/
import Derived.Test.YtpnelfefchdhcaaEv
import Derived.SizedLaws
import Derived.ChangeSlices
import Derived.ChangeShapes
import Derived.ChangeSame
import Derived.Deep.Slices
namespace Go.Proofs.Ytpnelfefchdhcaa
open Go.RowKit Go.Proofs.YtpnelfefchdhcaaW.PrintWords Go.ChangeShapes Go.WideShapes
set_option linter.unusedVariables false

/-- What reads as type t (with all the weights in reach) reads as d, and meets Ok. -/
def Opn (P : Program) {α : Type} (d : Kd α) (t : TypeId) (Ok : α → Prop) : Prop :=
  ∀ (H : Type) (enc : TypeId × Value → H) (w : World) (fuel : Nat) (cs : List Value) (x : DataW H × List MemPlace), DataW.trod enc P w 0 (fun _ => true) true fuel t cs = some x → (∀ n ∈ x.1.weights P t, n ≤ reachBytes) → ∃ a, d.K w a cs ∧ Ok a
def OpnFs (P : Program) {α : Type} (d : Kd α) (fs : List Field) (off : Nat) (Ok : α → Prop) : Prop :=
  ∀ (H : Type) (enc : TypeId × Value → H) (w : World) (fuel : Nat) (cs : List Value) (xs : List (DataW H × List MemPlace)), cs.length = off + d.sz → xs.length = fs.length →
    (∀ (i : Nat) (f : Field), fs[i]? = some f → DataW.trod enc P w 0 (fun _ => true) true fuel f.type ((cs.drop f.offset).take (P.cellsOf f.type)) = xs[i]?) → (∀ n ∈ DataW.weightsEach P (fs.map Field.type) (xs.map (·.1)), n ≤ reachBytes) → ∃ a, d.K w a (cs.drop off) ∧ Ok a
variable {P : Program}
theorem reach_is : reachBytes = 140737488351232 := by decide
theorem Opn.imp {α : Type} {d : Kd α} {t : TypeId} {Ok Ok' : α → Prop} (h : Opn P d t Ok) (hi : ∀ a, Ok a → Ok' a) : Opn P d t Ok' := fun H enc w fuel cs x h1 h2 => by
  obtain ⟨a, hk, ho⟩ := h _ enc w fuel cs x h1 h2
  exact ⟨a, hk, hi a ho⟩
theorem Opn.int {k : IntKind} {t : TypeId} (ht : P.underlying t = some (.int k)) : Opn P (Kd.int k) t (fun n => (Lit.int k n).wf = true) := fun H enc w fuel cs x h _ => by
  obtain ⟨n, hc, _, hw⟩ := DataW.trod_int ht h
  exact ⟨n, hc, hw⟩
theorem Opn.bool {t : TypeId} (ht : P.underlying t = some .bool) : Opn P Kd.bool t (fun _ => True) := fun H enc w fuel cs x h _ => by
  obtain ⟨b, hc, _⟩ := DataW.trod_bool ht h
  exact ⟨b, hc, trivial⟩
theorem choose_list {α : Type} {p : Nat → α → Prop} : ∀ (n : Nat), (∀ i, i < n → ∃ a, p i a) → ∃ l : List α, l.length = n ∧ ∀ i a, l[i]? = some a → p i a
  | 0, _ => ⟨[], rfl, fun i a h => by simp at h⟩
  | n + 1, h => by
    obtain ⟨l, hl, hp⟩ := choose_list n (fun i hi => h i (by omega))
    obtain ⟨a, ha⟩ := h n (by omega)
    refine ⟨l ++ [a], by simp [hl], fun i b hb => ?_⟩
    by_cases hi : i < l.length
    · rw [List.getElem?_append_left hi] at hb; exact hp i b hb
    · have hil : i = l.length := by have := (List.getElem?_eq_some_iff.1 hb).1; simp at this; omega
      subst hil
      simp at hb
      subst hb
      rw [hl]; exact ha
theorem weights_all {H : Type} {e : TypeId} : ∀ {l : List (DataW H)} {d : DataW H}, d ∈ l → ∀ n ∈ d.weights P e, n ∈ DataW.weightsAll P e l
  | d0 :: r, d, hd, n, hn => by
    simp only [DataW.weightsAll, List.mem_append]
    rcases List.mem_cons.1 hd with h | h
    · subst h; exact Or.inl hn
    · exact Or.inr (weights_all h n hn)
theorem Opn.slice {α : Type} {d : Kd α} {t e : TypeId} {Ok : α → Prop} {B : Nat} (ht : P.underlying t = some (.slice e)) (hc : P.cellsOf e = d.sz) (hb : P.bytesOf e = B) (h : Opn P d e Ok) :
    Opn P (Kd.slice e d) t (fun l => (∀ a ∈ l, Ok a) ∧ l.length * B ≤ 140737488351232) := fun H enc w fuel cs x hx hw => by
  rcases Deep.open_slice ht hx with ⟨rfl, rfl⟩ | ⟨a, len, cap, m, n, D, Pl, rfl, _, hl, hm, hmm, rfl, hel⟩
  · exact ⟨[], ⟨none, 0, rfl, Nat.le_refl _, rfl, by simp, fun h => absurd h (Nat.lt_irrefl 0)⟩, by simp, by simp⟩
  simp only [if_true] at hmm
  subst hmm
  simp only [DataW.weights, ht, List.mem_cons, List.mem_append, List.length_map, List.length_range] at hw
  have hlen : len * B ≤ 140737488351232 := by
    have h1 := hw _ (Or.inl rfl)
    rw [hb, reach_is] at h1
    exact Nat.le_trans (Nat.mul_le_mul_right _ (by omega)) h1
  obtain ⟨l, hll, hlp⟩ := choose_list (p := fun i a' => ∃ c, c.length = d.sz ∧ d.K w a' c ∧ Ok a' ∧ ∀ j u, c[j]? = some u → w.cell? (a.add (i * d.sz + j)) = some u) len (fun i hi => by
    obtain ⟨cs', h1, h2⟩ := hel i (by omega)
    obtain ⟨a', hk, ho⟩ := h _ enc w n cs' _ h2 (fun q hq => hw q (Or.inr (Or.inl (weights_all (List.mem_map.2 ⟨i, List.mem_range.2 hi, rfl⟩) q hq))))
    refine ⟨a', cs', d.K_len hk, hk, ho, fun j u hu => ?_⟩
    obtain ⟨_, hlen2, hcell⟩ := World.cells?_some h1
    have h3 := hcell j (by rw [← hlen2]; exact (List.getElem?_eq_some_iff.1 hu).1)
    rw [hc, add_add] at h3
    exact h3.trans hu)
  subst hll
  refine ⟨l, ⟨some a, m, rfl, hl, rfl, by unfold maxLen at hm; omega, fun _ => ⟨a, rfl, fun j p hj => ?_⟩⟩, fun a' ha' => ?_, hlen⟩
  · obtain ⟨c, h1, h2, h3, h4⟩ := hlp j p hj
    exact ⟨c, h1, h2, h4⟩
  · obtain ⟨j, hj⟩ := List.getElem?_of_mem ha'
    obtain ⟨c, h1, h2, h3, h4⟩ := hlp j a' hj
    exact h3
theorem OpnFs.one {α : Type} {d : Kd α} {f : Field} {off : Nat} {Ok : α → Prop} (ho : f.offset = off) (hc : P.cellsOf f.type = d.sz) (h : Opn P d f.type Ok) : OpnFs P d [f] off Ok := fun H enc w fuel cs xs hl hx hf hw => by
  match xs, hx with
  | [x], _ =>
    have h1 := hf 0 f rfl
    rw [ho, hc, List.take_of_length_le (by rw [List.length_drop]; omega)] at h1
    exact h _ enc w fuel _ x h1 (fun n hn => hw n (by simp [DataW.weightsEach, hn]))
theorem OpnFs.cons {α β : Type} {d1 : Kd α} {d2 : Kd β} {f : Field} {fs : List Field} {off : Nat} {Ok1 : α → Prop} {Ok2 : β → Prop} (ho : f.offset = off) (hc : P.cellsOf f.type = d1.sz) (h : Opn P d1 f.type Ok1) (h2 : OpnFs P d2 fs (off + d1.sz) Ok2) :
    OpnFs P (Kd.pair d1 d2) (f :: fs) off (fun a => Ok1 a.1 ∧ Ok2 a.2) := fun H enc w fuel cs xs hl hx hf hw => by
  match xs, hx with
  | x :: r, hx =>
    have hl' : cs.length = off + (d1.sz + d2.sz) := hl
    have h1 := hf 0 f rfl
    rw [ho, hc] at h1
    obtain ⟨a, ka, oa⟩ := h _ enc w fuel _ x h1 (fun n hn => hw n (by simp [DataW.weightsEach, hn]))
    obtain ⟨b, kb, ob⟩ := h2 _ enc w fuel cs r (by omega) (by simpa using hx) (fun i f' hi => hf (i + 1) f' hi) (fun n hn => hw n (by simp [DataW.weightsEach, hn]))
    refine ⟨(a, b), ⟨_, _, ?_, ka, kb⟩, oa, ob⟩
    rw [← List.drop_drop]
    exact (List.take_append_drop _ _).symm
theorem Opn.struct {α : Type} {d : Kd α} {t : TypeId} {fs : Array Field} {Ok : α → Prop} (ht : P.underlying t = some (.struct fs)) (hc : P.cellsOf t = d.sz) (h : OpnFs P d fs.toList 0 Ok) : Opn P d t Ok := fun H enc w fuel cs x hx hw => by
  obtain ⟨xs, n, _, rfl, hl, hlen, hf⟩ := DataW.trod_struct ht hx
  have := h _ enc w n cs xs (by rw [hl, hc]; omega) (by rw [hlen]; simp) (fun i f hi => hf i f (by simpa using hi)) (by simpa [DataW.weights, ht] using hw)
  simpa using this
theorem Opn.iso {α β : Type} {d : Kd α} {t : TypeId} {Ok : α → Prop} (f : β → α) (g : α → β) (hg : ∀ a, f (g a) = a) (h : Opn P d t Ok) : Opn P (Kd.iso d f) t (fun b => Ok (f b)) := fun H enc w fuel cs x h1 h2 => by
  obtain ⟨a, hk, ho⟩ := h _ enc w fuel cs x h1 h2
  exact ⟨g a, by show d.K w (f (g a)) cs; rw [hg]; exact hk, by show Ok (f (g a)); rw [hg]; exact ho⟩
/-- The argument opened: a slice's value. -/
theorem Opn.arg {α : Type} {d : Kd α} {t : TypeId} {Ok : α → Prop} (h : Opn P d t Ok) {H : Type} {enc : TypeId × Value → H} {W : World} {v : Value} {dd : DataW H} {p : List MemPlace} {ts : List TypeId} {ds : List (DataW H)} {j : Nat}
    (hk : DataW.Trod enc P W 0 (fun _ => true) true t v dd p) (hsz : (DataW.weightsEach P ts ds).all (· ≤ reachBytes) = true) (h1 : ts[j]? = some t) (h2 : ds[j]? = some dd) : ∃ a, d.K W a v.cells.toList ∧ Ok a := by
  obtain ⟨fuel, hf⟩ := hk
  refine h _ enc W fuel _ _ hf (fun n hn => ?_)
  have := List.all_eq_true.1 hsz _ (DataW.weights_mem_each h1 h2 n hn)
  simpa using this
end Go.Proofs.Ytpnelfefchdhcaa
