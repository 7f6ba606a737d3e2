/- Rows of the call's own as resources: their cells, what their elements lead to; appends. Nothing of the program. -/
import Derived.Test.YtokpdecpmcbcpaaOpr
namespace Go.Proofs.Ytokpdecpmcbcpaa
open Go.RowKit Go.Proofs.YtokpdecpmcbcpaaW.PrintWords Go.Proofs.YtokpdecpmcbcpaaW.PrintLast Go.Proofs.YtokpdecpmcbcpaaW.PrintMore
set_option linter.unusedVariables false
set_option linter.unusedSimpArgs false
theorem C_len {α : Type} {d : Kd α} {w : World} {A : Option Addr} {n : Nat} {xs : List α} (h : Kd.C d w A n xs) : n ≤ 9223372036854775807 := h.2.1
theorem C_some {α : Type} {d : Kd α} {w : World} {A : Option Addr} {n : Nat} {xs : List α} (h : Kd.C d w A n xs) (hn : 0 < n) (z : α) : ∃ ad, A = some ad := by
  obtain ⟨ad, c, e, _⟩ := Kd.C_get h z 0 (by omega) (by omega)
  exact ⟨ad, e⟩
theorem C_at {α : Type} {d : Kd α} {w : World} {ad : Addr} {n : Nat} {xs : List α} (h : Kd.C d w (some ad) n xs) (z : α) (j : Nat) (hj : j < n) : ∃ c, d.K w (xs.getD j z) c ∧ At w (ad.add (j * d.sz)) c := by
  obtain ⟨ad', c, e, _, hK, hc⟩ := Kd.C_get h z (j : Int) (by omega) (by omega)
  injection e with e
  subst e
  rw [Int.toNat_natCast] at hc
  exact ⟨c, by simpa using hK, fun i v hv => by rw [add_add]; exact hc i v hv⟩
theorem C_scal_at {α : Type} {enc : α → Value} {h1 : ∀ x, (enc x).oneCell' = true} {w : World} {ad : Addr} {n : Nat} {xs : List α} (h : Kd.C (Kd.scalar enc h1) w (some ad) n xs) (z : α) (j : Nat) (hj : j < n) : At w (ad.add (j * 1)) [enc (xs.getD j z)] := by
  obtain ⟨c, hK, hA⟩ := C_at h z j hj
  rw [show c = [enc (xs.getD j z)] from hK] at hA
  exact hA
/-! ### A row -/
/-- A row of elements (type e, sz cells each) of the call's own: their cells are 'rows'. -/
def rowR (e sz : Nat) (A : Option Addr) (n c : Nat) (rows : List (List Value)) : Res where
  fp k := (Value.slice A n c).ownBlock = some k
  ok w := (Kd.raw sz).R e w 0 (fun _ => True) (.slice A n c) rows
  lt w h k hk := Kd.R_lt h k hk
  st w w' h hm := by
    have h1 := Kd.R_tight (d := Kd.raw sz) rfl h
    exact Kd.R_mono (Kd.R_move h1 (fun k hk => hm k hk.symm)) (fun _ _ => trivial)
section
variable {e sz n c : Nat} {A : Option Addr} {rows : List (List Value)} {w : World}
theorem rowR_len (h : (rowR e sz A n c rows).ok w) : n = rows.length ∧ n ≤ c ∧ n ≤ 9223372036854775807 := by
  have h1 := Kd.R_reads' (d := Kd.raw sz) h
  exact ⟨h1.1, h1.2.1, by rw [h1.1]; exact h1.2.2.2.1⟩
theorem rowR_some (h : (rowR e sz A n c rows).ok w) (hn : 0 < n) : ∃ g, A = some ⟨g, 0, none⟩ := by
  obtain ⟨g, cap, he, _⟩ := Kd.N_form (Kd.R_N h) (by have := (rowR_len h).1; omega)
  injection he with ha
  exact ⟨g, ha⟩
theorem At_row {ad : Addr} (h : (rowR e sz (some ad) n c rows).ok w) (j : Nat) (hj : j < n) : At w (ad.add (j * sz)) (rows.getD j []) := by
  have h1 := Kd.R_reads' (d := Kd.raw sz) h
  obtain ⟨q, hK, hA⟩ := C_at h1.2.2 [] j (by omega)
  rw [show q = rows.getD j [] from hK.1] at hA
  exact hA
theorem rowR_at_len (h : (rowR e sz A n c rows).ok w) (j : Nat) (hj : j < n) : (rows.getD j []).length = sz := by
  have h1 := Kd.R_reads' (d := Kd.raw sz) h
  obtain ⟨ad, rfl⟩ := C_some h1.2.2 (by omega) []
  obtain ⟨q, hK, _⟩ := C_at h1.2.2 [] j (by omega)
  rw [← show q = rows.getD j [] from hK.1]
  exact hK.2.1
theorem rowR_nil (e sz : Nat) (w : World) : (rowR e sz none 0 0 []).ok w := Kd.R_nil _ _ _ _ _
/-- A block known whole, as a row. -/
theorem rowR_blk {g t : Nat} {cs : List Value} (h : (blk g cs t).ok w) (rows : List (List Value)) (hc : rows.flatten = cs) (hl : rows.all (fun r => r.length == sz && r.all (·.oneCell')) = true) (hm : rows.length ≤ 9223372036854775807) : (rowR t sz (some ⟨g, 0, none⟩) rows.length rows.length rows).ok w := by
  have hl' : ∀ r ∈ rows, r.length = sz ∧ ∀ u ∈ r, u.oneCell' = true := fun r hr => by
    have := List.all_eq_true.1 hl r hr
    simp only [Bool.and_eq_true, beq_iff_eq, List.all_eq_true] at this
    exact this
  have hflen : ∀ (q : List (List Value)), (∀ r ∈ q, r.length = sz) → q.flatten.length = q.length * sz := by
    intro q hq
    induction q with
    | nil => simp
    | cons r q ih => rw [List.flatten_cons, List.length_append, ih (fun r hr => hq r (List.mem_cons_of_mem _ hr)), hq r (List.mem_cons_self ..), List.length_cons, Nat.add_mul]; omega
  have hfl := hflen rows (fun r hr => (hl' r hr).1)
  refine ⟨fun _ _ => trivial, rows.flatten, ⟨by rw [hfl]; rfl, .inr ⟨g, rows.length, cs.toArray, rfl, Nat.zero_le _, h, Nat.le_refl _, by unfold maxLen; omega, by rw [← hc]; simp only [List.size_toArray]; exact hfl, ?_⟩⟩, ?_⟩
  · rw [← hc, show (Kd.raw sz).sz = sz from rfl]
    simp only
    rw [List.take_of_length_le (by omega)]
  · refine ⟨hfl, fun j p hj => ?_⟩
    have hseg : ∀ (q : List (List Value)) (j : Nat) (p : List Value), (∀ r ∈ q, r.length = sz) → q[j]? = some p → (q.flatten.drop (j * sz)).take sz = p := by
      intro q
      induction q with
      | nil => intro j p _ h; simp at h
      | cons r q ih =>
        intro j p hq hj
        cases j with
        | zero =>
          simp at hj; subst hj
          rw [Nat.zero_mul, List.drop_zero, List.flatten_cons, ← hq r (List.mem_cons_self ..), List.take_left]
        | succ j =>
          rw [List.getElem?_cons_succ] at hj
          have hr := hq r (List.mem_cons_self ..)
          rw [List.flatten_cons, List.drop_append, List.drop_eq_nil_of_le (by rw [hr, Nat.add_mul]; omega), List.nil_append, show (j + 1) * sz - r.length = j * sz by rw [hr, Nat.add_mul]; omega]
          exact ih j p (fun r hr => hq r (List.mem_cons_of_mem _ hr)) hj
    have hp := List.mem_of_getElem? hj
    exact ⟨hseg rows j p (fun r hr => (hl' r hr).1) hj, by rw [show (Kd.raw sz).sz = sz from rfl, hseg rows j p (fun r hr => (hl' r hr).1) hj]; exact (hl' p hp).1, by rw [show (Kd.raw sz).sz = sz from rfl, hseg rows j p (fun r hr => (hl' r hr).1) hj]; exact (hl' p hp).2⟩
/-- What the cells of a row of scalars are. -/
theorem rowR_scalar {α : Type} {enc : α → Value} {h1 : ∀ x, (enc x).oneCell' = true} {base : Nat} {ok : Nat → Prop} {xs : List α} (h : (Kd.scalar enc h1).R e w base ok (.slice A n c) xs) : (rowR e 1 A n c (xs.map fun x => [enc x])).ok w := by
  obtain ⟨_, inner, hown, hl, hr⟩ := h
  refine ⟨fun _ _ => trivial, inner, ?_, by rw [hl, List.length_map]; rfl, fun j p hj => ?_⟩
  · rw [List.length_map]
    exact own_less hown (Nat.zero_le _)
  · rw [List.getElem?_map] at hj
    obtain ⟨x, hx, rfl⟩ := Option.map_eq_some_iff.1 hj
    have h2 : (inner.drop (j * 1)).take 1 = [enc x] := hr j x hx
    refine ⟨h2, ?_, ?_⟩
    · show ((inner.drop (j * 1)).take 1).length = 1
      rw [h2]; rfl
    · intro u hu
      have hu' : u ∈ (inner.drop (j * 1)).take 1 := hu
      rw [h2] at hu'
      rw [List.mem_singleton.1 hu']
      exact h1 x
theorem scalar_rowR {α : Type} {enc : α → Value} {h1 : ∀ x, (enc x).oneCell' = true} {xs : List α} (h : (rowR e 1 A n c (xs.map fun x => [enc x])).ok w) : (Kd.scalar enc h1).R e w 0 (fun k => (Value.slice A n c).ownBlock = some k) (.slice A n c) xs := by
  have h' := Kd.R_tight (d := Kd.raw 1) rfl h
  obtain ⟨_, inner, hown, hl, hr⟩ := h'
  refine ⟨fun _ hk => hk, inner, by rwa [List.length_map] at hown, by rw [hl, List.length_map]; rfl, fun j x hj => ?_⟩
  exact (hr j [enc x] (by rw [List.getElem?_map, hj]; rfl)).1
end
section
variable {α : Type} {d : Kd α} {w : World}
/-- A row whose elements' cells read as xs, as one that is read. -/
theorem C_of_row {e n c : Nat} {A : Option Addr} {rows : List (List Value)} {xs : List α} (h : (rowR e d.sz A n c rows).ok w) (hl : n = xs.length) (hK : ∀ (j : Nat) (x : α) (c : List Value), xs[j]? = some x → rows[j]? = some c → d.K w x c) : Kd.C d w A xs.length xs := by
  have h1 := Kd.R_reads' (d := Kd.raw d.sz) h
  obtain ⟨h2, h3, h4, h5, h6⟩ := h1
  subst hl
  refine ⟨rfl, by omega, fun hp => ?_⟩
  obtain ⟨ad, hA, hr⟩ := h6 (by omega)
  refine ⟨ad, hA, fun j x hx => ?_⟩
  have hj := (List.getElem?_eq_some_iff.1 hx).1
  obtain ⟨q, hq1, hq2, hq3⟩ := hr j (rows[j]'(by omega)) (List.getElem?_eq_getElem _)
  rw [hq2.1] at hq1 hq3
  exact ⟨_, hq1, hK j x _ hx (List.getElem?_eq_getElem _), hq3⟩
theorem C_of_blk {g t : Nat} {cs : List Value} {xs : List α} (h : (blk g cs t).ok w) (rows : List (List Value)) (hc : rows.flatten = cs) (hl : rows.all (fun r => r.length == d.sz && r.all (·.oneCell')) = true) (hm : xs.length ≤ 9223372036854775807) (hn : rows.length = xs.length)
    (hK : ∀ (j : Nat) (x : α) (c : List Value), xs[j]? = some x → rows[j]? = some c → d.K w x c) : Kd.C d w (some ⟨g, 0, none⟩) xs.length xs :=
  C_of_row (rowR_blk h rows hc hl (by omega)) hn hK
end
/-! ### What elements lead to -/
/-- The cells c read as x; what they lead to lies in F. -/
def fkR {α : Type} (d : Kd α) (F : Nat → Prop) (x : α) (c : List Value) : Res where
  fp := F
  ok w := Kd.FK d w F x c ∧ ∀ k, F k → k < w.heap.size
  lt w h := h.2
  st w w' h hm := ⟨Kd.FK_step h.1 (fun k hk _ => hm k hk), fun k hk => by
    have h1 := h.2 k hk
    have h2 := hm k hk
    rw [Array.getElem?_eq_getElem h1] at h2
    exact (Array.getElem?_eq_some_iff.1 h2).1⟩
/-- The elements from number i on: what each leads to is its own. -/
def elR {α : Type} (d : Kd α) (i : Nat) (F : Nat → Prop) (xs : List α) (rows : List (List Value)) : Res where
  fp := F
  ok w := (∀ k, F k → k < w.heap.size) ∧ ∃ f : Nat → Nat → Prop, (∀ j k, i ≤ j → f j k → F k) ∧ (∀ j j', i ≤ j → i ≤ j' → j ≠ j' → ∀ k, f j k → ¬ f j' k) ∧ ∀ j x c, i ≤ j → xs[j]? = some x → rows[j]? = some c → Kd.FK d w (f j) x c
  lt w h := h.1
  st w w' h hm := by
    obtain ⟨h1, f, h2, h3, h4⟩ := h
    refine ⟨fun k hk => ?_, f, h2, h3, fun j x c hj hx hc => Kd.FK_step (h4 j x c hj hx hc) (fun k hk _ => hm k (h2 j k hj hk))⟩
    have h1 := h1 k hk
    have h2 := hm k hk
    rw [Array.getElem?_eq_getElem h1] at h2
    exact (Array.getElem?_eq_some_iff.1 h2).1
/-- Any other fact. -/
def anyR (F : Nat → Prop) (p : World → Prop) (hp : ∀ w w', p w → (∀ k, F k → w'.heap[k]? = w.heap[k]?) → p w') : Res where
  fp := F
  ok w := p w ∧ ∀ k, F k → k < w.heap.size
  lt w h := h.2
  st w w' h hm := ⟨hp w w' h.1 hm, fun k hk => by
    have h1 := h.2 k hk
    have h2 := hm k hk
    rw [Array.getElem?_eq_getElem h1] at h2
    exact (Array.getElem?_eq_some_iff.1 h2).1⟩
section
variable {S0 : Nat → Prop} {W0 w w1 : World} {rs : List Res}
/-- The first two resources as one. -/
theorem Hp.merge {a b : Res} (h : Hp S0 W0 w (a :: b :: rs)) (r : Res) (hr : a.ok w → b.ok w → (∀ k, a.fp k → ¬ b.fp k) → r.ok w) (hf : ∀ k, r.fp k → a.fp k ∨ b.fp k) : Hp S0 W0 w (r :: rs) := by
  have ha := h.ok a (by simp)
  have hb := h.ok b (by simp)
  obtain ⟨hs1, hs2⟩ := List.pairwise_cons.1 h.sep
  obtain ⟨hs3, hs4⟩ := List.pairwise_cons.1 hs2
  refine ⟨h.chg, fun q hq => ?_, fun q hq k hk => ?_, List.pairwise_cons.2 ⟨fun q hq k hk => ?_, hs4⟩⟩
  · rcases List.mem_cons.1 hq with rfl | hq
    · exact hr ha hb (hs1 b (by simp))
    · exact h.ok q (by simp [hq])
  · rcases List.mem_cons.1 hq with rfl | hq
    · rcases hf k hk with h1 | h1
      · exact h.own a (by simp) k h1
      · exact h.own b (by simp) k h1
    · exact h.own q (by simp [hq]) k hk
  · rcases hf k hk with h1 | h1
    · exact hs1 q (by simp [hq]) k h1
    · exact hs3 q hq k h1
/-- The first resource as two. -/
theorem Hp.split {a : Res} (h : Hp S0 W0 w (a :: rs)) (b c : Res) (hb : b.ok w) (hc : c.ok w) (hfb : ∀ k, b.fp k → a.fp k) (hfc : ∀ k, c.fp k → a.fp k) (hd : ∀ k, b.fp k → ¬ c.fp k) : Hp S0 W0 w (b :: c :: rs) := by
  obtain ⟨hs1, hs2⟩ := List.pairwise_cons.1 h.sep
  refine ⟨h.chg, fun q hq => ?_, fun q hq k hk => ?_, List.pairwise_cons.2 ⟨fun q hq k hk => ?_, List.pairwise_cons.2 ⟨fun q hq k hk => hs1 q hq k (hfc k hk), hs2⟩⟩⟩
  · rcases List.mem_cons.1 hq with rfl | hq
    · exact hb
    rcases List.mem_cons.1 hq with rfl | hq
    · exact hc
    · exact h.ok q (by simp [hq])
  · rcases List.mem_cons.1 hq with rfl | hq
    · exact h.own a (by simp) k (hfb k hk)
    rcases List.mem_cons.1 hq with rfl | hq
    · exact h.own a (by simp) k (hfc k hk)
    · exact h.own q (by simp [hq]) k hk
  · rcases List.mem_cons.1 hq with rfl | hq
    · exact hd k hk
    · exact hs1 q hq k (hfb k hk)
/-- A resource that has no block. -/
theorem Hp.addE (h : Hp S0 W0 w rs) (r : Res) (hr : r.ok w) (hf : ∀ k, ¬ r.fp k) : Hp S0 W0 w (r :: rs) :=
  h.add (Below.refl _ _) r hr (fun k hk => absurd hk (hf k))
end
section
variable {α : Type} {d : Kd α} {S0 : Nat → Prop} {W0 w : World} {rs : List Res}
theorem elR_nil (d : Kd α) (i : Nat) (w : World) : (elR d i (fun _ => False) [] []).ok w := ⟨fun _ h => h.elim, fun _ _ => False, fun _ _ _ h => h, fun _ _ _ _ _ _ h => h.elim, fun j x c _ h => by simp at h⟩
/-- One more element, with what it leads to. -/
theorem Hp.elsnoc {F G : Nat → Prop} {xs : List α} {rows : List (List Value)} {p : α} {cs : List Value} {i : Nat} (H : Hp S0 W0 w (elR d i F xs rows :: fkR d G p cs :: rs)) (hl : rows.length = xs.length) :
    Hp S0 W0 w (elR d i (fun k => F k ∨ G k) (xs ++ [p]) (rows ++ [cs]) :: rs) := by
  refine H.merge _ (fun ha hb hd => ?_) (fun k hk => hk)
  obtain ⟨h1, f, h2, h3, h4⟩ := ha
  obtain ⟨h5, h6⟩ := hb
  refine ⟨fun k hk => hk.elim (h1 k) (h6 k), fun j k => if j = xs.length then G k else (j < xs.length ∧ f j k), fun j k hj hk => ?_, fun j j' hj hj' hne k hk hk' => ?_, fun j x c hj hx hc => ?_⟩
  · dsimp only at hk
    by_cases he : j = xs.length
    · rw [if_pos he] at hk; exact .inr hk
    · rw [if_neg he] at hk; exact .inl (h2 j k hj hk.2)
  · dsimp only at hk hk'
    by_cases he : j = xs.length
    · rw [if_pos he] at hk
      rw [if_neg (by omega)] at hk'
      exact hd k (h2 j' k hj' hk'.2) hk
    · rw [if_neg he] at hk
      by_cases he' : j' = xs.length
      · rw [if_pos he'] at hk'
        exact hd k (h2 j k hj hk.2) hk'
      · rw [if_neg he'] at hk'
        exact h3 j j' hj hj' hne k hk.2 hk'.2
  · by_cases he : j = xs.length
    · subst he
      rw [List.getElem?_append_right (Nat.le_refl _), Nat.sub_self] at hx
      rw [← hl, List.getElem?_append_right (Nat.le_refl _), Nat.sub_self] at hc
      simp at hx hc
      subst hx; subst hc
      exact Kd.FK_mono h5 (fun k hk => by dsimp only; rw [if_pos rfl]; exact hk)
    · have hlt : j < xs.length := by have := (List.getElem?_eq_some_iff.1 hx).1; simp at this; omega
      rw [List.getElem?_append_left hlt] at hx
      rw [List.getElem?_append_left (by omega)] at hc
      exact Kd.FK_mono (h4 j x c hj hx hc) (fun k hk => by dsimp only; rw [if_neg he]; exact ⟨hlt, hk⟩)
/-- What an element leads to, taken out. -/
theorem Hp.eltake {F : Nat → Prop} {xs : List α} {rows : List (List Value)} {i : Nat} (H : Hp S0 W0 w (elR d i F xs rows :: rs)) (x : α) (c : List Value) (hx : xs[i]? = some x) (hc : rows[i]? = some c) :
    ∃ G F', Hp S0 W0 w (fkR d G x c :: elR d (i + 1) F' xs rows :: rs) := by
  obtain ⟨h1, f, h2, h3, h4⟩ := H.get 0 rfl
  refine ⟨f i, fun k => ∃ j, i + 1 ≤ j ∧ f j k, H.split _ _ ⟨h4 i x c (Nat.le_refl _) hx hc, fun k hk => h1 k (h2 i k (Nat.le_refl _) hk)⟩ ⟨fun k ⟨j, hj, hk⟩ => h1 k (h2 j k (by omega) hk), f, fun j k hj hk => ⟨j, hj, hk⟩, fun j j' hj hj' => h3 j j' (by omega) (by omega), fun j x c hj => h4 j x c (by omega)⟩ (fun k hk => h2 i k (Nat.le_refl _) hk) (fun k ⟨j, hj, hk⟩ => h2 j k (by omega) hk) (fun k hk ⟨j, hj, hk2⟩ => h3 i j (Nat.le_refl _) (by omega) (by omega) k hk hk2)⟩
theorem elR_fk {F : Nat → Prop} {xs : List α} {rows : List (List Value)} {i : Nat} (h : (elR d i F xs rows).ok w) (j : Nat) (hj : i ≤ j) (x : α) (c : List Value) (hx : xs[j]? = some x) (hc : rows[j]? = some c) : d.K w x c := by
  obtain ⟨h1, f, h2, h3, h4⟩ := h
  exact Kd.FK_now (h4 j x c hj hx hc)
end
section
variable {P : Program} {ops : Array Oper} {Q : Exit → Act → World → Prop} {o : Oper} {K : Act → World → Prop} {n : Nat} {L : Nat → Value} {ps : List (Nat × Value)} {w : World} {S0 : Nat → Prop} {W0 : World} {rs : List Res}
/-- append(s, x...): s a row of the call's own, x any row that can be read. -/
theorem ev_append {d : Nat} {s x : Operand} {t e sz bytes : Nat} {z : Value} (k : Nat) {A : Option Addr} {m0 c : Nat} {rows : List (List Value)} (news : List (List Value)) (B : Option Addr) (m cB : Nat)
    (hw : Region.wanted o (yielded ops (Fr n L ps).tmps) = true) (hd : o.dst = some d) (ho : o.op = .call { callee := .builtin .append, args := #[s, x], argTypes := #[t, t] })
    (ht : P.underlying t = some (.slice e)) (hinfo : (P.info? e).map (fun i => (i.zero, i.size, i.bytes)) = some (some z, sz, bytes)) (hz : z.cells.size = sz) (hs0 : Nat.blt 0 sz = true) (hb0 : Nat.blt 0 bytes = true)
    (H : Hp S0 W0 w rs) (hk : rs[k]? = some (rowR e sz A m0 c rows)) (hs : evF n L ps s = .slice A m0 c) (hx : evF n L ps x = .slice B m cB)
    (hm : news.length = m) (hread : ∀ j row, news[j]? = some row → ∃ ad, B = some ad ∧ At w (ad.add (j * sz)) row ∧ row.length = sz ∧ ∀ u ∈ row, u.oneCell' = true) (hl : (m0 + m) * bytes ≤ 140737488355328) (N' : Nat) (hN : m0 + m = N')
    (h : ∀ A1 c1 w1, Hp S0 W0 w1 (rs.set k (rowR e sz A1 N' c1 (rows ++ news))) → Chg (rowR e sz A m0 c rows).fp w w1 → K (Fr n L ((d, .slice A1 N' c1) :: ps)) w1) : OpW P ops Q o (Fr n L ps) w K := by
  have hrow := H.get k hk
  have hlen := (rowR_len hrow).1
  have hs0' : 0 < sz := by simpa using hs0
  have hb0' : 0 < bytes := by simpa using hb0
  have hlm : m0 + m ≤ 140737488355328 := Nat.le_trans (Nat.le_mul_of_pos_right _ hb0') hl
  refine ⟨Kd.R_append_rows_step (Kd.raw sz) (Rr := fun x cs => cs = x ∧ cs.length = sz ∧ ∀ u ∈ cs, u.oneCell' = true) (w0 := w) (W := w) 0 hw s x t e z bytes ho ht hinfo hz hs0' hb0' (.slice A m0 c) rows news B m cB (fun _ => True) (fun _ => False) (by rw [Fr_eval]; exact hs) (by rw [Fr_eval]; exact hx) hrow ⟨hm, by omega, fun hp => ?_⟩ (fun _ _ hq => hq) (fun _ hk => hk.elim) (fun _ _ => trivial) (Below.refl _ _) (Nat.zero_le _) (by rw [← hlen]; exact hl) ?_⟩
  · obtain ⟨ad, hB, _⟩ := hread 0 (news[0]'(by omega)) (List.getElem?_eq_getElem _)
    refine ⟨ad, hB, fun j row hj => ?_⟩
    obtain ⟨ad', hB', hA, h1, h2⟩ := hread j row hj
    rw [hB] at hB'
    injection hB' with hB'
    subst hB'
    exact ⟨row, h1, ⟨rfl, h1, h2⟩, fun i u hu => by rw [← add_add]; exact hA i u hu⟩
  · intro v1 w1 hr hb hg hat
    obtain ⟨A1, c1, rfl⟩ := Kd.R_slice hr
    have hl2 : (rows ++ news).length = N' := by rw [List.length_append]; omega
    rw [hl2] at hr hat ⊢
    have hc : Chg (rowR e sz A m0 c rows).fp w w1 := Chg.of_grown hg (fun k hk => hk)
    rw [hd, Fr_put]
    refine h A1 c1 w1 (H.upd k hk hc (rowR e sz A1 N' c1 (rows ++ news)) hr (fun q hq => ?_)) hc
    rcases hat with h1 | ⟨b, h1, h2⟩
    · left
      show (Value.slice A m0 c).ownBlock = some q
      rw [← h1]; exact hq
    · right
      have : some b = some q := h1.symm.trans hq
      injection this with this
      omega
/-- make([]T, n). -/
theorem ev_make {d : Nat} {t e sz bytes : Nat} {x y : Operand} {z : Value} {m : Nat} (hw : Region.wanted o (yielded ops (Fr n L ps).tmps) = true) (hd : o.dst = some d) (ho : o.op = .makeSlice t x y) (hx : evF n L ps x = .int .i64 (m : Int)) (hy : evF n L ps y = .int .i64 (m : Int))
    (ht : P.underlying t = some (.slice e)) (hinfo : (P.info? e).map (fun i => (i.zero, i.size, i.bytes)) = some (some z, sz, bytes)) (hz : z.cells.size = sz) (hs0 : Nat.blt 0 sz = true) (hb0 : Nat.blt 0 bytes = true) (h1z : z.cells.toList.all (·.oneCell') = true) (hl : m * bytes ≤ 281474976710656)
    (H : Hp S0 W0 w rs) (h : ∀ A c w1, Hp S0 W0 w1 (rowR e sz A m c (List.replicate m z.cells.toList) :: rs) → Below w.heap.size w w1 → K (Fr n L ((d, .slice A m c) :: ps)) w1) : OpW P ops Q o (Fr n L ps) w K := by
  refine ⟨Kd.R_make_step (Kd.raw sz) (w0 := w) w.heap.size e hw hd t x y ho (m : Int) (by rw [Fr_eval]; exact hx) (by rw [Fr_eval]; exact hy) ht z bytes hinfo hz (show 0 < sz by simpa using hs0) (by simpa using hb0) z.cells.toList (ok := fun _ => True) (okp := fun _ => False) ⟨rfl, by rw [Array.length_toList]; exact hz, fun u hu => List.all_eq_true.1 h1z u hu⟩ (fun _ h => h.elim) trivial (by omega) (by simpa using hl) (Below.refl _ _) (Nat.le_refl _) ?_⟩
  intro v1 w1 hr hb hg hat
  rw [Int.toNat_natCast] at hr
  obtain ⟨A, c, rfl⟩ := Kd.R_slice hr
  rw [List.length_replicate] at hr hat ⊢
  have hbw : Below w.heap.size w w1 := hb
  rw [hd, Fr_put]
  refine h A c w1 (H.add hbw (rowR e sz A m c (List.replicate m z.cells.toList)) (Kd.R_lower hr (Nat.zero_le _)) (fun k hk => ?_)) hbw
  obtain ⟨b, h1, h2⟩ := hat
  have : some b = some k := h1.symm.trans hk
  injection this with this
  omega
theorem At_scal {α : Type} {enc : α → Value} {h1 : ∀ x, (enc x).oneCell' = true} {e m c : Nat} {ad : Addr} {xs : List α} (h : (rowR e 1 (some ad) m c (xs.map fun x => [enc x])).ok w) (j : Nat) (v : α) (hj : xs[j]? = some v) : At w (ad.add (j * 1)) [enc v] := by
  have hl := (rowR_len h).1
  have hjl := (List.getElem?_eq_some_iff.1 hj).1
  rw [List.length_map] at hl
  have h2 := At_row h j (by omega)
  rw [List.getD_eq_getElem?_getD, List.getElem?_map, hj] at h2
  exact h2
/-- A store into a row of scalars. -/
theorem ev_setscal {α : Type} {enc : α → Value} {t e : TypeId} {p x : Operand} {k g m c j : Nat} {xs : List α} (h1 : ∀ x, (enc x).oneCell' = true) (hw : Region.wanted o (yielded ops (Fr n L ps).tmps) = true) (hN : o.dst = none) (ho : o.op = .store t p x) (H : Hp S0 W0 w rs) (hk : rs[k]? = some (rowR e 1 (some ⟨g, 0, none⟩) m c (xs.map fun x => [enc x])))
    (haddr : evF n L ps p = .pointer (some ((⟨g, 0, none⟩ : Addr).add (j * 1)))) (v : α) (hx : evF n L ps x = enc v) (ht : (P.info? t).map (·.size) = some 1) (hj : j < m)
    (h : ∀ w1, Hp S0 W0 w1 (rs.set k (rowR e 1 (some ⟨g, 0, none⟩) m c ((xs.set j v).map fun x => [enc x]))) → Chg (fun q => q = g) w w1 → K (Fr n L ps) w1) : OpW P ops Q o (Fr n L ps) w K := by
  have hrow := H.get k hk
  have hsc := scalar_rowR (h1 := h1) hrow
  have hlen := (rowR_len hrow).1
  have hcap := (rowR_len hrow).2.1
  obtain ⟨g', cap, he, _, _, cur, hh, hcs⟩ : ∃ g' cap, Value.slice (some ⟨g, 0, none⟩) m c = .slice (some ⟨g', 0, none⟩) m cap ∧ 0 ≤ g' ∧ g' < w.heap.size ∧ ∃ cur, w.heap[g']? = some (.cells cur e (0, 0)) ∧ cur.size = cap * 1 := by
    obtain ⟨_, inner, hown, _⟩ := hsc
    rcases hown.2 with ⟨hv, _⟩ | ⟨g', cap', cur, hv, hg, hh, hn, hm, hs, ht⟩
    · cases hv
    · injection hv with ha hb hc2
      injection ha with ha
      injection ha with ha
      subst ha; subst hc2
      exact ⟨g, c, rfl, Nat.zero_le _, blk_lt hh, cur, hh, hs⟩
  injection he with ha hb hc2
  injection ha with ha
  injection ha with ha
  subst ha; subst hc2
  rw [add_plain, Nat.mul_one] at haddr
  have hcell : (enc v).cells.toList = [enc v] := by
    have := h1 v
    cases hv : enc v <;> simp_all [Value.cells, Value.oneCell']
  have hrun := run_store_run (P := P) (w := w) (g := g) (o := j) t (enc v) [enc v] hh hcell ht (by rw [hcs]; simp; omega) (fun q hq => by rw [List.mem_singleton.1 hq]; exact h1 v)
  have hchg : Chg (fun q => q = g) w (w.setCells g j [enc v]) := Chg.setCells w g j _ rfl
  have hnew : (rowR e 1 (some ⟨g, 0, none⟩) m c ((xs.set j v).map fun x => [enc x])).ok (w.setCells g j [enc v]) := by
    have h3 := Kd.R_putn hsc (j : Int) v
    rw [Int.toNat_natCast] at h3
    exact rowR_scalar h3
  refine ⟨?_⟩
  rw [if_pos hw]
  unfold Oper.wp execOp
  simp only [ho, Fr_eval, haddr, hx, Sem.run_bind, Sem.run_pure, Result.andThen_ok, hrun]
  show K ((Fr n L ps).put o.dst undef) _
  rw [hN]
  exact h _ (H.upd k hk (hchg.mono (fun q hq => by subst hq; rfl)) _ hnew (fun q hq => .inl hq)) hchg
/-- What came in may be appended. -/
theorem read_C {α : Type} {d : Kd α} {B : Option Addr} {ys : List α} (h : Kd.C d w B ys.length ys) : ∃ news : List (List Value), news.length = ys.length ∧ (∀ (j : Nat) (y : α) (c : List Value), ys[j]? = some y → news[j]? = some c → d.K w y c) ∧ ∀ (j : Nat) (row : List Value), news[j]? = some row → ∃ ad, B = some ad ∧ At w (ad.add (j * d.sz)) row ∧ row.length = d.sz ∧ ∀ u ∈ row, u.oneCell' = true := by
  obtain ⟨h1, h2, h3⟩ := h
  rcases Nat.eq_zero_or_pos ys.length with h0 | hp
  · exact ⟨[], by simp [h0], fun j y c _ hc => by simp at hc, fun j row hc => by simp at hc⟩
  obtain ⟨ad, hB, hr⟩ := h3 hp
  have hex : ∀ j, j < ys.length → ∃ c : List Value, ∀ y, ys[j]? = some y → c.length = d.sz ∧ d.K w y c ∧ At w (ad.add (j * d.sz)) c := fun j hj => by
    obtain ⟨c, hc1, hc2, hc3⟩ := hr j ys[j] (List.getElem?_eq_getElem hj)
    refine ⟨c, fun y hy => ?_⟩
    rw [List.getElem?_eq_getElem hj] at hy
    injection hy with hy
    subst hy
    exact ⟨hc1, hc2, fun i u hu => by rw [add_add]; exact hc3 i u hu⟩
  have hch : ∃ g : Nat → List Value, ∀ j, j < ys.length → ∀ y, ys[j]? = some y → (g j).length = d.sz ∧ d.K w y (g j) ∧ At w (ad.add (j * d.sz)) (g j) := by
    refine ⟨fun j => if hj : j < ys.length then Classical.choose (hex j hj) else [], fun j hj y hy => ?_⟩
    simp only [dif_pos hj]
    exact Classical.choose_spec (hex j hj) y hy
  obtain ⟨g, hg⟩ := hch
  refine ⟨(List.range ys.length).map g, by simp, fun j y c hy hc => ?_, fun j row hc => ?_⟩
  · have hj := (List.getElem?_eq_some_iff.1 hy).1
    rw [List.getElem?_map, List.getElem?_range hj] at hc
    simp at hc
    subst hc
    exact (hg j hj y hy).2.1
  · have hj : j < ys.length := by have := (List.getElem?_eq_some_iff.1 hc).1; simpa using this
    rw [List.getElem?_map, List.getElem?_range hj] at hc
    simp at hc
    subst hc
    have := hg j hj ys[j] (List.getElem?_eq_getElem hj)
    exact ⟨ad, hB, this.2.2, this.1, d.K_one this.2.1⟩
/-- Scalars that came in. -/
theorem read_scalar {α : Type} {enc : α → Value} {h1 : ∀ x, (enc x).oneCell' = true} {B : Option Addr} {ys : List α} (h : Kd.C (Kd.scalar enc h1) w B ys.length ys) (j : Nat) (row : List Value) (hj : (ys.map fun y => [enc y])[j]? = some row) : ∃ ad, B = some ad ∧ At w (ad.add (j * 1)) row ∧ row.length = 1 ∧ ∀ u ∈ row, u.oneCell' = true := by
  rw [List.getElem?_map] at hj
  obtain ⟨y, hy, rfl⟩ := Option.map_eq_some_iff.1 hj
  have hjl := (List.getElem?_eq_some_iff.1 hy).1
  obtain ⟨h2, h3, h4⟩ := h
  obtain ⟨ad, hB, hr⟩ := h4 (by omega)
  obtain ⟨c, hc1, hc2, hc3⟩ := hr j y hy
  rw [show c = [enc y] from hc2] at hc3
  exact ⟨ad, hB, fun i u hu => by rw [add_add]; exact hc3 i u hu, rfl, fun u hu => by rw [List.mem_singleton.1 hu]; exact h1 y⟩
/-- The elements of a block known whole. -/
theorem read_blk {g t sz : Nat} {cs : List Value} (h : (blk g cs t).ok w) (news : List (List Value)) (hc : news.flatten = cs) (hl : news.all (fun r => r.length == sz && r.all (·.oneCell')) = true) (j : Nat) (row : List Value) (hj : news[j]? = some row) : ∃ ad, (some ⟨g, 0, none⟩ : Option Addr) = some ad ∧ At w (ad.add (j * sz)) row ∧ row.length = sz ∧ ∀ u ∈ row, u.oneCell' = true := by
  have hm := List.all_eq_true.1 hl row (List.mem_of_getElem? hj)
  simp only [Bool.and_eq_true, beq_iff_eq, List.all_eq_true] at hm
  refine ⟨_, rfl, ?_, hm⟩
  have hseg : ∀ (q : List (List Value)) (j : Nat) (p : List Value), (∀ r ∈ q, r.length = sz) → q[j]? = some p → (q.flatten.drop (j * sz)).take sz = p := by
    intro q
    induction q with
    | nil => intro j p _ h; simp at h
    | cons r q ih =>
      intro j p hq hj
      cases j with
      | zero =>
        simp at hj; subst hj
        rw [Nat.zero_mul, List.drop_zero, List.flatten_cons, ← hq r (List.mem_cons_self ..), List.take_left]
      | succ j =>
        rw [List.getElem?_cons_succ] at hj
        have hr := hq r (List.mem_cons_self ..)
        rw [List.flatten_cons, List.drop_append, List.drop_eq_nil_of_le (by rw [hr, Nat.add_mul]; omega), List.nil_append, show (j + 1) * sz - r.length = j * sz by rw [hr, Nat.add_mul]; omega]
        exact ih j p (fun r hr => hq r (List.mem_cons_of_mem _ hr)) hj
  have hs := hseg news j row (fun r hr => by
    have := List.all_eq_true.1 hl r hr
    simp only [Bool.and_eq_true, beq_iff_eq] at this
    exact this.1) hj
  intro i u hu
  have hA := At.blk h (j * sz) i u
  rw [show (⟨g, 0, none⟩ : Addr).add (j * sz) = ⟨g, j * sz, none⟩ from add_plain g _]
  refine hA ?_
  rw [← hs, hc, List.getElem?_take] at hu
  split at hu
  · exact hu
  · cases hu
end
end Go.Proofs.Ytokpdecpmcbcpaa
