/- BagAll: what stays true while packets are taken (lists alone). -/
import Derived.Test.YtmfbkbklgjpllaaPBagCopiesx0
import Derived.Test.YtmfbkbklgjpllaaEv
import Derived.Lib.Hide
import Derived.WalkSpells
import Derived.Test.YtmfbkbklgjpllaaA6
namespace Go.Proofs.Ytmfbkbklgjpllaa
open Go.RowKit Go.Proofs.YtmfbkbklgjpllaaW.PrintWords Go.Proofs.YtmfbkbklgjpllaaW.PrintLast Go.Proofs.YtmfbkbklgjpllaaW.PrintMore
open Go.Proofs.Ytmfbkbklgjpllaa.PBagCopies
set_option linter.unusedVariables false
set_option linter.unusedSimpArgs false

/-- The i-th packet as the law hands it in: its place is its From. -/
def tgAt (l : List S29) (i : Nat) : S29 := ⟨(i : Int), (pkAt l i).f1, (pkAt l i).f2⟩
def tg (l : List S29) (j : Nat) : List S29 := (List.range j).map (tgAt l)
theorem tg_length (l : List S29) (j : Nat) : (tg l j).length = j := by simp [tg]
theorem tg_succ (l : List S29) (j : Nat) : tg l (j + 1) = tg l j ++ [tgAt l j] := by simp [tg, List.range_succ]
/-- L: what is in the bag yet; sn: which places were seen; k packets were taken. -/
structure Inv (l L : List S29) (sn : List Bool) (k : Nat) : Prop where
  len : L.length + k = l.length
  sl : sn.length = l.length
  mem : ∀ x ∈ L, ∃ i, i < l.length ∧ x = tgAt l i ∧ sn[i]? = some false
  nd : (L.map S29.f0).Nodup
  all : ∀ i, i < l.length → sn[i]? = some true ∨ tgAt l i ∈ L
theorem Inv.init (l : List S29) : Inv l (tg l l.length) (List.replicate l.length false) 0 where
  len := by rw [tg_length]; omega
  sl := by simp
  mem := by
    intro x hx
    simp only [tg, List.mem_map, List.mem_range] at hx
    obtain ⟨i, hi, rfl⟩ := hx
    exact ⟨i, hi, rfl, by simp [hi]⟩
  nd := by
    have h1 : (tg l l.length).map S29.f0 = (List.range l.length).map (fun (i : Nat) => (i : Int)) := by simp [tg, tgAt]
    rw [h1]
    refine List.Pairwise.map _ ?_ (List.nodup_range (n := l.length))
    intro a b hab he
    exact hab (by omega)
  all := fun i hi => .inr (List.mem_map.2 ⟨i, List.mem_range.2 hi, rfl⟩)
theorem map_eraseIdx' {α β : Type} (f : α → β) : ∀ (L : List α) (a : Nat), (L.map f).eraseIdx a = (L.eraseIdx a).map f
  | [], _ => rfl
  | _ :: _, 0 => rfl
  | x :: r, a + 1 => by
    show f x :: (r.map f).eraseIdx a = f x :: (r.eraseIdx a).map f
    rw [map_eraseIdx' f r a]
theorem nodup_not_mem {α : Type} {M : List α} (h : M.Nodup) (a : Nat) (ha : a < M.length) : M[a] ∉ M.eraseIdx a := by
  intro hm
  obtain ⟨i, hi, hne, he⟩ := List.mem_eraseIdx_iff_getElem.1 hm
  rw [List.Nodup, List.pairwise_iff_getElem] at h
  rcases Nat.lt_or_ge i a with hlt | hge
  · exact h i a hi ha hlt he
  · exact h a i ha hi (by omega) he.symm
theorem Inv.step {l L : List S29} {sn : List Bool} {k : Nat} (h : Inv l L sn k) (a : Nat) (ha : a < L.length) :
    ∃ i, i < l.length ∧ pkAt L (a : Int) = tgAt l i ∧ sn[i]? = some false ∧ Inv l (L.eraseIdx a) (sn.set i true) (k + 1) := by
  obtain ⟨i, hi, hx, hs⟩ := h.mem L[a] (List.getElem_mem ha)
  have hmap : ∀ y ∈ L.eraseIdx a, y.f0 ≠ L[a].f0 := by
    intro y hy he
    have h1 := nodup_not_mem h.nd a (by simpa using ha)
    apply h1
    rw [List.getElem_map, ← he, map_eraseIdx']
    exact List.mem_map.2 ⟨y, hy, rfl⟩
  have hxi : L[a].f0 = (i : Int) := by rw [hx]; rfl
  refine ⟨i, hi, (pkAt_nat L a ha).trans hx, hs, ?_, ?_, ?_, ?_, ?_⟩
  · rw [List.length_eraseIdx, if_pos ha]; have := h.len; omega
  · rw [List.length_set]; exact h.sl
  · intro y hy
    obtain ⟨j, hj, hyj, hsj⟩ := h.mem y (List.mem_of_mem_eraseIdx hy)
    refine ⟨j, hj, hyj, ?_⟩
    have hne : i ≠ j := fun e => hmap y hy (by rw [hxi, hyj, e]; rfl)
    rw [List.getElem?_set_ne hne]; exact hsj
  · rw [← map_eraseIdx']
    exact h.nd.sublist (List.eraseIdx_sublist _ _)
  · intro j hj
    by_cases hij : i = j
    · subst hij
      left
      rw [List.getElem?_set_self (by rw [h.sl]; exact hi)]
    · rcases h.all j hj with h1 | h1
      · left; rw [List.getElem?_set_ne hij]; exact h1
      · right
        obtain ⟨q, hq, he⟩ := List.getElem_of_mem h1
        refine List.mem_eraseIdx_iff_getElem.2 ⟨q, hq, ?_, he⟩
        intro hqa
        subst hqa
        apply hij
        have : (tgAt l i).f0 = (tgAt l j).f0 := by rw [← hx, he]
        have h2 : (i : Int) = (j : Int) := this
        omega
theorem Inv.done {l L : List S29} {sn : List Bool} {k : Nat} (h : Inv l L sn k) (h0 : L.length = 0) (i : Nat) (hi : i < l.length) : sn[i]? = some true := by
  rcases h.all i hi with h1 | h1
  · exact h1
  · rw [List.eq_nil_of_length_eq_zero h0] at h1; simp at h1
end Go.Proofs.Ytmfbkbklgjpllaa
