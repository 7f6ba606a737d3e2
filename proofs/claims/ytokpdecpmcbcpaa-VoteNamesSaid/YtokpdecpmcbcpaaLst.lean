/- Rows that are read as rows; elements whose cells lead elsewhere; many resources as one. Nothing of the program. -/
import Derived.Test.YtokpdecpmcbcpaaRow
namespace Go.Proofs.Ytokpdecpmcbcpaa
open Go.RowKit Go.Proofs.YtokpdecpmcbcpaaW.PrintWords Go.Proofs.YtokpdecpmcbcpaaW.PrintLast Go.Proofs.YtokpdecpmcbcpaaW.PrintMore
set_option linter.unusedVariables false
set_option linter.unusedSimpArgs false
theorem ok_to {r : Res} {w w1 : World} {rs : List Res} (h : r.ok w) (H : Hp (fun _ => False) w w1 rs) : r.ok w1 := r.st w w1 h fun k hk => H.to_below.block k (r.lt w h k hk)
theorem At_rowE {e sz n c : Nat} {ad : Addr} {rows : List (List Value)} {w : World} (h : (rowR e sz (some ad) n c rows).ok w) (j : Nat) (hj : j < n) (cs : List Value) (hc : rows.getD j [] = cs) : At w (ad.add (j * sz)) cs := hc ▸ At_row h j hj
theorem read_row {e sz n c : Nat} {A : Option Addr} {rows : List (List Value)} {w : World} (h : (rowR e sz A n c rows).ok w) (j : Nat) (row : List Value) (hj : rows[j]? = some row) : ∃ ad, A = some ad ∧ At w (ad.add (j * sz)) row ∧ row.length = sz ∧ ∀ u ∈ row, u.oneCell' = true := by
  have hl := (rowR_len h).1
  have hjl := (List.getElem?_eq_some_iff.1 hj).1
  obtain ⟨g, rfl⟩ := rowR_some h (by omega)
  have h1 := Kd.R_reads' (d := Kd.raw sz) h
  obtain ⟨q, hK, hA⟩ := C_at h1.2.2 [] j (by omega)
  have hq : rows.getD j [] = row := by rw [List.getD_eq_getElem?_getD, hj]; rfl
  have h2 : q = row := hK.1.trans hq
  subst h2
  exact ⟨_, rfl, hA, hK.2⟩
/-- A row that could be read earlier can be read now. -/
theorem read_to {w w1 : World} {rs : List Res} (H : Hp (fun _ => False) w w1 rs) {news : List (List Value)} {B : Option Addr} {sz : Nat} (h : ∀ (j : Nat) (row : List Value), news[j]? = some row → ∃ ad, B = some ad ∧ At w (ad.add (j * sz)) row ∧ row.length = sz ∧ ∀ u ∈ row, u.oneCell' = true) (j : Nat) (row : List Value) (hj : news[j]? = some row) : ∃ ad, B = some ad ∧ At w1 (ad.add (j * sz)) row ∧ row.length = sz ∧ ∀ u ∈ row, u.oneCell' = true := by
  obtain ⟨ad, h1, h2, h3⟩ := h j row hj
  exact ⟨ad, h1, At.hp h2 H (fun h => h), h3⟩
/-- The cells of these rows lead to the elements. -/
def Elts {α : Type} (d : Kd α) (w : World) (L : List α) (rows : List (List Value)) : Prop := rows.length = L.length ∧ ∀ (j : Nat) (x : α) (c : List Value), L[j]? = some x → rows[j]? = some c → d.K w x c
section
variable {α : Type} {d : Kd α} {w : World} {L L2 : List α} {rows rows2 : List (List Value)}
theorem Elts.nil : Elts d w [] [] := ⟨rfl, fun j x c h => by simp at h⟩
theorem Elts.append (h : Elts d w L rows) (h2 : Elts d w L2 rows2) : Elts d w (L ++ L2) (rows ++ rows2) := by
  refine ⟨by simp [h.1, h2.1], fun j y e hy he => ?_⟩
  by_cases hj : j < L.length
  · rw [List.getElem?_append_left hj] at hy
    rw [List.getElem?_append_left (by rw [h.1]; exact hj)] at he
    exact h.2 j y e hy he
  · rw [List.getElem?_append_right (by omega)] at hy
    rw [List.getElem?_append_right (by rw [h.1]; omega), h.1] at he
    exact h2.2 _ y e hy he
theorem Elts.one {x : α} {c : List Value} (h : d.K w x c) : Elts d w [x] [c] := by
  refine ⟨rfl, fun j y e hy he => ?_⟩
  have hj := (List.getElem?_eq_some_iff.1 hy).1
  have hj0 : j = 0 := by simp at hj; omega
  subst hj0
  simp at hy he
  subst hy; subst he
  exact h
theorem Elts.snoc (h : Elts d w L rows) (x : α) (c : List Value) (hk : d.K w x c) : Elts d w (L ++ [x]) (rows ++ [c]) := h.append (Elts.one hk)
theorem Elts.at (h : Elts d w L rows) (z : α) (j : Nat) (hj : j < L.length) : d.K w (L.getD j z) (rows.getD j []) := by
  have h1 : rows[j]? = some (rows.getD j []) := by rw [List.getD_eq_getElem?_getD, List.getElem?_eq_getElem (by rw [h.1]; exact hj)]; rfl
  have h2 : L[j]? = some (L.getD j z) := by rw [List.getD_eq_getElem?_getD, List.getElem?_eq_getElem hj]; rfl
  exact h.2 j _ _ h2 h1
end
/-- Many resources as one. -/
def starR (rs : List Res) : Res where
  fp k := ∃ r ∈ rs, r.fp k
  ok w := (∀ r ∈ rs, r.ok w) ∧ rs.Pairwise (fun r r' => ∀ k, r.fp k → ¬ r'.fp k)
  lt := fun w h k ⟨r, hr, hk⟩ => r.lt w (h.1 r hr) k hk
  st := fun w w' h hm => ⟨fun r hr => r.st w w' (h.1 r hr) (fun k hk => hm k ⟨r, hr, hk⟩), h.2⟩
section
variable {S0 : Nat → Prop} {W0 w : World} {rs qs : List Res} {a b : Res}
theorem Hp.star_nil (H : Hp S0 W0 w rs) : Hp S0 W0 w (starR [] :: rs) := H.addE (starR []) ⟨by simp, .nil⟩ (by rintro k ⟨r, hr, _⟩; cases hr)
theorem Hp.star_in (H : Hp S0 W0 w (a :: starR qs :: rs)) : Hp S0 W0 w (starR (qs ++ [a]) :: rs) :=
  H.merge (starR (qs ++ [a])) (fun ha hq hd => ⟨fun r hr => by
    rcases List.mem_append.1 hr with h | h
    · exact hq.1 r h
    · rw [List.mem_singleton.1 h]; exact ha, List.pairwise_append.2 ⟨hq.2, by simp, fun r hr r' hr' k hk hk' => by
    rw [List.mem_singleton.1 hr'] at hk'
    exact hd k hk' ⟨r, hr, hk⟩⟩⟩) (fun k ⟨r, hr, hk⟩ => by
    rcases List.mem_append.1 hr with h | h
    · exact .inr ⟨r, h, hk⟩
    · rw [List.mem_singleton.1 h] at hk; exact .inl hk)
theorem Hp.star_out (H : Hp S0 W0 w (starR (a :: qs) :: rs)) : Hp S0 W0 w (a :: starR qs :: rs) := by
  have h := H.ok (starR (a :: qs)) (by simp)
  have hp := List.pairwise_cons.1 h.2
  exact H.split a (starR qs) (h.1 a (by simp)) ⟨fun r hr => h.1 r (by simp [hr]), hp.2⟩ (fun k hk => ⟨a, by simp, hk⟩) (fun k ⟨r, hr, hk⟩ => ⟨r, by simp [hr], hk⟩) (fun k hk ⟨r, hr, hk'⟩ => hp.1 r hr k hk hk')
end
end Go.Proofs.Ytokpdecpmcbcpaa
