/- What the document does with a list of packets (catenaryref13), over rows. -/
import Derived.Test.YtmfbkbklgjpllaaH1
namespace Go.Proofs.Ytmfbkbklgjpllaa
open Go.RowKit Go.Proofs.YtmfbkbklgjpllaaW.PrintWords Go.Proofs.YtmfbkbklgjpllaaW.PrintLast Go.Proofs.YtmfbkbklgjpllaaW.PrintMore
open Go.Proofs.Ytmfbkbklgjpllaa.PBagCopies
set_option linter.unusedVariables false
set_option linter.unusedSimpArgs false
set_option maxRecDepth 100000

theorem ok_to {r : Res} {w w1 : World} {rs : List Res} (h : r.ok w) (H : Hp (fun _ => False) w w1 rs) : r.ok w1 := r.st w w1 h fun k hk => H.to_below.block k (r.lt w h k hk)
theorem At_rowE {e sz n c : Nat} {ad : Addr} {rows : List (List Value)} {w : World} (h : (rowR e sz (some ad) n c rows).ok w) (j : Nat) (hj : j < n) (cs : List Value) (hc : rows.getD j [] = cs) : At w (ad.add (j * sz)) cs := hc ▸ At_row h j hj
theorem read_row {e sz n c : Nat} {A : Option Addr} {rows : List (List Value)} {w : World} (h : (rowR e sz A n c rows).ok w) (j : Nat) (row : List Value) (hj : rows[j]? = some row) : ∃ ad, A = some ad ∧ At w (ad.add (j * sz)) row ∧ row.length = sz ∧ ∀ u ∈ row, u.oneCell' = true := by
  have hl := (rowR_len h).1
  have hjl := (List.getElem?_eq_some_iff.1 hj).1
  obtain ⟨g, rfl⟩ := rowR_some h (by omega)
  have h1 := Kd.R_reads' (d := Kd.raw sz) h
  obtain ⟨q, hK, hA⟩ := C_at h1.2.2 [] j (by omega)
  have hq : rows.getD j [] = row := by rw [List.getD_eq_getElem?_getD, hj]; rfl
  have h2 : q = row := hK.1.trans hq
  subst h2
  exact ⟨_, rfl, hA, hK.2⟩
/-- The cells of a packet. -/
def Shp (c : List Value) : Prop := ∃ a b A l q, c = [.int .i64 a, .int .i64 b, .slice A l q]
/-- A list without its i-th element, so far. -/
def woF {α : Type} (i : Int) (l : List α) : Nat → List α
  | 0 => []
  | k + 1 => if (k : Int) = i then woF i l k else woF i l k ++ (l[k]?).toList
theorem woF_eq {α : Type} {i : Int} {l : List α} {k : Nat} (h : (k : Int) = i) : woF i l (k + 1) = woF i l k := by simp [woF, h]
theorem woF_ne {α : Type} {i : Int} {l : List α} {k : Nat} (h : ¬ (k : Int) = i) (hk : k < l.length) (d : α) : woF i l (k + 1) = woF i l k ++ [l.getD k d] := by
  simp only [woF, if_neg h, List.getElem?_eq_getElem hk, List.getD_eq_getElem?_getD, Option.toList_some, Option.getD_some]
theorem woF_take {α : Type} (i : Int) (l : List α) (k : Nat) (hk : k ≤ l.length) : woF i l k = if 0 ≤ i then (l.take k).eraseIdx i.toNat else l.take k := by
  induction k with
  | zero => simp [woF]
  | succ k ih =>
    have hk' : k < l.length := by omega
    have ih' := ih (by omega)
    have ht : l.take (k + 1) = l.take k ++ [l[k]] := by rw [List.take_add_one, List.getElem?_eq_getElem hk']; rfl
    have hl : (l.take k).length = k := by rw [List.length_take]; omega
    by_cases h : (k : Int) = i
    · rw [woF_eq h, ih', if_pos (by omega), if_pos (by omega), ht, List.eraseIdx_append_of_length_le (by omega), List.eraseIdx_of_length_le (by omega), hl, show i.toNat - k = 0 by omega]
      simp
    · rw [woF_ne h hk' l[k], ih', ht]
      have hg : l.getD k l[k] = l[k] := by rw [List.getD_eq_getElem?_getD, List.getElem?_eq_getElem hk']; rfl
      rw [hg]
      split
      · by_cases h2 : i.toNat < k
        · rw [List.eraseIdx_append_of_lt_length (by omega)]
        · rw [List.eraseIdx_of_length_le (by omega), List.eraseIdx_of_length_le (by rw [List.length_append, hl]; simp; omega)]
      · rfl
theorem woF_in {α : Type} (j : Nat) (l : List α) : woF (j : Int) l l.length = l.eraseIdx j := by
  rw [woF_take _ _ _ (Nat.le_refl _), if_pos (by omega), List.take_length]; rfl
theorem woF_out {α : Type} (i : Int) (l : List α) (h : i < 0 ∨ (l.length : Int) ≤ i) : woF i l l.length = l := by
  rw [woF_take _ _ _ (Nat.le_refl _), List.take_length]
  split
  · rw [List.eraseIdx_of_length_le (by omega)]
  · rfl

theorem rput_c (A : Option Addr) (n c : Nat) (rows : List (List Value)) (a b : Int) (A2 : Option Addr) (l2 c2 : Nat) (w : World) (hR : (rowR 29 3 A n c rows).ok w) (hn : n ≤ 4095) :
    Calls Try.prog 13 #[.slice A n c, .agg #[.int .i64 a, .int .i64 b, .slice A2 l2 c2]] w fun e w' => ∃ A' c', e = .returned (.tuple #[.slice A' (n + 1) c', .int .i64 0]) ∧ Hp (fun _ => False) w w' [rowR 29 3 A' (n + 1) c' (rows ++ [[.int .i64 a, .int .i64 b, .slice A2 l2 c2]])] := by
  have H := Hp.start (fun _ => False) w
  have hrl := (rowR_len hR).1
  refine k_enter (args := [(.slice A n c), (.agg #[(.int .i64 a), (.int .i64 b), (.slice A2 l2 c2)])]) Try.func13 rfl Try.ntmps13 (Nat.le_of_ble_eq_true rfl) ?_
  refine wp_seq ?_
  refine k_list ?_
  refine l_cons (ev_new (cs := [(.int .i64 a), (.int .i64 b), (.slice A2 l2 c2)]) (t := 29) rfl rfl H (by kernel_rfl) ?_)
  intro g1 w1 H1 hg1 hbw1
  refine l_cons (ev_run (v := (.slice none 0 0)) (w1 := w1) rfl rfl (by kernel_rfl) ?_)
  refine l_cons (ev_run (v := (.int .i64 0)) (w1 := w1) rfl rfl (by kernel_rfl) ?_)
  refine l_nil ?_
  refine n_then ?_
  refine wp_seq ?_
  refine wp_seq ?_
  refine k_list ?_
  refine l_cons (ev_run (v := (.slice A n c)) (w1 := w1) rfl rfl (by kernel_rfl) ?_)
  refine l_cons (ev_run (v := (.int .i64 (((n : Nat) : Int)))) (w1 := w1) rfl rfl (by kernel_rfl) ?_)
  refine l_cons (ev_eq (v := (.bool (decide ((((n : Nat) : Int) : Int) > 4095)))) (v' := (.bool false)) (w1 := w1) rfl rfl (by kernel_rfl) (bf (by first | assumption | omega)) ?_)
  refine l_nil ?_
  refine n_then ?_
  refine k_false (by kernel_rfl) ?_
  refine wp_skip ?_
  refine n_then ?_
  refine wp_seq ?_
  refine k_list ?_
  refine l_cons (ev_newRow (cs := []) (t := 29) (len := 0) rfl rfl H1 (by kernel_rfl) ?_)
  intro g2 w2 H2 hg2 hbw2
  refine l_cons (ev_run (v := (.slice A n c)) (w1 := w2) rfl rfl (by kernel_rfl) ?_)
  have H3 := H2.imp 0 rfl (rowR 29 3 (some ⟨g2, 0, none⟩) 0 0 ([] : List (List Value))) (fun h => rowR_blk h ([] : List (List Value)) rfl (by first | rfl | kernel_rfl) (by simp)) (fun k hk => (Option.some.inj hk).symm)
  refine l_cons (ev_append (e := 29) (sz := 3) (z := (.agg #[(.int .i64 0), (.int .i64 0), (.slice none 0 0)])) (bytes := 40) 0 (A := (some (⟨g2, 0, none⟩))) (m0 := 0) (c := 0) (rows := ([] : List (List Value))) rows A n c rfl rfl rfl Try.underlying35 (by kernel_rfl) rfl rfl rfl H3 rfl (by kernel_rfl) (by kernel_rfl) (by first | rfl | (simp; done) | assumption | omega) (fun j row hj => read_row (ok_to hR H3) j row hj) (by first | omega | (simp; omega)) n (by first | rfl | omega) ?_)
  intro Aa1 cc1 w3 H4 hcw3
  refine l_cons (ev_run (v := (.slice Aa1 n cc1)) (w1 := w3) rfl rfl (by kernel_rfl) ?_)
  refine l_nil ?_
  refine n_then ?_
  refine wp_seq ?_
  refine k_list ?_
  refine l_cons (ev_run (v := (.slice Aa1 n cc1)) (w1 := w3) rfl rfl (by kernel_rfl) ?_)
  refine l_cons (ev_run (v := (.agg #[(.int .i64 a), (.int .i64 b), (.slice A2 l2 c2)])) (w1 := w3) rfl rfl (run_ld rfl (by kernel_rfl) (At.blk (H4.get 1 rfl) 0) (by kernel_rfl)) ?_)
  refine l_cons (ev_newRow (cs := [(.int .i64 a), (.int .i64 b), (.slice A2 l2 c2)]) (t := 29) (len := 1) rfl rfl H4 (by kernel_rfl) ?_)
  intro g3 w4 H5 hg3 hbw4
  refine l_cons (ev_append (e := 29) (sz := 3) (z := (.agg #[(.int .i64 0), (.int .i64 0), (.slice none 0 0)])) (bytes := 40) 1 (A := Aa1) (m0 := n) (c := cc1) (rows := (([] : List (List Value)) ++ rows)) ([[(.int .i64 a), (.int .i64 b), (.slice A2 l2 c2)]] : List (List Value)) (some (⟨g3, 0, none⟩)) 1 1 rfl rfl rfl Try.underlying35 (by kernel_rfl) rfl rfl rfl H5 rfl (by kernel_rfl) (by kernel_rfl) (by first | rfl | (simp; done) | assumption | omega) (fun j row hj => read_blk (H5.get 0 rfl) ([[(.int .i64 a), (.int .i64 b), (.slice A2 l2 c2)]] : List (List Value)) rfl (by first | rfl | kernel_rfl) j row hj) (by first | omega | (simp; omega)) (n + 1) (by first | rfl | omega) ?_)
  intro Aa2 cc2 w5 H6 hcw5
  refine l_cons (ev_run (v := (.slice Aa2 ((n + 1)) cc2)) (w1 := w5) rfl rfl (by kernel_rfl) ?_)
  refine l_cons (ev_run (v := (.int .i64 0)) (w1 := w5) rfl rfl (by kernel_rfl) ?_)
  refine l_nil ?_
  refine n_then ?_
  refine wp_ret ?_
  refine b_ret (v := (.tuple #[(.slice Aa2 ((n + 1)) cc2), (.int .i64 0)])) (resL (rs := [.tmp 4, .tmp 5]) (vs := [(.slice Aa2 ((n + 1)) cc2), (.int .i64 0)]) rfl (by simp) (.tmp (by kernel_rfl) (.tmp (by kernel_rfl) .nil))) ?_
  exact ⟨_, _, rfl, H6.sel [1] (by decide)⟩

theorem rat_c (A : Option Addr) (n c : Nat) (rows : List (List Value)) (j : Nat) (a b : Int) (A2 : Option Addr) (l2 c2 : Nat) (w : World) (hR : (rowR 29 3 A n c rows).ok w) (hj : j < n) (hc : rows.getD j [] = [.int .i64 a, .int .i64 b, .slice A2 l2 c2]) :
    Calls Try.prog 14 #[.slice A n c, .int .i64 (j : Nat)] w fun e w' => e = .returned (.tuple #[.agg #[.int .i64 a, .int .i64 b, .slice A2 l2 c2], .int .i64 0]) ∧ Below w.heap.size w w' := by
  have H := Hp.start (fun _ => False) w
  have hrl := rowR_len hR
  obtain ⟨g0, rfl⟩ := rowR_some hR (by omega)
  refine k_enter (args := [(.slice (some (⟨g0, 0, none⟩)) n c), (.int .i64 (((j : Nat) : Int)))]) Try.func14 rfl Try.ntmps14 (Nat.le_of_ble_eq_true rfl) ?_
  refine wp_seq ?_
  refine k_list ?_
  refine l_cons (ev_new (cs := [(.int .i64 0), (.int .i64 0), (.slice none 0 0)]) (t := 29) rfl rfl H (by kernel_rfl) ?_)
  intro g1 w1 H1 hg1 hbw1
  refine l_cons (ev_run (v := (.int .i64 0)) (w1 := w1) rfl rfl (by kernel_rfl) ?_)
  refine l_nil ?_
  refine n_then ?_
  refine wp_seq ?_
  refine wp_seq ?_
  refine k_list ?_
  refine l_cons (ev_run (v := (.int .i64 (((j : Nat) : Int)))) (w1 := w1) rfl rfl (by kernel_rfl) ?_)
  refine l_cons (ev_eq (v := (.bool (decide ((((j : Nat) : Int) : Int) < 0)))) (v' := (.bool false)) (w1 := w1) rfl rfl (by kernel_rfl) (bf (by first | assumption | omega)) ?_)
  refine l_cons (ev_run (v := (.bool false)) (w1 := w1) rfl rfl (by kernel_rfl) ?_)
  refine l_cons (ev_run (v := (.int .i64 (((j : Nat) : Int)))) (w1 := w1) (by kernel_rfl) rfl (by kernel_rfl) ?_)
  refine l_cons (ev_run (v := (.slice (some (⟨g0, 0, none⟩)) n c)) (w1 := w1) (by kernel_rfl) rfl (by kernel_rfl) ?_)
  refine l_cons (ev_run (v := (.int .i64 (((n : Nat) : Int)))) (w1 := w1) (by kernel_rfl) rfl (by kernel_rfl) ?_)
  refine l_cons (ev_eq (v := (.bool (decide ((((j : Nat) : Int) : Int) ≥ ((n : Nat) : Int))))) (v' := (.bool false)) (w1 := w1) (by kernel_rfl) rfl (by kernel_rfl) (bf (by first | assumption | omega)) ?_)
  refine l_cons (ev_run (v := (.bool false)) (w1 := w1) rfl rfl (by kernel_rfl) ?_)
  refine l_nil ?_
  refine n_then ?_
  refine k_false (by kernel_rfl) ?_
  refine wp_skip ?_
  refine n_then ?_
  refine wp_seq ?_
  refine k_list ?_
  refine l_cons (ev_run (v := (.slice (some (⟨g0, 0, none⟩)) n c)) (w1 := w1) rfl rfl (by kernel_rfl) ?_)
  refine l_cons (ev_run (v := (.int .i64 (((j : Nat) : Int)))) (w1 := w1) rfl rfl (by kernel_rfl) ?_)
  refine l_cons (ev_run (v := (.pointer (some (((⟨g0, 0, none⟩ : Addr)).add (j * 3))))) (w1 := w1) rfl rfl (run_ixa (sz := 3) (q := j) (ad := ⟨g0, 0, none⟩) (len := n) (cap := c) (k := .i64) (z := ((j : Nat) : Int)) rfl (by kernel_rfl) (by kernel_rfl) rfl (by kernel_rfl) (by first | rfl | omega) (by first | omega | decide)) ?_)
  refine l_cons (ev_run (v := (.agg #[(.int .i64 a), (.int .i64 b), (.slice A2 l2 c2)])) (w1 := w1) rfl rfl (run_ld rfl (by kernel_rfl) (At_rowE (ok_to hR H1) j hj _ hc) (by kernel_rfl)) ?_)
  refine l_cons (ev_store (i := 0) rfl rfl rfl H1 (k := 0) rfl (by kernel_rfl) (.agg #[(.int .i64 a), (.int .i64 b), (.slice A2 l2 c2)]) (by kernel_rfl) [(.int .i64 a), (.int .i64 b), (.slice A2 l2 c2)] (by kernel_rfl) (by kernel_rfl) (by kernel_rfl) (by kernel_rfl) [(.int .i64 a), (.int .i64 b), (.slice A2 l2 c2)] (by kernel_rfl) ?_)
  intro w2 H2 hcw2
  refine l_cons (ev_run (v := (.int .i64 0)) (w1 := w2) rfl rfl (by kernel_rfl) ?_)
  refine l_nil ?_
  refine n_then ?_
  refine wp_ret ?_
  refine b_ret (v := (.tuple #[(.agg #[(.int .i64 a), (.int .i64 b), (.slice A2 l2 c2)]), (.int .i64 0)])) (resL (rs := [.cell 4 29, .tmp 5]) (vs := [(.agg #[(.int .i64 a), (.int .i64 b), (.slice A2 l2 c2)]), (.int .i64 0)]) rfl (by simp) (.cell (⟨g1, 0, none⟩) [(.int .i64 a), (.int .i64 b), (.slice A2 l2 c2)] (by kernel_rfl) (At.blk (H2.get 0 rfl) 0) (by kernel_rfl) (.tmp (by kernel_rfl) .nil))) ?_
  exact ⟨rfl, H2.to_below⟩

theorem rat_out (v : Option Addr) (n c : Nat) (i : Int) (w : World) (h0 : i < 0 ∨ (n : Int) ≤ i) :
    Calls Try.prog 14 #[.slice v n c, .int .i64 i] w fun e w' => e = .returned (.tuple #[.agg #[.int .i64 0, .int .i64 0, .slice none 0 0], .int .i64 132]) ∧ Below w.heap.size w w' := by
  have H := Hp.start (fun _ => False) w
  by_cases hi0 : i < 0
  · skip
    refine k_enter (args := [(.slice v n c), (.int .i64 i)]) Try.func14 rfl Try.ntmps14 (Nat.le_of_ble_eq_true rfl) ?_
    refine wp_seq ?_
    refine k_list ?_
    refine l_cons (ev_new (cs := [(.int .i64 0), (.int .i64 0), (.slice none 0 0)]) (t := 29) rfl rfl H (by kernel_rfl) ?_)
    intro g1 w1 H1 hg1 hbw1
    refine l_cons (ev_run (v := (.int .i64 0)) (w1 := w1) rfl rfl (by kernel_rfl) ?_)
    refine l_nil ?_
    refine n_then ?_
    refine wp_seq ?_
    refine wp_seq ?_
    refine k_list ?_
    refine l_cons (ev_run (v := (.int .i64 i)) (w1 := w1) rfl rfl (by kernel_rfl) ?_)
    refine l_cons (ev_eq (v := (.bool (decide ((i : Int) < 0)))) (v' := (.bool true)) (w1 := w1) rfl rfl (by kernel_rfl) (bt (by first | assumption | omega)) ?_)
    refine l_cons (ev_run (v := (.bool true)) (w1 := w1) rfl rfl (by kernel_rfl) ?_)
    refine l_cons (ev_skip (by kernel_rfl) rfl ?_)
    refine l_cons (ev_skip (by kernel_rfl) rfl ?_)
    refine l_cons (ev_skip (by kernel_rfl) rfl ?_)
    refine l_cons (ev_skip (by kernel_rfl) rfl ?_)
    refine l_cons (ev_run (v := (.bool true)) (w1 := w1) rfl rfl (by kernel_rfl) ?_)
    refine l_nil ?_
    refine n_then ?_
    refine k_true (by kernel_rfl) ?_
    refine wp_seq ?_
    refine k_list ?_
    refine l_cons (ev_run (v := (.agg #[(.int .i64 0), (.int .i64 0), (.slice none 0 0)])) (w1 := w1) rfl rfl (by kernel_rfl) ?_)
    refine l_cons (ev_store (i := 0) rfl rfl rfl H1 (k := 0) rfl (by kernel_rfl) (.agg #[(.int .i64 0), (.int .i64 0), (.slice none 0 0)]) (by kernel_rfl) [(.int .i64 0), (.int .i64 0), (.slice none 0 0)] (by kernel_rfl) (by kernel_rfl) (by kernel_rfl) (by kernel_rfl) [(.int .i64 0), (.int .i64 0), (.slice none 0 0)] (by kernel_rfl) ?_)
    intro w2 H2 hcw2
    refine l_cons (ev_run (v := (.int .i64 132)) (w1 := w2) rfl rfl (by kernel_rfl) ?_)
    refine l_nil ?_
    refine n_then ?_
    refine wp_ret ?_
    refine r_then ?_
    refine b_ret (v := (.tuple #[(.agg #[(.int .i64 0), (.int .i64 0), (.slice none 0 0)]), (.int .i64 132)])) (resL (rs := [.cell 4 29, .tmp 5]) (vs := [(.agg #[(.int .i64 0), (.int .i64 0), (.slice none 0 0)]), (.int .i64 132)]) rfl (by simp) (.cell (⟨g1, 0, none⟩) [(.int .i64 0), (.int .i64 0), (.slice none 0 0)] (by kernel_rfl) (At.blk (H2.get 0 rfl) 0) (by kernel_rfl) (.tmp (by kernel_rfl) .nil))) ?_
    exact ⟨rfl, H2.to_below⟩
  · skip
    refine k_enter (args := [(.slice v n c), (.int .i64 i)]) Try.func14 rfl Try.ntmps14 (Nat.le_of_ble_eq_true rfl) ?_
    refine wp_seq ?_
    refine k_list ?_
    refine l_cons (ev_new (cs := [(.int .i64 0), (.int .i64 0), (.slice none 0 0)]) (t := 29) rfl rfl H (by kernel_rfl) ?_)
    intro g1 w1 H1 hg1 hbw1
    refine l_cons (ev_run (v := (.int .i64 0)) (w1 := w1) rfl rfl (by kernel_rfl) ?_)
    refine l_nil ?_
    refine n_then ?_
    refine wp_seq ?_
    refine wp_seq ?_
    refine k_list ?_
    refine l_cons (ev_run (v := (.int .i64 i)) (w1 := w1) rfl rfl (by kernel_rfl) ?_)
    refine l_cons (ev_eq (v := (.bool (decide ((i : Int) < 0)))) (v' := (.bool false)) (w1 := w1) rfl rfl (by kernel_rfl) (bf (by first | assumption | omega)) ?_)
    refine l_cons (ev_run (v := (.bool false)) (w1 := w1) rfl rfl (by kernel_rfl) ?_)
    refine l_cons (ev_run (v := (.int .i64 i)) (w1 := w1) (by kernel_rfl) rfl (by kernel_rfl) ?_)
    refine l_cons (ev_run (v := (.slice v n c)) (w1 := w1) (by kernel_rfl) rfl (by kernel_rfl) ?_)
    refine l_cons (ev_run (v := (.int .i64 (((n : Nat) : Int)))) (w1 := w1) (by kernel_rfl) rfl (by kernel_rfl) ?_)
    refine l_cons (ev_eq (v := (.bool (decide ((i : Int) ≥ ((n : Nat) : Int))))) (v' := (.bool true)) (w1 := w1) (by kernel_rfl) rfl (by kernel_rfl) (bt (by first | assumption | omega)) ?_)
    refine l_cons (ev_run (v := (.bool true)) (w1 := w1) rfl rfl (by kernel_rfl) ?_)
    refine l_nil ?_
    refine n_then ?_
    refine k_true (by kernel_rfl) ?_
    refine wp_seq ?_
    refine k_list ?_
    refine l_cons (ev_run (v := (.agg #[(.int .i64 0), (.int .i64 0), (.slice none 0 0)])) (w1 := w1) rfl rfl (by kernel_rfl) ?_)
    refine l_cons (ev_store (i := 0) rfl rfl rfl H1 (k := 0) rfl (by kernel_rfl) (.agg #[(.int .i64 0), (.int .i64 0), (.slice none 0 0)]) (by kernel_rfl) [(.int .i64 0), (.int .i64 0), (.slice none 0 0)] (by kernel_rfl) (by kernel_rfl) (by kernel_rfl) (by kernel_rfl) [(.int .i64 0), (.int .i64 0), (.slice none 0 0)] (by kernel_rfl) ?_)
    intro w2 H2 hcw2
    refine l_cons (ev_run (v := (.int .i64 132)) (w1 := w2) rfl rfl (by kernel_rfl) ?_)
    refine l_nil ?_
    refine n_then ?_
    refine wp_ret ?_
    refine r_then ?_
    refine b_ret (v := (.tuple #[(.agg #[(.int .i64 0), (.int .i64 0), (.slice none 0 0)]), (.int .i64 132)])) (resL (rs := [.cell 4 29, .tmp 5]) (vs := [(.agg #[(.int .i64 0), (.int .i64 0), (.slice none 0 0)]), (.int .i64 132)]) rfl (by simp) (.cell (⟨g1, 0, none⟩) [(.int .i64 0), (.int .i64 0), (.slice none 0 0)] (by kernel_rfl) (At.blk (H2.get 0 rfl) 0) (by kernel_rfl) (.tmp (by kernel_rfl) .nil))) ?_
    exact ⟨rfl, H2.to_below⟩

set_option maxHeartbeats 1000000 in
theorem rwo_c (A : Option Addr) (n c : Nat) (rows : List (List Value)) (i : Int) (w : World) (hR : (rowR 29 3 A n c rows).ok w) (hn : n ≤ 4096) (hS : ∀ x ∈ rows, Shp x) :
    Calls Try.prog 16 #[.slice A n c, .int .i64 i] w fun e w' => ∃ A' c', e = .returned (.slice A' (woF i rows rows.length).length c') ∧ Hp (fun _ => False) w w' [rowR 29 3 A' (woF i rows rows.length).length c' (woF i rows rows.length)] := by
  have H := Hp.start (fun _ => False) w
  have hrl := (rowR_len hR).1
  refine k_enter (args := [(.slice A n c), (.int .i64 i)]) Try.func16 rfl Try.ntmps16 (Nat.le_of_ble_eq_true rfl) ?_
  refine wp_seq ?_
  refine k_list ?_
  refine l_cons (ev_run (v := (.slice none 0 0)) (w1 := w) rfl rfl (by kernel_rfl) ?_)
  refine l_nil ?_
  refine n_then ?_
  refine wp_seq ?_
  refine k_list ?_
  refine l_cons (ev_newRow (cs := []) (t := 29) (len := 0) rfl rfl H (by kernel_rfl) ?_)
  intro g1 w1 H1 hg1 hbw1
  refine l_cons (ev_run (v := (.slice (some (⟨g1, 0, none⟩)) 0 0)) (w1 := w1) rfl rfl (by kernel_rfl) ?_)
  refine l_nil ?_
  refine n_then ?_
  refine wp_seq ?_
  refine wp_seq ?_
  refine k_list ?_
  refine l_cons (ev_run (v := (.slice A n c)) (w1 := w1) rfl rfl (by kernel_rfl) ?_)
  refine l_cons (ev_run (v := (.int .i64 (((n : Nat) : Int)))) (w1 := w1) rfl rfl (by kernel_rfl) ?_)
  refine l_cons (ev_run (v := (.int .i64 0)) (w1 := w1) rfl rfl (by kernel_rfl) ?_)
  refine l_nil ?_
  refine n_then ?_
  refine wp_block ?_
  have H2 := H1.imp 0 rfl (rowR 29 3 (some ⟨g1, 0, none⟩) 0 0 ([] : List (List Value))) (fun h => rowR_blk h ([] : List (List Value)) rfl (by first | rfl | kernel_rfl) (by simp)) (fun k hk => (Option.some.inj hk).symm)
  refine k_loop (σ := Nat × Option Addr × Nat × Nat × List (List Value)) (fun x_ => match x_ with | (k, Ao, no, co, ro) => [(1, (.int .i64 i)), (9, (.slice A n c)), (10, (.int .i64 (((n : Nat) : Int)))), (11, (.int .i64 (((k : Nat) : Int)))), (5, (.slice Ao no co))]) (fun x_ w' => match x_ with | (k, Ao, no, co, ro) => (k ≤ n) ∧ (no ≤ k) ∧ (ro = woF i rows k) ∧ Hp (fun _ => False) w w' [rowR 29 3 Ao no co ro]) (fun x_ => match x_ with | (k, Ao, no, co, ro) => n - k) (0, (some (⟨g1, 0, none⟩)), 0, 0, []) ⟨(by first | rfl | kernel_rfl), (by first | rfl | kernel_rfl), (by first | rfl | kernel_rfl), (by first | rfl | kernel_rfl), (by first | rfl | kernel_rfl), trivial⟩ ⟨(by omega), (Nat.le_refl _), rfl, H2⟩ ?_
  rintro L1 ⟨k, Ao, no, co, ro⟩ w2 ⟨hk, hno, hro, H3⟩
  change Code.wp _ _ _ (Fr _ _ [(1, (.int .i64 i)), (9, (.slice A n c)), (10, (.int .i64 (((n : Nat) : Int)))), (11, (.int .i64 (((k : Nat) : Int)))), (5, (.slice Ao no co))]) _
  rcases Nat.lt_or_ge k n with hlt | hge
  · skip
    obtain ⟨g0, rfl⟩ := rowR_some hR (by omega)
    obtain ⟨pa, pb, pA, pl, pc, hrw⟩ := hS (rows.getD k []) (by rw [List.getD_eq_getElem?_getD, List.getElem?_eq_getElem (by omega)]; exact List.getElem_mem _)
    refine wp_seq ?_
    refine k_list ?_
    refine l_cons (ev_eq (v := (.bool (decide ((((k : Nat) : Int) : Int) < ((n : Nat) : Int))))) (v' := (.bool true)) (w1 := w2) rfl rfl (by kernel_rfl) (bt (by first | assumption | omega)) ?_)
    refine l_nil ?_
    refine n_then ?_
    refine wp_seq ?_
    refine k_true (by kernel_rfl) ?_
    refine wp_skip ?_
    refine n_then ?_
    refine wp_seq ?_
    refine wp_block ?_
    refine wp_seq ?_
    refine k_list ?_
    refine l_cons (ev_run (v := (.int .i64 (((k : Nat) : Int)))) (w1 := w2) rfl rfl (by kernel_rfl) ?_)
    refine l_cons (ev_run (v := (.pointer (some (((⟨g0, 0, none⟩ : Addr)).add (k * 3))))) (w1 := w2) rfl rfl (run_ixa (sz := 3) (q := k) (ad := ⟨g0, 0, none⟩) (len := n) (cap := c) (k := .i64) (z := ((k : Nat) : Int)) rfl (by kernel_rfl) (by kernel_rfl) rfl (by kernel_rfl) (by first | rfl | omega) (by first | omega | decide)) ?_)
    refine l_cons (ev_run (v := (.agg #[(.int .i64 pa), (.int .i64 pb), (.slice pA pl pc)])) (w1 := w2) rfl rfl (run_ld rfl (by kernel_rfl) (At_rowE (ok_to hR H3) k hlt _ hrw) (by kernel_rfl)) ?_)
    refine l_cons (ev_new (cs := [(.int .i64 0), (.int .i64 0), (.slice none 0 0)]) (t := 29) rfl rfl H3 (by kernel_rfl) ?_)
    intro g2 w3 H4 hg2 hbw3
    refine l_cons (ev_run (v := (.int .i64 (((k : Nat) : Int)))) (w1 := w3) rfl rfl (by kernel_rfl) ?_)
    refine l_cons (ev_store (i := 0) rfl rfl rfl H4 (k := 0) rfl (by kernel_rfl) (.agg #[(.int .i64 pa), (.int .i64 pb), (.slice pA pl pc)]) (by kernel_rfl) [(.int .i64 pa), (.int .i64 pb), (.slice pA pl pc)] (by kernel_rfl) (by kernel_rfl) (by kernel_rfl) (by kernel_rfl) [(.int .i64 pa), (.int .i64 pb), (.slice pA pl pc)] (by kernel_rfl) ?_)
    intro w4 H5 hcw4
    refine l_nil ?_
    refine n_then ?_
    refine wp_seq ?_
    refine k_list ?_
    refine l_cons (ev_run (v := (.int .i64 (((k : Nat) : Int)))) (w1 := w4) rfl rfl (by kernel_rfl) ?_)
    refine l_cons (ev_run (v := (.int .i64 i)) (w1 := w4) rfl rfl (by kernel_rfl) ?_)
    by_cases hc1 : (((k : Nat) : Int) : Int) = i
    · skip
      refine l_cons (ev_eq (v := (.bool ((((k : Nat) : Int) : Int) != i))) (v' := (.bool false)) (w1 := w4) rfl rfl (by kernel_rfl) (bnef (by first | assumption | omega)) ?_)
      refine l_nil ?_
      refine n_then ?_
      refine k_false (by kernel_rfl) ?_
      refine wp_skip ?_
      refine n_in ?_
      refine n_then ?_
      refine k_list ?_
      refine l_cons (ev_eq (v := (.int .i64 (IntKind.i64.wrap (((k : Nat) : Int) + 1)))) (v' := (.int .i64 ((((k : Nat) : Int) + 1)))) (w1 := w4) rfl rfl (by kernel_rfl) (wr64 (by omega) (by omega)) ?_)
      refine l_cons (ev_run (v := (.int .i64 ((((k : Nat) : Int) + 1)))) (w1 := w4) rfl rfl (by kernel_rfl) ?_)
      refine l_nil ?_
      refine n_then ?_
      exact k_round (k + 1, Ao, no, co, ro) ⟨(by first | rfl | kernel_rfl), (by first | rfl | kernel_rfl), (by first | rfl | kernel_rfl), (by first | rfl | kernel_rfl), (by first | rfl | kernel_rfl), trivial⟩ ⟨(by omega), (by omega), (by first | (rw [woF_eq (by assumption)]; exact hro) | (rw [woF_ne (by assumption) (by omega) [], hrw, hro])), H5.sel [1] (by decide)⟩ (by first | omega | (simp; omega))
    · skip
      refine l_cons (ev_eq (v := (.bool ((((k : Nat) : Int) : Int) != i))) (v' := (.bool true)) (w1 := w4) rfl rfl (by kernel_rfl) (bnet (by first | assumption | omega)) ?_)
      refine l_nil ?_
      refine n_then ?_
      refine k_true (by kernel_rfl) ?_
      refine k_list ?_
      refine l_cons (ev_run (v := (.slice Ao no co)) (w1 := w4) rfl rfl (by kernel_rfl) ?_)
      refine l_cons (ev_run (v := (.agg #[(.int .i64 pa), (.int .i64 pb), (.slice pA pl pc)])) (w1 := w4) rfl rfl (run_ld rfl (by kernel_rfl) (At.blk (H5.get 0 rfl) 0) (by kernel_rfl)) ?_)
      refine l_cons (ev_newRow (cs := [(.int .i64 pa), (.int .i64 pb), (.slice pA pl pc)]) (t := 29) (len := 1) rfl rfl H5 (by kernel_rfl) ?_)
      intro g3 w5 H6 hg3 hbw5
      refine l_cons (ev_append (e := 29) (sz := 3) (z := (.agg #[(.int .i64 0), (.int .i64 0), (.slice none 0 0)])) (bytes := 40) 2 (A := Ao) (m0 := no) (c := co) (rows := ro) ([[(.int .i64 pa), (.int .i64 pb), (.slice pA pl pc)]] : List (List Value)) (some (⟨g3, 0, none⟩)) 1 1 rfl rfl rfl Try.underlying35 (by kernel_rfl) rfl rfl rfl H6 rfl (by kernel_rfl) (by kernel_rfl) (by first | rfl | (simp; done) | assumption | omega) (fun j row hj => read_blk (H6.get 0 rfl) ([[(.int .i64 pa), (.int .i64 pb), (.slice pA pl pc)]] : List (List Value)) rfl (by first | rfl | kernel_rfl) j row hj) (by first | omega | (simp; omega)) (no + 1) (by first | rfl | omega) ?_)
      intro Aa1 cc1 w6 H7 hcw6
      refine l_cons (ev_run (v := (.slice Aa1 ((no + 1)) cc1)) (w1 := w6) rfl rfl (by kernel_rfl) ?_)
      refine l_nil ?_
      refine n_in ?_
      refine n_then ?_
      refine k_list ?_
      refine l_cons (ev_eq (v := (.int .i64 (IntKind.i64.wrap (((k : Nat) : Int) + 1)))) (v' := (.int .i64 ((((k : Nat) : Int) + 1)))) (w1 := w6) rfl rfl (by kernel_rfl) (wr64 (by omega) (by omega)) ?_)
      refine l_cons (ev_run (v := (.int .i64 ((((k : Nat) : Int) + 1)))) (w1 := w6) rfl rfl (by kernel_rfl) ?_)
      refine l_nil ?_
      refine n_then ?_
      exact k_round (k + 1, Aa1, (no + 1), cc1, ro ++ ([[(.int .i64 pa), (.int .i64 pb), (.slice pA pl pc)]] : List (List Value))) ⟨(by first | rfl | kernel_rfl), (by first | rfl | kernel_rfl), (by first | rfl | kernel_rfl), (by first | rfl | kernel_rfl), (by first | rfl | kernel_rfl), trivial⟩ ⟨(by omega), (by omega), (by first | (rw [woF_eq (by assumption)]; exact hro) | (rw [woF_ne (by assumption) (by omega) [], hrw, hro])), H7.sel [2] (by decide)⟩ (by first | omega | (simp; omega))
  · skip
    refine wp_seq ?_
    refine k_list ?_
    refine l_cons (ev_eq (v := (.bool (decide ((((k : Nat) : Int) : Int) < ((n : Nat) : Int))))) (v' := (.bool false)) (w1 := w2) rfl rfl (by kernel_rfl) (bf (by first | assumption | omega)) ?_)
    refine l_nil ?_
    refine n_then ?_
    refine wp_seq ?_
    refine k_false (by kernel_rfl) ?_
    refine wp_exit ?_
    refine e_then ?_
    refine e_then ?_
    refine e_in ?_
    refine n_then ?_
    refine wp_seq ?_
    refine k_list ?_
    refine l_cons (ev_run (v := (.slice Ao no co)) (w1 := w2) rfl rfl (by kernel_rfl) ?_)
    refine l_cons (ev_run (v := (.slice Ao no co)) (w1 := w2) rfl rfl (by kernel_rfl) ?_)
    refine l_nil ?_
    refine n_then ?_
    refine wp_ret ?_
    refine b_ret (v := (.slice Ao no co)) (resS rfl (.tmp (by kernel_rfl) .nil)) ?_
    have hkn : k = rows.length := by omega
    have hnl := (rowR_len (H3.get 0 rfl)).1
    exact ⟨Ao, co, by rw [← hkn, ← hro, ← hnl], by rw [← hkn, ← hro, ← hnl]; exact H3⟩

/-- At, in a walk's words. -/
theorem atH (w : World) (g : Nat) (F : Nat → Prop) (L : List S29) (h : BagC 0 w g F L) (n : Nat) (hn : n < L.length) (x : S29) (hx : pkAt L (n : Int) = x) :
    Calls Try.prog 10 #[.pointer (some ⟨g, 0, none⟩), .int .i64 n] w fun e w' => ∃ A c, e = .returned (.tuple #[.agg #[.int .i64 x.f0, .int .i64 x.f1, .slice A x.f2.length c], .int .i64 0]) ∧ Hp (fun _ => False) w w' [byR A x.f2.length c x.f2] := by
  refine (at_c 0 w g F L h n (by omega) (by omega)).mono ?_
  rintro e w' ⟨v', he, hr, hb⟩
  rw [hx] at he hr
  obtain ⟨A, c, rfl⟩ := Kd.R_slice hr
  exact ⟨A, c, he, (Hp.start _ _).add hb _ (rowR_scalar hr) (fun k hk => (hr.1 k hk).1)⟩
theorem atOut (w : World) (g : Nat) (F : Nat → Prop) (L : List S29) (h : BagC 0 w g F L) (i : Int) (h0 : i < 0 ∨ (L.length : Int) ≤ i) :
    Calls Try.prog 10 #[.pointer (some ⟨g, 0, none⟩), .int .i64 i] w fun e w' => e = .returned (.tuple #[.agg #[.int .i64 0, .int .i64 0, .slice none 0 0], .int .i64 132]) ∧ Below w.heap.size w w' := at_out 0 w g F L h.is i h0
theorem copyOut (w : World) (g : Nat) (F : Nat → Prop) (L : List S29) (h : BagC 0 w g F L) (i : Int) (h0 : i < 0 ∨ (L.length : Int) ≤ i) :
    Calls Try.prog 11 #[.pointer (some ⟨g, 0, none⟩), .int .i64 i] w fun e w' => e = .returned (.int .i64 132) ∧ Below w.heap.size w w' := copy_out 0 w g F L h.is i h0
theorem takeOut (w : World) (g : Nat) (F : Nat → Prop) (L : List S29) (h : BagC 0 w g F L) (i : Int) (h0 : i < 0 ∨ (L.length : Int) ≤ i) :
    Calls Try.prog 15 #[.pointer (some ⟨g, 0, none⟩), .int .i64 i] w fun e w' => e = .returned (.tuple #[.agg #[.int .i64 0, .int .i64 0, .slice none 0 0], .int .i64 132]) ∧ Below w.heap.size w w' := by
  have H := Hp.start (fun _ => False) w
  refine k_enter (args := [(.pointer (some (⟨g, 0, none⟩))), (.int .i64 i)]) Try.func15 rfl Try.ntmps15 (Nat.le_of_ble_eq_true rfl) ?_
  refine wp_seq ?_
  refine k_list ?_
  refine l_cons (ev_new (cs := [(.int .i64 0), (.int .i64 0), (.slice none 0 0)]) (t := 29) rfl rfl H (by kernel_rfl) ?_)
  intro g1 w1 H1 hg1 hbw1
  refine l_cons (ev_run (v := (.int .i64 0)) (w1 := w1) rfl rfl (by kernel_rfl) ?_)
  refine l_nil ?_
  refine n_then ?_
  refine wp_seq ?_
  refine k_list ?_
  refine l_cons (ev_run (v := (.pointer (some (⟨g, 0, none⟩)))) (w1 := w1) rfl rfl (by kernel_rfl) ?_)
  refine l_cons (ev_run (v := (.int .i64 i)) (w1 := w1) rfl rfl (by kernel_rfl) ?_)
  refine l_cons (ev_call rfl rfl (f := 10) (args := #[(.pointer (some (⟨g, 0, none⟩))), (.int .i64 i)]) (by kernel_rfl) (atOut _ g F L (h.below H1.to_below) i h0) ?_)
  rintro e w2 ⟨rfl, hb_⟩
  refine ⟨_, rfl, ?_⟩
  have H2 := H1.below hb_
  refine l_cons (ev_run (v := (.tuple #[(.agg #[(.int .i64 0), (.int .i64 0), (.slice none 0 0)]), (.int .i64 132)])) (w1 := w2) rfl rfl (by kernel_rfl) ?_)
  refine l_cons (ev_run (v := (.agg #[(.int .i64 0), (.int .i64 0), (.slice none 0 0)])) (w1 := w2) rfl rfl (by kernel_rfl) ?_)
  refine l_cons (ev_run (v := (.int .i64 132)) (w1 := w2) rfl rfl (by kernel_rfl) ?_)
  refine l_cons (ev_new (cs := [(.int .i64 0), (.int .i64 0), (.slice none 0 0)]) (t := 29) rfl rfl H2 (by kernel_rfl) ?_)
  intro g2 w3 H3 hg2 hbw3
  refine l_cons (ev_store (i := 0) rfl rfl rfl H3 (k := 0) rfl (by kernel_rfl) (.agg #[(.int .i64 0), (.int .i64 0), (.slice none 0 0)]) (by kernel_rfl) [(.int .i64 0), (.int .i64 0), (.slice none 0 0)] (by kernel_rfl) (by kernel_rfl) (by kernel_rfl) (by kernel_rfl) [(.int .i64 0), (.int .i64 0), (.slice none 0 0)] (by kernel_rfl) ?_)
  intro w4 H4 hcw4
  refine l_cons (ev_run (v := (.int .i64 132)) (w1 := w4) rfl rfl (by kernel_rfl) ?_)
  refine l_nil ?_
  refine n_then ?_
  refine wp_seq ?_
  refine wp_seq ?_
  refine k_list ?_
  refine l_cons (ev_run (v := (.int .i64 132)) (w1 := w4) rfl rfl (by kernel_rfl) ?_)
  refine l_cons (ev_run (v := (.bool false)) (w1 := w4) rfl rfl (by kernel_rfl) ?_)
  refine l_nil ?_
  refine n_then ?_
  refine k_false (by kernel_rfl) ?_
  refine wp_skip ?_
  refine n_then ?_
  refine wp_seq ?_
  refine k_list ?_
  refine l_cons (ev_run (v := (.agg #[(.int .i64 0), (.int .i64 0), (.slice none 0 0)])) (w1 := w4) rfl rfl (run_ld rfl (by kernel_rfl) (At.blk (H4.get 0 rfl) 0) (by kernel_rfl)) ?_)
  refine l_cons (ev_run (v := (.int .i64 132)) (w1 := w4) rfl rfl (by kernel_rfl) ?_)
  refine l_cons (ev_store (i := 0) rfl rfl rfl H4 (k := 1) rfl (by kernel_rfl) (.agg #[(.int .i64 0), (.int .i64 0), (.slice none 0 0)]) (by kernel_rfl) [(.int .i64 0), (.int .i64 0), (.slice none 0 0)] (by kernel_rfl) (by kernel_rfl) (by kernel_rfl) (by kernel_rfl) [(.int .i64 0), (.int .i64 0), (.slice none 0 0)] (by kernel_rfl) ?_)
  intro w5 H5 hcw5
  refine l_cons (ev_run (v := (.int .i64 132)) (w1 := w5) rfl rfl (by kernel_rfl) ?_)
  refine l_nil ?_
  refine n_then ?_
  refine wp_ret ?_
  refine b_ret (v := (.tuple #[(.agg #[(.int .i64 0), (.int .i64 0), (.slice none 0 0)]), (.int .i64 132)])) (resL (rs := [.cell 4 29, .tmp 5]) (vs := [(.agg #[(.int .i64 0), (.int .i64 0), (.slice none 0 0)]), (.int .i64 132)]) rfl (by simp) (.cell (⟨g1, 0, none⟩) [(.int .i64 0), (.int .i64 0), (.slice none 0 0)] (by kernel_rfl) (At.blk (H5.get 1 rfl) 0) (by kernel_rfl) (.tmp (by kernel_rfl) .nil))) ?_
  exact ⟨rfl, H5.to_below⟩
end Go.Proofs.Ytmfbkbklgjpllaa
