/- BagRuns: the walk of the law. -/
import Derived.Test.YtmfbkbklgjpllaaH3
namespace Go.Proofs.Ytmfbkbklgjpllaa
open Go.RowKit Go.Proofs.YtmfbkbklgjpllaaW.PrintWords Go.Proofs.YtmfbkbklgjpllaaW.PrintLast Go.Proofs.YtmfbkbklgjpllaaW.PrintMore
open Go.Proofs.Ytmfbkbklgjpllaa.PBagCopies
set_option linter.unusedVariables false
set_option linter.unusedSimpArgs false
set_option maxRecDepth 100000

structure S37 where
  f0 : Int
  f1 : S29
  f2 : Int
def z37 : S37 := ⟨0, z29, 0⟩
def k37 : Kd S37 := Kd.iso (Kd.pair (Kd.int .i64) (Kd.pair k29 (Kd.int .i64))) (fun x : S37 => (x.f0, x.f1, x.f2))
theorem k37_open {w : World} {x : S37} {cs : List Value} (h : k37.K w x cs) : ∃ A3 c3, cs = [.int .i64 x.f0, .int .i64 x.f1.f0, .int .i64 x.f1.f1, .slice A3 x.f1.f2.length c3, .int .i64 x.f2] ∧ x.f1.f2.length ≤ c3 ∧ (Kd.int .u8).C w A3 x.f1.f2.length x.f1.f2 := by
  obtain ⟨_, _, rfl, rfl, ⟨_, _, rfl, hp, rfl⟩⟩ := h
  obtain ⟨A3, c3, rfl, l3, g3⟩ := k29_open hp
  exact ⟨A3, c3, rfl, l3, g3⟩
theorem elem37 {w : World} {ad : Addr} {n : Nat} {xs : List S37} (h : Kd.C k37 w (some ad) n xs) (j : Nat) (hj : j < n) : ∃ x A3 c3, x = xs.getD j z37 ∧ At w (ad.add (j * 5)) [(.int .i64 x.f0), (.int .i64 x.f1.f0), (.int .i64 x.f1.f1), (.slice A3 x.f1.f2.length c3), (.int .i64 x.f2)] ∧ x.f1.f2.length ≤ c3 ∧ Kd.C (Kd.int .u8) w A3 x.f1.f2.length x.f1.f2 := by
  obtain ⟨c, hK, hA⟩ := C_at h z37 j hj
  obtain ⟨A3, c3, rfl, l3, g3⟩ := k37_open hK
  exact ⟨_, A3, c3, rfl, hA, l3, g3⟩

/-- The cells of the packets wanted lead to them. -/
def Elts (w : World) (L : List S29) (rows : List (List Value)) : Prop := rows.length = L.length ∧ ∀ (j : Nat) (x : S29) (c : List Value), L[j]? = some x → rows[j]? = some c → k29.K w x c
theorem Elts.nil (w : World) : Elts w [] [] := ⟨rfl, fun j x c h => by simp at h⟩
theorem Elts.snoc {w : World} {L : List S29} {rows : List (List Value)} (h : Elts w L rows) (x : S29) (c : List Value) (hk : k29.K w x c) : Elts w (L ++ [x]) (rows ++ [c]) := by
  refine ⟨by simp [h.1], fun j y d hy hd => ?_⟩
  by_cases hj : j < L.length
  · rw [List.getElem?_append_left hj] at hy
    rw [List.getElem?_append_left (by rw [h.1]; exact hj)] at hd
    exact h.2 j y d hy hd
  · have h1 := (List.getElem?_eq_some_iff.1 hy).1
    have hjl : j = L.length := by simp at h1; omega
    subst hjl
    rw [List.getElem?_append_right (by omega)] at hy
    rw [List.getElem?_append_right (by rw [h.1]; omega), h.1] at hd
    simp at hy hd
    subst hy; subst hd
    exact hk
theorem Elts.erase {w : World} {L : List S29} {rows : List (List Value)} (h : Elts w L rows) (i : Nat) : Elts w (L.eraseIdx i) (rows.eraseIdx i) := by
  refine ⟨by rw [List.length_eraseIdx, List.length_eraseIdx, h.1], fun j y d hy hd => ?_⟩
  rw [List.getElem?_eraseIdx] at hy hd
  split at hy
  · rw [if_pos (by assumption)] at hd; exact h.2 _ y d hy hd
  · rw [if_neg (by assumption)] at hd; exact h.2 _ y d hy hd
theorem Elts.at {w : World} {L : List S29} {rows : List (List Value)} (h : Elts w L rows) (j : Nat) (hj : j < L.length) : ∃ x A c, pkAt L (j : Int) = x ∧ x ∈ L ∧ rows.getD j [] = [.int .i64 x.f0, .int .i64 x.f1, .slice A x.f2.length c] ∧ k29.K w x (rows.getD j []) ∧ Rd w (.slice A x.f2.length c) x.f2 := by
  have h1 : rows[j]? = some (rows.getD j []) := by rw [List.getD_eq_getElem?_getD, List.getElem?_eq_getElem (by rw [h.1]; exact hj)]; rfl
  have h2 : L[j]? = some (L.getD j z29) := by rw [List.getD_eq_getElem?_getD, List.getElem?_eq_getElem hj]; rfl
  have h3 := h.2 j _ _ h2 h1
  obtain ⟨A, c, he, hl, hC⟩ := k29_open h3
  exact ⟨L.getD j z29, A, c, rfl, List.mem_of_getElem? h2, he, h3, Rd_of hl hC⟩
theorem Elts.shp {w : World} {L : List S29} {rows : List (List Value)} (h : Elts w L rows) (c : List Value) (hc : c ∈ rows) : Shp c := by
  obtain ⟨j, hj⟩ := List.getElem?_of_mem hc
  have hjl := (List.getElem?_eq_some_iff.1 hj).1
  obtain ⟨x, A, q, _, _, he, _, _⟩ := h.at j (by rw [← h.1]; exact hjl)
  rw [List.getD_eq_getElem?_getD, hj] at he
  exact ⟨_, _, _, _, _, he⟩
theorem atCases (i : Int) (n : Nat) : (∃ p : Nat, i = (p : Int) ∧ p < n) ∨ (i < 0 ∨ (n : Int) ≤ i) := by
  by_cases h : i < 0 ∨ (n : Int) ≤ i
  · exact .inr h
  · exact .inl ⟨i.toNat, by omega, by omega⟩
theorem Rd.to {w w1 : World} {v : Value} {xs : List Int} {rs : List Res} (h : Rd w v xs) (H : Hp (fun _ => False) w w1 rs) : Rd w1 v xs := by
  obtain ⟨A, c, rfl, hl, hC⟩ := h
  exact ⟨A, c, rfl, hl, C_to hC H⟩
theorem rput_m (A : Option Addr) (n c : Nat) (rows : List (List Value)) (a b : Int) (A2 : Option Addr) (l2 c2 : Nat) (w : World) (m : Nat) (hm : n + 1 = m) (hR : (rowR 29 3 A n c rows).ok w) (hn : n ≤ 4095) :
    Calls Try.prog 13 #[.slice A n c, .agg #[.int .i64 a, .int .i64 b, .slice A2 l2 c2]] w fun e w' => ∃ A' c', e = .returned (.tuple #[.slice A' m c', .int .i64 0]) ∧ Hp (fun _ => False) w w' [rowR 29 3 A' m c' (rows ++ [[.int .i64 a, .int .i64 b, .slice A2 l2 c2]])] := by
  subst hm; exact rput_c A n c rows a b A2 l2 c2 w hR hn
theorem wo_res {A : Option Addr} {c : Nat} {i : Int} {rows ro : List (List Value)} {n : Nat} {rs : List Res} {w w1 : World} (h : woF i rows rows.length = ro) (hn : ro.length = n) (H : Hp (fun _ => False) w w1 (rowR 29 3 A (woF i rows rows.length).length c (woF i rows rows.length) :: rs)) : Hp (fun _ => False) w w1 (rowR 29 3 A n c ro :: rs) := by
  subst h; subst hn; exact H
set_option maxHeartbeats 4000000 in
theorem runs_c (A : Option Addr) (c : Nat) (acts : List S37) (w : World) (hC : Kd.C k37 w A acts.length acts) (hsm : ∀ a ∈ acts, a.f1.f2.length ≤ 140737488351232) :
    Calls Try.prog 4 #[.slice A acts.length c] w fun e w' => e = .returned (.bool true) ∧ Below w.heap.size w w' := by
  have H := Hp.start (fun _ => False) w
  have hlen := C_len hC
  refine k_enter (args := [(.slice A acts.length c)]) Try.func4 rfl Try.ntmps4 (Nat.le_of_ble_eq_true rfl) ?_
  refine wp_seq ?_
  refine k_list ?_
  refine l_cons (ev_run (v := (.bool false)) (w1 := w) rfl rfl (by kernel_rfl) ?_)
  refine l_nil ?_
  refine n_then ?_
  refine wp_seq ?_
  refine wp_seq ?_
  refine k_list ?_
  refine l_cons (ev_call rfl rfl (f := 7) (args := #[]) (by kernel_rfl) (alive_calls _) ?_)
  rintro e w1 ⟨rfl, hb_⟩
  refine ⟨_, rfl, ?_⟩
  have H1 := H.below hb_
  refine l_cons (ev_run (v := (.bool false)) (w1 := w1) rfl rfl (by kernel_rfl) ?_)
  refine l_nil ?_
  refine n_then ?_
  refine k_false (by kernel_rfl) ?_
  refine wp_skip ?_
  refine n_then ?_
  refine wp_seq ?_
  refine k_list ?_
  refine l_cons (ev_call rfl rfl (f := 8) (args := #[]) (by kernel_rfl) (newH _) ?_)
  rintro e w2 ⟨g, F, rfl, hH_⟩
  refine ⟨_, rfl, ?_⟩
  have H2 := H1.join hH_
  have hb_ := hH_.to_below
  refine l_cons (ev_run (v := (.pointer (some (⟨g, 0, none⟩)))) (w1 := w2) rfl rfl (by kernel_rfl) ?_)
  refine l_nil ?_
  refine n_then ?_
  refine wp_seq ?_
  refine wp_seq ?_
  refine k_list ?_
  refine l_cons (ev_run (v := (.slice A acts.length c)) (w1 := w2) rfl rfl (by kernel_rfl) ?_)
  refine l_cons (ev_run (v := (.int .i64 (((acts.length : Nat) : Int)))) (w1 := w2) rfl rfl (by kernel_rfl) ?_)
  by_cases hc1 : (((acts.length : Nat) : Int) : Int) > 300
  · skip
    refine l_cons (ev_eq (v := (.bool (decide ((((acts.length : Nat) : Int) : Int) > 300)))) (v' := (.bool true)) (w1 := w2) rfl rfl (by kernel_rfl) (bt (by first | assumption | omega)) ?_)
    refine l_nil ?_
    refine n_then ?_
    refine k_true (by kernel_rfl) ?_
    refine wp_seq ?_
    refine k_list ?_
    refine l_cons (ev_run (v := (.bool true)) (w1 := w2) rfl rfl (by kernel_rfl) ?_)
    refine l_nil ?_
    refine n_then ?_
    refine wp_ret ?_
    refine r_then ?_
    refine b_ret (v := (.bool true)) (resS rfl (.tmp (by kernel_rfl) .nil)) ?_
    exact ⟨rfl, H2.to_below⟩
  · skip
    refine l_cons (ev_eq (v := (.bool (decide ((((acts.length : Nat) : Int) : Int) > 300)))) (v' := (.bool false)) (w1 := w2) rfl rfl (by kernel_rfl) (bf (by first | assumption | omega)) ?_)
    refine l_nil ?_
    refine n_then ?_
    refine k_false (by kernel_rfl) ?_
    refine wp_skip ?_
    refine n_then ?_
    refine wp_seq ?_
    refine k_list ?_
    refine l_cons (ev_newRow (cs := []) (t := 29) (len := 0) rfl rfl H2 (by kernel_rfl) ?_)
    intro g1 w3 H3 hg1 hbw3
    refine l_cons (ev_run (v := (.slice (some (⟨g1, 0, none⟩)) 0 0)) (w1 := w3) rfl rfl (by kernel_rfl) ?_)
    refine l_nil ?_
    refine n_then ?_
    refine wp_seq ?_
    refine wp_seq ?_
    refine k_list ?_
    refine l_cons (ev_run (v := (.slice A acts.length c)) (w1 := w3) rfl rfl (by kernel_rfl) ?_)
    refine l_cons (ev_run (v := (.int .i64 (((acts.length : Nat) : Int)))) (w1 := w3) rfl rfl (by kernel_rfl) ?_)
    refine l_cons (ev_run (v := (.int .i64 0)) (w1 := w3) rfl rfl (by kernel_rfl) ?_)
    refine l_nil ?_
    refine n_then ?_
    refine wp_block ?_
    have H4 := H3.imp 0 rfl (rowR 29 3 (some ⟨g1, 0, none⟩) 0 0 ([] : List (List Value))) (fun h => rowR_blk h ([] : List (List Value)) rfl (by first | rfl | kernel_rfl) (by simp)) (fun k hk => (Option.some.inj hk).symm)
    refine k_loop (σ := Nat × List S29 × List (List Value) × Option Addr × Nat × (Nat → Prop)) (fun x_ => match x_ with | (i, L, rows, Aw, cw, F) => [(0, (.slice A acts.length c)), (3, (.pointer (some (⟨g, 0, none⟩)))), (4, (.slice Aw L.length cw)), (27, (.slice A acts.length c)), (28, (.int .i64 (((acts.length : Nat) : Int)))), (29, (.int .i64 (((i : Nat) : Int))))]) (fun x_ w' => match x_ with | (i, L, rows, Aw, cw, F) => (i ≤ acts.length) ∧ (L.length ≤ i) ∧ (Elts w L rows) ∧ Hp (fun _ => False) w w' [rowR 29 3 Aw L.length cw rows, bagR g F L]) (fun x_ => match x_ with | (i, L, rows, Aw, cw, F) => acts.length - i) (0, [], [], (some (⟨g1, 0, none⟩)), 0, F) ⟨(by first | rfl | kernel_rfl), (by first | rfl | kernel_rfl), (by first | rfl | kernel_rfl), (by first | rfl | kernel_rfl), (by first | rfl | kernel_rfl), (by first | rfl | kernel_rfl), trivial⟩ ⟨(by omega), (Nat.le_refl _), (Elts.nil w), H4⟩ ?_
    rintro L1 ⟨i, L, rows, Aw, cw, F⟩ w4 ⟨hi, hL, hE, H5⟩
    change Code.wp _ _ _ (Fr _ _ [(0, (.slice A acts.length c)), (3, (.pointer (some (⟨g, 0, none⟩)))), (4, (.slice Aw L.length cw)), (27, (.slice A acts.length c)), (28, (.int .i64 (((acts.length : Nat) : Int)))), (29, (.int .i64 (((i : Nat) : Int))))]) _
    rcases Nat.lt_or_ge i acts.length with hlt | hge
    · skip
      obtain ⟨ad, rfl⟩ := C_some hC (by omega) z37
      obtain ⟨x, Ax3, cx3, hx, hxA, lx3, gx3⟩ := elem37 hC i hlt
      have hpk : x.f1.f2.length ≤ 140737488351232 := hsm x (by rw [hx]; exact getD_mem hlt)
      refine wp_seq ?_
      refine k_list ?_
      refine l_cons (ev_eq (v := (.bool (decide ((((i : Nat) : Int) : Int) < ((acts.length : Nat) : Int))))) (v' := (.bool true)) (w1 := w4) rfl rfl (by kernel_rfl) (bt (by first | assumption | omega)) ?_)
      refine l_nil ?_
      refine n_then ?_
      refine wp_seq ?_
      refine k_true (by kernel_rfl) ?_
      refine wp_skip ?_
      refine n_then ?_
      refine wp_seq ?_
      refine wp_block ?_
      refine wp_seq ?_
      refine k_list ?_
      refine l_cons (ev_run (v := (.pointer (some ((ad).add (i * 5))))) (w1 := w4) rfl rfl (run_ixa (sz := 5) (q := i) (ad := ad) (len := acts.length) (cap := c) (k := .i64) (z := ((i : Nat) : Int)) rfl (by kernel_rfl) (by kernel_rfl) rfl (by kernel_rfl) (by first | rfl | omega) (by first | omega | decide)) ?_)
      refine l_cons (ev_run (v := (.agg #[(.int .i64 x.f0), (.int .i64 x.f1.f0), (.int .i64 x.f1.f1), (.slice Ax3 x.f1.f2.length cx3), (.int .i64 x.f2)])) (w1 := w4) rfl rfl (run_ld rfl (by kernel_rfl) (At.hp hxA H5 (fun h => h)) (by kernel_rfl)) ?_)
      refine l_cons (ev_new (cs := [(.int .i64 0), (.int .i64 0), (.int .i64 0), (.slice none 0 0), (.int .i64 0)]) (t := 37) rfl rfl H5 (by kernel_rfl) ?_)
      intro g2 w5 H6 hg2 hbw5
      refine l_cons (ev_store (i := 0) rfl rfl rfl H6 (k := 0) rfl (by kernel_rfl) (.agg #[(.int .i64 x.f0), (.int .i64 x.f1.f0), (.int .i64 x.f1.f1), (.slice Ax3 x.f1.f2.length cx3), (.int .i64 x.f2)]) (by kernel_rfl) [(.int .i64 x.f0), (.int .i64 x.f1.f0), (.int .i64 x.f1.f1), (.slice Ax3 x.f1.f2.length cx3), (.int .i64 x.f2)] (by kernel_rfl) (by kernel_rfl) (by kernel_rfl) (by kernel_rfl) [(.int .i64 x.f0), (.int .i64 x.f1.f0), (.int .i64 x.f1.f1), (.slice Ax3 x.f1.f2.length cx3), (.int .i64 x.f2)] (by kernel_rfl) ?_)
      intro w6 H7 hcw6
      refine l_nil ?_
      refine n_then ?_
      refine wp_seq ?_
      refine k_list ?_
      refine l_cons (ev_run (v := (.agg #[(.int .i64 0), (.int .i64 0), (.slice none 0 0)])) (w1 := w6) rfl rfl (by kernel_rfl) ?_)
      refine l_cons (ev_run (v := (.agg #[(.int .i64 0), (.int .i64 0), (.slice none 0 0)])) (w1 := w6) rfl rfl (by kernel_rfl) ?_)
      refine l_cons (ev_new (cs := [(.int .i64 0), (.int .i64 0), (.slice none 0 0)]) (t := 29) rfl rfl H7 (by kernel_rfl) ?_)
      intro g3 w7 H8 hg3 hbw7
      refine l_cons (ev_new (cs := [(.int .i64 0), (.int .i64 0), (.slice none 0 0)]) (t := 29) rfl rfl H8 (by kernel_rfl) ?_)
      intro g4 w8 H9 hg4 hbw8
      refine l_cons (ev_store (i := 0) rfl rfl rfl H9 (k := 1) rfl (by kernel_rfl) (.agg #[(.int .i64 0), (.int .i64 0), (.slice none 0 0)]) (by kernel_rfl) [(.int .i64 0), (.int .i64 0), (.slice none 0 0)] (by kernel_rfl) (by kernel_rfl) (by kernel_rfl) (by kernel_rfl) [(.int .i64 0), (.int .i64 0), (.slice none 0 0)] (by kernel_rfl) ?_)
      intro w9 H10 hcw9
      refine l_cons (ev_store (i := 0) rfl rfl rfl H10 (k := 0) rfl (by kernel_rfl) (.agg #[(.int .i64 0), (.int .i64 0), (.slice none 0 0)]) (by kernel_rfl) [(.int .i64 0), (.int .i64 0), (.slice none 0 0)] (by kernel_rfl) (by kernel_rfl) (by kernel_rfl) (by kernel_rfl) [(.int .i64 0), (.int .i64 0), (.slice none 0 0)] (by kernel_rfl) ?_)
      intro w10 H11 hcw10
      refine l_nil ?_
      refine n_then ?_
      refine wp_seq ?_
      refine k_list ?_
      refine l_cons (ev_run (v := (.int .i64 0)) (w1 := w10) rfl rfl (by kernel_rfl) ?_)
      refine l_cons (ev_run (v := (.int .i64 0)) (w1 := w10) rfl rfl (by kernel_rfl) ?_)
      refine l_nil ?_
      refine n_then ?_
      refine k_meet (n := 184) (σ := List S29 × List (List Value) × Option Addr × Nat × (Nat → Prop) × Int × Int × Int × Option Addr × Nat × List Int × Option Addr × Nat) (fun x_ => match x_ with | (L2, rows2, Aw2, cw2, F2_, u0, u1, e0, Ap, cp, ys, Aq, cq) => [(0, (.slice (some (ad)) acts.length c)), (3, (.pointer (some (⟨g, 0, none⟩)))), (27, (.slice (some (ad)) acts.length c)), (28, (.int .i64 (((acts.length : Nat) : Int)))), (29, (.int .i64 (((i : Nat) : Int)))), (4, (.slice Aw2 L2.length cw2)), (7, (.pointer (some (⟨g3, 0, none⟩)))), (8, (.pointer (some (⟨g4, 0, none⟩)))), (9, (.int .i64 e0)), (10, (.int .i64 e0))]) (fun x_ w' => match x_ with | (L2, rows2, Aw2, cw2, F2_, u0, u1, e0, Ap, cp, ys, Aq, cq) => (L2.length ≤ i + 1) ∧ (Elts w L2 rows2) ∧ (Rd w (.slice Aq ys.length cq) ys) ∧ Hp (fun _ => False) w w' [rowR 5 1 Ap ys.length cp ((ys).map fun y => [Value.int .u8 y]), blk g3 [(.int .i64 u0), (.int .i64 u1), (.slice Ap ys.length cp)] 29, blk g4 [(.int .i64 u0), (.int .i64 u1), (.slice Aq ys.length cq)] 29, rowR 29 3 Aw2 L2.length cw2 rows2, bagR g F2_ L2]) ?_ ?_
      · skip
        refine wp_seq ?_
        refine k_list ?_
        refine l_cons (ev_run (v := (.pointer (some (⟨g2, 0, none⟩)))) (w1 := w10) rfl rfl (by kernel_rfl) ?_)
        refine l_cons (ev_run (v := (.int .i64 x.f0)) (w1 := w10) rfl rfl (run_ld rfl (by kernel_rfl) (At.blk (H11.get 2 rfl) 0) (by kernel_rfl)) ?_)
        refine l_nil ?_
        refine n_then ?_
        refine wp_block ?_
        refine wp_seq ?_
        refine k_list ?_
        by_cases hc2 : (x.f0 : Int) = 0
        · skip
          refine l_cons (ev_eq (v := (.bool ((x.f0 : Int) == 0))) (v' := (.bool true)) (w1 := w10) rfl rfl (by kernel_rfl) (beqt (by first | assumption | omega)) ?_)
          refine l_cons (ev_run (v := (.bool true)) (w1 := w10) rfl rfl (by kernel_rfl) ?_)
          refine l_nil ?_
          refine n_then ?_
          refine k_true (by kernel_rfl) ?_
          refine wp_seq ?_
          refine k_list ?_
          refine l_cons (ev_newRow (cs := []) (t := 5) (len := 0) rfl rfl H11 (by kernel_rfl) ?_)
          intro g5 w11 H12 hg5 hbw11
          refine l_cons (ev_run (v := (.pointer (some (⟨g2, 1, none⟩)))) (w1 := w11) rfl rfl (by kernel_rfl) ?_)
          refine l_cons (ev_run (v := (.pointer (some (⟨g2, 3, none⟩)))) (w1 := w11) rfl rfl (by kernel_rfl) ?_)
          refine l_cons (ev_run (v := (.slice Ax3 x.f1.f2.length cx3)) (w1 := w11) rfl rfl (run_ld rfl (by kernel_rfl) (At.blk (H12.get 3 rfl) 3) (by kernel_rfl)) ?_)
          have H13 := H12.imp 0 rfl (rowR 5 1 (some ⟨g5, 0, none⟩) 0 0 ([] : List (List Value))) (fun h => rowR_blk h ([] : List (List Value)) rfl (by first | rfl | kernel_rfl) (by simp)) (fun k hk => (Option.some.inj hk).symm)
          refine l_cons (ev_append (e := 5) (sz := 1) (z := (.int .u8 0)) (bytes := 1) 0 (A := (some (⟨g5, 0, none⟩))) (m0 := 0) (c := 0) (rows := ([] : List (List Value))) (x.f1.f2.map fun y => [Value.int .u8 y]) Ax3 x.f1.f2.length cx3 rfl rfl rfl Try.underlying27 (by kernel_rfl) rfl rfl rfl H13 rfl (by kernel_rfl) (by kernel_rfl) (by first | rfl | (simp; done) | assumption | omega) (fun j row hj => read_scalar (C_to gx3 H13) j row hj) (by first | omega | (simp; omega)) x.f1.f2.length (by first | rfl | omega) ?_)
          intro Aa1 cc1 w12 H14 hcw12
          refine l_cons (ev_run (v := (.slice Aa1 x.f1.f2.length cc1)) (w1 := w12) rfl rfl (by kernel_rfl) ?_)
          refine l_nil ?_
          refine n_then ?_
          refine wp_seq ?_
          refine k_list ?_
          refine l_cons (ev_run (v := (.pointer (some (⟨g, 0, none⟩)))) (w1 := w12) rfl rfl (by kernel_rfl) ?_)
          refine l_cons (ev_run (v := (.pointer (some (⟨g2, 1, none⟩)))) (w1 := w12) rfl rfl (by kernel_rfl) ?_)
          refine l_cons (ev_run (v := (.pointer (some (⟨g2, 1, none⟩)))) (w1 := w12) rfl rfl (by kernel_rfl) ?_)
          refine l_cons (ev_run (v := (.int .i64 x.f1.f0)) (w1 := w12) rfl rfl (run_ld rfl (by kernel_rfl) (At.blk (H14.get 3 rfl) 1) (by kernel_rfl)) ?_)
          refine l_cons (ev_run (v := (.pointer (some (⟨g2, 1, none⟩)))) (w1 := w12) rfl rfl (by kernel_rfl) ?_)
          refine l_cons (ev_run (v := (.pointer (some (⟨g2, 2, none⟩)))) (w1 := w12) rfl rfl (by kernel_rfl) ?_)
          refine l_cons (ev_run (v := (.int .i64 x.f1.f1)) (w1 := w12) rfl rfl (run_ld rfl (by kernel_rfl) (At.blk (H14.get 3 rfl) 2) (by kernel_rfl)) ?_)
          refine l_cons (ev_run (v := (.slice Aa1 x.f1.f2.length cc1)) (w1 := w12) rfl rfl (by kernel_rfl) ?_)
          refine l_cons (ev_run (v := (.agg #[(.int .i64 x.f1.f0), (.int .i64 x.f1.f1), (.slice Aa1 x.f1.f2.length cc1)])) (w1 := w12) rfl rfl (by kernel_rfl) ?_)
          refine l_cons (ev_call rfl rfl (f := 9) (args := #[(.pointer (some (⟨g, 0, none⟩))), (.agg #[(.int .i64 x.f1.f0), (.int .i64 x.f1.f1), (.slice Aa1 x.f1.f2.length cc1)])]) (by kernel_rfl) (put_c 0 _ g F L (H14.get 5 rfl) (Nat.zero_le _) (⟨x.f1.f0, x.f1.f1, x.f1.f2⟩ : S29) _ (Rd_of (byR_le (H14.get 0 rfl)) (byR_C (H14.get 0 rfl))) hpk (by omega)) ?_)
          rintro e w13 ⟨F1, rfl, hG, hcw13, hf_⟩
          refine ⟨_, rfl, ?_⟩
          have H15 := H14.upd 5 rfl hcw13 (bagR g F1 (L ++ [(⟨x.f1.f0, x.f1.f1, x.f1.f2⟩ : S29)])) hG hf_
          refine l_cons (ev_run (v := (.int .i64 0)) (w1 := w13) rfl rfl (by kernel_rfl) ?_)
          refine l_nil ?_
          refine n_then ?_
          refine wp_seq ?_
          refine wp_seq ?_
          refine k_list ?_
          refine l_cons (ev_run (v := (.slice Aa1 x.f1.f2.length cc1)) (w1 := w13) rfl rfl (by kernel_rfl) ?_)
          refine l_cons (ev_run (v := (.int .i64 (((x.f1.f2.length : Nat) : Int)))) (w1 := w13) rfl rfl (by kernel_rfl) ?_)
          refine l_cons (ev_run (v := (.int .i64 0)) (w1 := w13) rfl rfl (by kernel_rfl) ?_)
          refine l_nil ?_
          refine n_then ?_
          refine wp_block ?_
          refine k_loop (σ := Nat × List Int) (fun x_ => match x_ with | (j, ys) => [(0, (.slice (some (ad)) acts.length c)), (3, (.pointer (some (⟨g, 0, none⟩)))), (4, (.slice Aw L.length cw)), (6, (.pointer (some (⟨g2, 0, none⟩)))), (7, (.pointer (some (⟨g3, 0, none⟩)))), (8, (.pointer (some (⟨g4, 0, none⟩)))), (9, (.int .i64 0)), (10, (.int .i64 0)), (27, (.slice (some (ad)) acts.length c)), (28, (.int .i64 (((acts.length : Nat) : Int)))), (29, (.int .i64 (((i : Nat) : Int)))), (54, (.slice Aa1 x.f1.f2.length cc1)), (11, (.slice Aa1 x.f1.f2.length cc1)), (55, (.int .i64 (((x.f1.f2.length : Nat) : Int)))), (56, (.int .i64 (((j : Nat) : Int))))]) (fun x_ w' => match x_ with | (j, ys) => (j ≤ x.f1.f2.length) ∧ (ys.length = x.f1.f2.length) ∧ Hp (fun _ => False) w w' [blk g4 [(.int .i64 0), (.int .i64 0), (.slice none 0 0)] 29, blk g3 [(.int .i64 0), (.int .i64 0), (.slice none 0 0)] 29, blk g2 [(.int .i64 x.f0), (.int .i64 x.f1.f0), (.int .i64 x.f1.f1), (.slice Ax3 x.f1.f2.length cx3), (.int .i64 x.f2)] 37, rowR 5 1 Aa1 x.f1.f2.length cc1 ((ys).map fun y => [Value.int .u8 y]), rowR 29 3 Aw L.length cw rows, bagR g F1 (L ++ [(⟨x.f1.f0, x.f1.f1, x.f1.f2⟩ : S29)])]) (fun x_ => match x_ with | (j, ys) => x.f1.f2.length - j) (0, x.f1.f2) ⟨(by first | rfl | kernel_rfl), (by first | rfl | kernel_rfl), (by first | rfl | kernel_rfl), (by first | rfl | kernel_rfl), (by first | rfl | kernel_rfl), (by first | rfl | kernel_rfl), (by first | rfl | kernel_rfl), (by first | rfl | kernel_rfl), (by first | rfl | kernel_rfl), (by first | rfl | kernel_rfl), (by first | rfl | kernel_rfl), (by first | rfl | kernel_rfl), (by first | rfl | kernel_rfl), (by first | rfl | kernel_rfl), (by first | rfl | kernel_rfl), trivial⟩ ⟨(by omega), rfl, H15.sel [1, 2, 3, 0, 4, 5] (by decide)⟩ ?_
          rintro L2 ⟨j, ys⟩ w14 ⟨hj, hy, H16⟩
          change Code.wp _ _ _ (Fr _ _ [(0, (.slice (some (ad)) acts.length c)), (3, (.pointer (some (⟨g, 0, none⟩)))), (4, (.slice Aw L.length cw)), (6, (.pointer (some (⟨g2, 0, none⟩)))), (7, (.pointer (some (⟨g3, 0, none⟩)))), (8, (.pointer (some (⟨g4, 0, none⟩)))), (9, (.int .i64 0)), (10, (.int .i64 0)), (27, (.slice (some (ad)) acts.length c)), (28, (.int .i64 (((acts.length : Nat) : Int)))), (29, (.int .i64 (((i : Nat) : Int)))), (54, (.slice Aa1 x.f1.f2.length cc1)), (11, (.slice Aa1 x.f1.f2.length cc1)), (55, (.int .i64 (((x.f1.f2.length : Nat) : Int)))), (56, (.int .i64 (((j : Nat) : Int))))]) _
          rcases Nat.lt_or_ge j x.f1.f2.length with hlt | hge
          · skip
            obtain ⟨gs, hgs⟩ := rowR_some (H16.get 3 rfl) (by omega)
            subst hgs
            have hv : ys[j]? = some (ys.getD j 0) := by rw [List.getD_eq_getElem?_getD, List.getElem?_eq_getElem (by omega)]; rfl
            refine wp_seq ?_
            refine k_list ?_
            refine l_cons (ev_eq (v := (.bool (decide ((((j : Nat) : Int) : Int) < ((x.f1.f2.length : Nat) : Int))))) (v' := (.bool true)) (w1 := w14) rfl rfl (by kernel_rfl) (bt (by first | assumption | omega)) ?_)
            refine l_nil ?_
            refine n_then ?_
            refine wp_seq ?_
            refine k_true (by kernel_rfl) ?_
            refine wp_skip ?_
            refine n_then ?_
            refine wp_seq ?_
            refine wp_block ?_
            refine wp_seq ?_
            refine k_list ?_
            refine l_cons (ev_run (v := (.int .i64 (((j : Nat) : Int)))) (w1 := w14) rfl rfl (by kernel_rfl) ?_)
            refine l_cons (ev_run (v := (.int .i64 (((j : Nat) : Int)))) (w1 := w14) rfl rfl (by kernel_rfl) ?_)
            refine l_nil ?_
            refine n_then ?_
            refine k_list ?_
            refine l_cons (ev_run (v := (.slice (some (⟨gs, 0, none⟩)) x.f1.f2.length cc1)) (w1 := w14) rfl rfl (by kernel_rfl) ?_)
            refine l_cons (ev_run (v := (.int .i64 (((j : Nat) : Int)))) (w1 := w14) rfl rfl (by kernel_rfl) ?_)
            refine l_cons (ev_run (v := (.pointer (some (((⟨gs, 0, none⟩ : Addr)).add (j * 1))))) (w1 := w14) rfl rfl (run_ixa (sz := 1) (q := j) (ad := ⟨gs, 0, none⟩) (len := x.f1.f2.length) (cap := cc1) (k := .i64) (z := ((j : Nat) : Int)) rfl (by kernel_rfl) (by kernel_rfl) rfl (by kernel_rfl) (by first | rfl | omega) (by first | omega | decide)) ?_)
            refine l_cons (ev_run (v := (.int .u8 (ys.getD j 0))) (w1 := w14) rfl rfl (run_ld rfl (by kernel_rfl) (At_scal (h1 := fun _ => rfl) (xs := ys) (enc := Value.int .u8) (H16.get 3 rfl) j _ hv) (by kernel_rfl)) ?_)
            refine l_cons (ev_run (v := (.int .u8 (IntKind.u8.wrap (((BitVec.ofInt IntKind.u8.bits (ys.getD j 0)) ^^^ (BitVec.ofInt IntKind.u8.bits (255))).toNat : Int)))) (w1 := w14) rfl rfl (by kernel_rfl) ?_)
            refine l_cons (ev_run (v := (.pointer (some (((⟨gs, 0, none⟩ : Addr)).add (j * 1))))) (w1 := w14) rfl rfl (run_ixa (sz := 1) (q := j) (ad := ⟨gs, 0, none⟩) (len := x.f1.f2.length) (cap := cc1) (k := .i64) (z := ((j : Nat) : Int)) rfl (by kernel_rfl) (by kernel_rfl) rfl (by kernel_rfl) (by first | rfl | omega) (by first | omega | decide)) ?_)
            refine l_cons (ev_setscal (enc := Value.int .u8) (k := 3) (g := gs) (m := x.f1.f2.length) (c := cc1) (j := j) (xs := ys) (fun _ => rfl) rfl rfl rfl H16 rfl (by kernel_rfl) (IntKind.u8.wrap (((BitVec.ofInt IntKind.u8.bits (ys.getD j 0)) ^^^ (BitVec.ofInt IntKind.u8.bits (255))).toNat : Int)) (by kernel_rfl) (by kernel_rfl) (by omega) ?_)
            intro w15 H17 hcw15
            refine l_nil ?_
            refine n_in ?_
            refine n_then ?_
            refine k_list ?_
            refine l_cons (ev_eq (v := (.int .i64 (IntKind.i64.wrap (((j : Nat) : Int) + 1)))) (v' := (.int .i64 ((((j : Nat) : Int) + 1)))) (w1 := w15) rfl rfl (by kernel_rfl) (wr64 (by omega) (by omega)) ?_)
            refine l_cons (ev_run (v := (.int .i64 ((((j : Nat) : Int) + 1)))) (w1 := w15) rfl rfl (by kernel_rfl) ?_)
            refine l_nil ?_
            refine n_then ?_
            exact k_round (j + 1, (ys).set j (IntKind.u8.wrap (((BitVec.ofInt IntKind.u8.bits (ys.getD j 0)) ^^^ (BitVec.ofInt IntKind.u8.bits (255))).toNat : Int))) ⟨(by first | rfl | kernel_rfl), (by first | rfl | kernel_rfl), (by first | rfl | kernel_rfl), (by first | rfl | kernel_rfl), (by first | rfl | kernel_rfl), (by first | rfl | kernel_rfl), (by first | rfl | kernel_rfl), (by first | rfl | kernel_rfl), (by first | rfl | kernel_rfl), (by first | rfl | kernel_rfl), (by first | rfl | kernel_rfl), (by first | rfl | kernel_rfl), (by first | rfl | kernel_rfl), (by first | rfl | kernel_rfl), (by first | rfl | kernel_rfl), trivial⟩ ⟨(by omega), (by rw [List.length_set]; exact hy), H17⟩ (by first | omega | (simp; omega))
          · skip
            refine wp_seq ?_
            refine k_list ?_
            refine l_cons (ev_eq (v := (.bool (decide ((((j : Nat) : Int) : Int) < ((x.f1.f2.length : Nat) : Int))))) (v' := (.bool false)) (w1 := w14) rfl rfl (by kernel_rfl) (bf (by first | assumption | omega)) ?_)
            refine l_nil ?_
            refine n_then ?_
            refine wp_seq ?_
            refine k_false (by kernel_rfl) ?_
            refine wp_exit ?_
            refine e_then ?_
            refine e_then ?_
            refine e_in ?_
            refine n_then ?_
            refine k_list ?_
            refine l_cons (ev_run (v := (.slice Aw L.length cw)) (w1 := w14) rfl rfl (by kernel_rfl) ?_)
            refine l_cons (ev_run (v := (.pointer (some (⟨g2, 1, none⟩)))) (w1 := w14) rfl rfl (by kernel_rfl) ?_)
            refine l_cons (ev_run (v := (.agg #[(.int .i64 x.f1.f0), (.int .i64 x.f1.f1), (.slice Ax3 x.f1.f2.length cx3)])) (w1 := w14) rfl rfl (run_ld rfl (by kernel_rfl) (At.blk (H16.get 2 rfl) 1) (by kernel_rfl)) ?_)
            refine l_cons (ev_call rfl rfl (f := 13) (args := #[(.slice Aw L.length cw), (.agg #[(.int .i64 x.f1.f0), (.int .i64 x.f1.f1), (.slice Ax3 x.f1.f2.length cx3)])]) (by kernel_rfl) (rput_m _ _ _ rows x.f1.f0 x.f1.f1 Ax3 x.f1.f2.length cx3 _ ((L ++ [(⟨x.f1.f0, x.f1.f1, x.f1.f2⟩ : S29)]).length) (by simp) (H16.get 4 rfl) (by omega)) ?_)
            rintro e w16 ⟨Aput1, cput1, rfl, hH_⟩
            refine ⟨_, rfl, ?_⟩
            have hb_ := hH_.to_below
            have H18 := (Hp.join H16 hH_)
            refine l_cons (ev_run (v := (.tuple #[(.slice Aput1 ((L ++ [(⟨x.f1.f0, x.f1.f1, x.f1.f2⟩ : S29)]).length) cput1), (.int .i64 0)])) (w1 := w16) rfl rfl (by kernel_rfl) ?_)
            refine l_cons (ev_run (v := (.slice Aput1 ((L ++ [(⟨x.f1.f0, x.f1.f1, x.f1.f2⟩ : S29)]).length) cput1)) (w1 := w16) rfl rfl (by kernel_rfl) ?_)
            refine l_cons (ev_run (v := (.int .i64 0)) (w1 := w16) rfl rfl (by kernel_rfl) ?_)
            refine l_cons (ev_run (v := (.slice Aput1 ((L ++ [(⟨x.f1.f0, x.f1.f1, x.f1.f2⟩ : S29)]).length) cput1)) (w1 := w16) rfl rfl (by kernel_rfl) ?_)
            refine l_cons (ev_run (v := (.int .i64 0)) (w1 := w16) rfl rfl (by kernel_rfl) ?_)
            refine l_nil ?_
            refine n_in ?_
            refine n_then ?_
            have H19 := H18.addE (rowR 5 1 none 0 0 []) (rowR_nil _ _ _) (fun k hk => by cases hk)
            exact m_meet (L ++ [(⟨x.f1.f0, x.f1.f1, x.f1.f2⟩ : S29)], rows ++ ([[(.int .i64 x.f1.f0), (.int .i64 x.f1.f1), (.slice Ax3 x.f1.f2.length cx3)]] : List (List Value)), Aput1, cput1, F1, 0, 0, 0, none, 0, [], none, 0) ⟨(by first | rfl | kernel_rfl), (by first | rfl | kernel_rfl), (by first | rfl | kernel_rfl), (by first | rfl | kernel_rfl), (by first | rfl | kernel_rfl), (by first | rfl | kernel_rfl), (by first | rfl | kernel_rfl), (by first | rfl | kernel_rfl), (by first | rfl | kernel_rfl), (by first | rfl | kernel_rfl), trivial⟩ ⟨(by rw [List.length_append, List.length_singleton]; omega), (hE.snoc x.f1 _ (k29_mk w x.f1 lx3 gx3)), (Rd.nil _), H19.sel [0, 3, 2, 1, 7] (by decide)⟩
        · skip
          refine l_cons (ev_eq (v := (.bool ((x.f0 : Int) == 0))) (v' := (.bool false)) (w1 := w10) rfl rfl (by kernel_rfl) (beqf (by first | assumption | omega)) ?_)
          refine l_cons (ev_run (v := (.bool false)) (w1 := w10) rfl rfl (by kernel_rfl) ?_)
          refine l_nil ?_
          refine n_then ?_
          refine k_false (by kernel_rfl) ?_
          refine wp_seq ?_
          refine k_list ?_
          by_cases hc3 : (x.f0 : Int) = 1
          · skip
            refine l_cons (ev_eq (v := (.bool ((x.f0 : Int) == 1))) (v' := (.bool true)) (w1 := w10) rfl rfl (by kernel_rfl) (beqt (by first | assumption | omega)) ?_)
            refine l_cons (ev_run (v := (.bool true)) (w1 := w10) rfl rfl (by kernel_rfl) ?_)
            refine l_nil ?_
            refine n_then ?_
            refine k_true (by kernel_rfl) ?_
            refine wp_seq ?_
            rcases atCases x.f2 L.length with ⟨pn, hpn, hp⟩ | hout
            · skip
              rw [hpn] at H11
              obtain ⟨y, A3, c3, hy, hym, hrw, hyK, hrd⟩ := hE.at pn hp
              have hysm := (H11.get 4 rfl).small y hym
              refine k_list ?_
              refine l_cons (ev_run (v := (.pointer (some (⟨g, 0, none⟩)))) (w1 := w10) rfl rfl (by kernel_rfl) ?_)
              refine l_cons (ev_run (v := (.pointer (some (⟨g2, 4, none⟩)))) (w1 := w10) rfl rfl (by kernel_rfl) ?_)
              refine l_cons (ev_run (v := (.int .i64 (((pn : Nat) : Int)))) (w1 := w10) rfl rfl (run_ld rfl (by kernel_rfl) (At.blk (H11.get 2 rfl) 4) (by kernel_rfl)) ?_)
              refine l_cons (ev_call rfl rfl (f := 10) (args := #[(.pointer (some (⟨g, 0, none⟩))), (.int .i64 (((pn : Nat) : Int)))]) (by kernel_rfl) (atH _ g F L (H11.get 4 rfl) pn hp y hy) ?_)
              rintro e w17 ⟨At_, ct_, rfl, hH_⟩
              refine ⟨_, rfl, ?_⟩
              have H20 := H11.join hH_
              have hb_ := hH_.to_below
              refine l_cons (ev_run (v := (.tuple #[(.agg #[(.int .i64 y.f0), (.int .i64 y.f1), (.slice At_ y.f2.length ct_)]), (.int .i64 0)])) (w1 := w17) rfl rfl (by kernel_rfl) ?_)
              refine l_cons (ev_run (v := (.agg #[(.int .i64 y.f0), (.int .i64 y.f1), (.slice At_ y.f2.length ct_)])) (w1 := w17) rfl rfl (by kernel_rfl) ?_)
              refine l_cons (ev_run (v := (.int .i64 0)) (w1 := w17) rfl rfl (by kernel_rfl) ?_)
              refine l_cons (ev_store (i := 0) rfl rfl rfl H20 (k := 2) rfl (by kernel_rfl) (.agg #[(.int .i64 y.f0), (.int .i64 y.f1), (.slice At_ y.f2.length ct_)]) (by kernel_rfl) [(.int .i64 y.f0), (.int .i64 y.f1), (.slice At_ y.f2.length ct_)] (by kernel_rfl) (by kernel_rfl) (by kernel_rfl) (by kernel_rfl) [(.int .i64 y.f0), (.int .i64 y.f1), (.slice At_ y.f2.length ct_)] (by kernel_rfl) ?_)
              intro w18 H21 hcw18
              refine l_cons (ev_run (v := (.int .i64 0)) (w1 := w18) rfl rfl (by kernel_rfl) ?_)
              refine l_nil ?_
              refine n_then ?_
              refine k_list ?_
              refine l_cons (ev_run (v := (.slice Aw L.length cw)) (w1 := w18) rfl rfl (by kernel_rfl) ?_)
              refine l_cons (ev_run (v := (.pointer (some (⟨g2, 4, none⟩)))) (w1 := w18) rfl rfl (by kernel_rfl) ?_)
              refine l_cons (ev_run (v := (.int .i64 (((pn : Nat) : Int)))) (w1 := w18) rfl rfl (run_ld rfl (by kernel_rfl) (At.blk (H21.get 3 rfl) 4) (by kernel_rfl)) ?_)
              refine l_cons (ev_call rfl rfl (f := 14) (args := #[(.slice Aw L.length cw), (.int .i64 (((pn : Nat) : Int)))]) (by kernel_rfl) (rat_c _ _ _ rows pn y.f0 y.f1 A3 y.f2.length c3 _ (H21.get 4 rfl) hp hrw) ?_)
              rintro e w19 ⟨rfl, hb_⟩
              refine ⟨_, rfl, ?_⟩
              have H22 := H21.below hb_
              refine l_cons (ev_run (v := (.tuple #[(.agg #[(.int .i64 y.f0), (.int .i64 y.f1), (.slice A3 y.f2.length c3)]), (.int .i64 0)])) (w1 := w19) rfl rfl (by kernel_rfl) ?_)
              refine l_cons (ev_run (v := (.agg #[(.int .i64 y.f0), (.int .i64 y.f1), (.slice A3 y.f2.length c3)])) (w1 := w19) rfl rfl (by kernel_rfl) ?_)
              refine l_cons (ev_run (v := (.int .i64 0)) (w1 := w19) rfl rfl (by kernel_rfl) ?_)
              refine l_cons (ev_store (i := 0) rfl rfl rfl H22 (k := 1) rfl (by kernel_rfl) (.agg #[(.int .i64 y.f0), (.int .i64 y.f1), (.slice A3 y.f2.length c3)]) (by kernel_rfl) [(.int .i64 y.f0), (.int .i64 y.f1), (.slice A3 y.f2.length c3)] (by kernel_rfl) (by kernel_rfl) (by kernel_rfl) (by kernel_rfl) [(.int .i64 y.f0), (.int .i64 y.f1), (.slice A3 y.f2.length c3)] (by kernel_rfl) ?_)
              intro w20 H23 hcw20
              refine l_cons (ev_run (v := (.int .i64 0)) (w1 := w20) rfl rfl (by kernel_rfl) ?_)
              refine l_nil ?_
              refine n_in ?_
              refine n_then ?_
              exact m_meet (L, rows, Aw, cw, F, y.f0, y.f1, 0, At_, ct_, y.f2, A3, c3) ⟨(by first | rfl | kernel_rfl), (by first | rfl | kernel_rfl), (by first | rfl | kernel_rfl), (by first | rfl | kernel_rfl), (by first | rfl | kernel_rfl), (by first | rfl | kernel_rfl), (by first | rfl | kernel_rfl), (by first | rfl | kernel_rfl), (by first | rfl | kernel_rfl), (by first | rfl | kernel_rfl), trivial⟩ ⟨(by omega), hE, hrd, H23.sel [0, 2, 1, 4, 5] (by decide)⟩
            · skip
              refine k_list ?_
              refine l_cons (ev_run (v := (.pointer (some (⟨g, 0, none⟩)))) (w1 := w10) rfl rfl (by kernel_rfl) ?_)
              refine l_cons (ev_run (v := (.pointer (some (⟨g2, 4, none⟩)))) (w1 := w10) rfl rfl (by kernel_rfl) ?_)
              refine l_cons (ev_run (v := (.int .i64 x.f2)) (w1 := w10) rfl rfl (run_ld rfl (by kernel_rfl) (At.blk (H11.get 2 rfl) 4) (by kernel_rfl)) ?_)
              refine l_cons (ev_call rfl rfl (f := 10) (args := #[(.pointer (some (⟨g, 0, none⟩))), (.int .i64 x.f2)]) (by kernel_rfl) (atOut _ g F L (H11.get 4 rfl) x.f2 hout) ?_)
              rintro e w21 ⟨rfl, hb_⟩
              refine ⟨_, rfl, ?_⟩
              have H24 := H11.below hb_
              refine l_cons (ev_run (v := (.tuple #[(.agg #[(.int .i64 0), (.int .i64 0), (.slice none 0 0)]), (.int .i64 132)])) (w1 := w21) rfl rfl (by kernel_rfl) ?_)
              refine l_cons (ev_run (v := (.agg #[(.int .i64 0), (.int .i64 0), (.slice none 0 0)])) (w1 := w21) rfl rfl (by kernel_rfl) ?_)
              refine l_cons (ev_run (v := (.int .i64 132)) (w1 := w21) rfl rfl (by kernel_rfl) ?_)
              refine l_cons (ev_store (i := 0) rfl rfl rfl H24 (k := 1) rfl (by kernel_rfl) (.agg #[(.int .i64 0), (.int .i64 0), (.slice none 0 0)]) (by kernel_rfl) [(.int .i64 0), (.int .i64 0), (.slice none 0 0)] (by kernel_rfl) (by kernel_rfl) (by kernel_rfl) (by kernel_rfl) [(.int .i64 0), (.int .i64 0), (.slice none 0 0)] (by kernel_rfl) ?_)
              intro w22 H25 hcw22
              refine l_cons (ev_run (v := (.int .i64 132)) (w1 := w22) rfl rfl (by kernel_rfl) ?_)
              refine l_nil ?_
              refine n_then ?_
              refine k_list ?_
              refine l_cons (ev_run (v := (.slice Aw L.length cw)) (w1 := w22) rfl rfl (by kernel_rfl) ?_)
              refine l_cons (ev_run (v := (.pointer (some (⟨g2, 4, none⟩)))) (w1 := w22) rfl rfl (by kernel_rfl) ?_)
              refine l_cons (ev_run (v := (.int .i64 x.f2)) (w1 := w22) rfl rfl (run_ld rfl (by kernel_rfl) (At.blk (H25.get 2 rfl) 4) (by kernel_rfl)) ?_)
              refine l_cons (ev_call rfl rfl (f := 14) (args := #[(.slice Aw L.length cw), (.int .i64 x.f2)]) (by kernel_rfl) (rat_out _ _ _ x.f2 _ hout) ?_)
              rintro e w23 ⟨rfl, hb_⟩
              refine ⟨_, rfl, ?_⟩
              have H26 := H25.below hb_
              refine l_cons (ev_run (v := (.tuple #[(.agg #[(.int .i64 0), (.int .i64 0), (.slice none 0 0)]), (.int .i64 132)])) (w1 := w23) rfl rfl (by kernel_rfl) ?_)
              refine l_cons (ev_run (v := (.agg #[(.int .i64 0), (.int .i64 0), (.slice none 0 0)])) (w1 := w23) rfl rfl (by kernel_rfl) ?_)
              refine l_cons (ev_run (v := (.int .i64 132)) (w1 := w23) rfl rfl (by kernel_rfl) ?_)
              refine l_cons (ev_store (i := 0) rfl rfl rfl H26 (k := 0) rfl (by kernel_rfl) (.agg #[(.int .i64 0), (.int .i64 0), (.slice none 0 0)]) (by kernel_rfl) [(.int .i64 0), (.int .i64 0), (.slice none 0 0)] (by kernel_rfl) (by kernel_rfl) (by kernel_rfl) (by kernel_rfl) [(.int .i64 0), (.int .i64 0), (.slice none 0 0)] (by kernel_rfl) ?_)
              intro w24 H27 hcw24
              refine l_cons (ev_run (v := (.int .i64 132)) (w1 := w24) rfl rfl (by kernel_rfl) ?_)
              refine l_nil ?_
              refine n_in ?_
              refine n_then ?_
              have H28 := H27.addE (rowR 5 1 none 0 0 []) (rowR_nil _ _ _) (fun k hk => by cases hk)
              exact m_meet (L, rows, Aw, cw, F, 0, 0, 132, none, 0, [], none, 0) ⟨(by first | rfl | kernel_rfl), (by first | rfl | kernel_rfl), (by first | rfl | kernel_rfl), (by first | rfl | kernel_rfl), (by first | rfl | kernel_rfl), (by first | rfl | kernel_rfl), (by first | rfl | kernel_rfl), (by first | rfl | kernel_rfl), (by first | rfl | kernel_rfl), (by first | rfl | kernel_rfl), trivial⟩ ⟨(by omega), hE, (Rd.nil _), H28.sel [0, 2, 1, 4, 5] (by decide)⟩
          · skip
            refine l_cons (ev_eq (v := (.bool ((x.f0 : Int) == 1))) (v' := (.bool false)) (w1 := w10) rfl rfl (by kernel_rfl) (beqf (by first | assumption | omega)) ?_)
            refine l_cons (ev_run (v := (.bool false)) (w1 := w10) rfl rfl (by kernel_rfl) ?_)
            refine l_nil ?_
            refine n_then ?_
            refine k_false (by kernel_rfl) ?_
            refine wp_seq ?_
            refine k_list ?_
            by_cases hc4 : (x.f0 : Int) = 2
            · skip
              refine l_cons (ev_eq (v := (.bool ((x.f0 : Int) == 2))) (v' := (.bool true)) (w1 := w10) rfl rfl (by kernel_rfl) (beqt (by first | assumption | omega)) ?_)
              refine l_cons (ev_run (v := (.bool true)) (w1 := w10) rfl rfl (by kernel_rfl) ?_)
              refine l_nil ?_
              refine n_then ?_
              refine k_true (by kernel_rfl) ?_
              refine wp_seq ?_
              rcases atCases x.f2 L.length with ⟨pn, hpn, hp⟩ | hout
              · skip
                rw [hpn] at H11
                obtain ⟨y, A3, c3, hy, hym, hrw, hyK, hrd⟩ := hE.at pn hp
                have hysm := (H11.get 4 rfl).small y hym
                refine k_list ?_
                refine l_cons (ev_run (v := (.pointer (some (⟨g, 0, none⟩)))) (w1 := w10) rfl rfl (by kernel_rfl) ?_)
                refine l_cons (ev_run (v := (.pointer (some (⟨g2, 4, none⟩)))) (w1 := w10) rfl rfl (by kernel_rfl) ?_)
                refine l_cons (ev_run (v := (.int .i64 (((pn : Nat) : Int)))) (w1 := w10) rfl rfl (run_ld rfl (by kernel_rfl) (At.blk (H11.get 2 rfl) 4) (by kernel_rfl)) ?_)
                refine l_cons (ev_call rfl rfl (f := 15) (args := #[(.pointer (some (⟨g, 0, none⟩))), (.int .i64 (((pn : Nat) : Int)))]) (by kernel_rfl) (takeH _ g F L (H11.get 4 rfl) pn hp y hy) ?_)
                rintro e w25 ⟨At_, ct_, rfl, hby, hfb, hG, hcw25⟩
                refine ⟨_, rfl, ?_⟩
                have H29 := H11.upd2 4 rfl hcw25 (bagR g F (L.eraseIdx pn)) (byR At_ y.f2.length ct_ y.f2) hG hby (fun _ h => h) hfb
                refine l_cons (ev_run (v := (.tuple #[(.agg #[(.int .i64 y.f0), (.int .i64 y.f1), (.slice At_ y.f2.length ct_)]), (.int .i64 0)])) (w1 := w25) rfl rfl (by kernel_rfl) ?_)
                refine l_cons (ev_run (v := (.agg #[(.int .i64 y.f0), (.int .i64 y.f1), (.slice At_ y.f2.length ct_)])) (w1 := w25) rfl rfl (by kernel_rfl) ?_)
                refine l_cons (ev_run (v := (.int .i64 0)) (w1 := w25) rfl rfl (by kernel_rfl) ?_)
                refine l_cons (ev_store (i := 0) rfl rfl rfl H29 (k := 2) rfl (by kernel_rfl) (.agg #[(.int .i64 y.f0), (.int .i64 y.f1), (.slice At_ y.f2.length ct_)]) (by kernel_rfl) [(.int .i64 y.f0), (.int .i64 y.f1), (.slice At_ y.f2.length ct_)] (by kernel_rfl) (by kernel_rfl) (by kernel_rfl) (by kernel_rfl) [(.int .i64 y.f0), (.int .i64 y.f1), (.slice At_ y.f2.length ct_)] (by kernel_rfl) ?_)
                intro w26 H30 hcw26
                refine l_cons (ev_run (v := (.int .i64 0)) (w1 := w26) rfl rfl (by kernel_rfl) ?_)
                refine l_nil ?_
                refine n_then ?_
                refine wp_seq ?_
                refine k_list ?_
                refine l_cons (ev_run (v := (.slice Aw L.length cw)) (w1 := w26) rfl rfl (by kernel_rfl) ?_)
                refine l_cons (ev_run (v := (.pointer (some (⟨g2, 4, none⟩)))) (w1 := w26) rfl rfl (by kernel_rfl) ?_)
                refine l_cons (ev_run (v := (.int .i64 (((pn : Nat) : Int)))) (w1 := w26) rfl rfl (run_ld rfl (by kernel_rfl) (At.blk (H30.get 3 rfl) 4) (by kernel_rfl)) ?_)
                refine l_cons (ev_call rfl rfl (f := 14) (args := #[(.slice Aw L.length cw), (.int .i64 (((pn : Nat) : Int)))]) (by kernel_rfl) (rat_c _ _ _ rows pn y.f0 y.f1 A3 y.f2.length c3 _ (H30.get 4 rfl) hp hrw) ?_)
                rintro e w27 ⟨rfl, hb_⟩
                refine ⟨_, rfl, ?_⟩
                have H31 := H30.below hb_
                refine l_cons (ev_run (v := (.tuple #[(.agg #[(.int .i64 y.f0), (.int .i64 y.f1), (.slice A3 y.f2.length c3)]), (.int .i64 0)])) (w1 := w27) rfl rfl (by kernel_rfl) ?_)
                refine l_cons (ev_run (v := (.agg #[(.int .i64 y.f0), (.int .i64 y.f1), (.slice A3 y.f2.length c3)])) (w1 := w27) rfl rfl (by kernel_rfl) ?_)
                refine l_cons (ev_run (v := (.int .i64 0)) (w1 := w27) rfl rfl (by kernel_rfl) ?_)
                refine l_cons (ev_store (i := 0) rfl rfl rfl H31 (k := 1) rfl (by kernel_rfl) (.agg #[(.int .i64 y.f0), (.int .i64 y.f1), (.slice A3 y.f2.length c3)]) (by kernel_rfl) [(.int .i64 y.f0), (.int .i64 y.f1), (.slice A3 y.f2.length c3)] (by kernel_rfl) (by kernel_rfl) (by kernel_rfl) (by kernel_rfl) [(.int .i64 y.f0), (.int .i64 y.f1), (.slice A3 y.f2.length c3)] (by kernel_rfl) ?_)
                intro w28 H32 hcw28
                refine l_cons (ev_run (v := (.int .i64 0)) (w1 := w28) rfl rfl (by kernel_rfl) ?_)
                refine l_nil ?_
                refine n_then ?_
                refine k_list ?_
                refine l_cons (ev_run (v := (.slice Aw L.length cw)) (w1 := w28) rfl rfl (by kernel_rfl) ?_)
                refine l_cons (ev_run (v := (.pointer (some (⟨g2, 4, none⟩)))) (w1 := w28) rfl rfl (by kernel_rfl) ?_)
                refine l_cons (ev_run (v := (.int .i64 (((pn : Nat) : Int)))) (w1 := w28) rfl rfl (run_ld rfl (by kernel_rfl) (At.blk (H32.get 3 rfl) 4) (by kernel_rfl)) ?_)
                refine l_cons (ev_call rfl rfl (f := 16) (args := #[(.slice Aw L.length cw), (.int .i64 (((pn : Nat) : Int)))]) (by kernel_rfl) (rwo_c _ _ _ rows ((pn : Nat) : Int) _ (H32.get 4 rfl) (by omega) hE.shp) ?_)
                rintro e w29 ⟨Awo1, cwo1, rfl, hH_⟩
                refine ⟨_, rfl, ?_⟩
                have hb_ := hH_.to_below
                have hwn : (woF ((pn : Nat) : Int) rows rows.length).length = (L.eraseIdx pn).length := by rw [woF_in pn rows]; exact (hE.erase pn).1
                rw [hwn]
                have H33 := wo_res (woF_in pn rows) (hE.erase pn).1 (Hp.join H32 hH_)
                refine l_cons (ev_run (v := (.slice Awo1 ((L.eraseIdx pn).length) cwo1)) (w1 := w29) rfl rfl (by kernel_rfl) ?_)
                refine l_nil ?_
                refine n_in ?_
                refine n_then ?_
                exact m_meet (L.eraseIdx pn, rows.eraseIdx pn, Awo1, cwo1, F, y.f0, y.f1, 0, At_, ct_, y.f2, A3, c3) ⟨(by first | rfl | kernel_rfl), (by first | rfl | kernel_rfl), (by first | rfl | kernel_rfl), (by first | rfl | kernel_rfl), (by first | rfl | kernel_rfl), (by first | rfl | kernel_rfl), (by first | rfl | kernel_rfl), (by first | rfl | kernel_rfl), (by first | rfl | kernel_rfl), (by first | rfl | kernel_rfl), trivial⟩ ⟨(by have := List.length_eraseIdx_le L pn; omega), (hE.erase pn), hrd, H33.sel [1, 3, 2, 0, 6] (by decide)⟩
              · skip
                refine k_list ?_
                refine l_cons (ev_run (v := (.pointer (some (⟨g, 0, none⟩)))) (w1 := w10) rfl rfl (by kernel_rfl) ?_)
                refine l_cons (ev_run (v := (.pointer (some (⟨g2, 4, none⟩)))) (w1 := w10) rfl rfl (by kernel_rfl) ?_)
                refine l_cons (ev_run (v := (.int .i64 x.f2)) (w1 := w10) rfl rfl (run_ld rfl (by kernel_rfl) (At.blk (H11.get 2 rfl) 4) (by kernel_rfl)) ?_)
                refine l_cons (ev_call rfl rfl (f := 15) (args := #[(.pointer (some (⟨g, 0, none⟩))), (.int .i64 x.f2)]) (by kernel_rfl) (takeOut _ g F L (H11.get 4 rfl) x.f2 hout) ?_)
                rintro e w30 ⟨rfl, hb_⟩
                refine ⟨_, rfl, ?_⟩
                have H34 := H11.below hb_
                refine l_cons (ev_run (v := (.tuple #[(.agg #[(.int .i64 0), (.int .i64 0), (.slice none 0 0)]), (.int .i64 132)])) (w1 := w30) rfl rfl (by kernel_rfl) ?_)
                refine l_cons (ev_run (v := (.agg #[(.int .i64 0), (.int .i64 0), (.slice none 0 0)])) (w1 := w30) rfl rfl (by kernel_rfl) ?_)
                refine l_cons (ev_run (v := (.int .i64 132)) (w1 := w30) rfl rfl (by kernel_rfl) ?_)
                refine l_cons (ev_store (i := 0) rfl rfl rfl H34 (k := 1) rfl (by kernel_rfl) (.agg #[(.int .i64 0), (.int .i64 0), (.slice none 0 0)]) (by kernel_rfl) [(.int .i64 0), (.int .i64 0), (.slice none 0 0)] (by kernel_rfl) (by kernel_rfl) (by kernel_rfl) (by kernel_rfl) [(.int .i64 0), (.int .i64 0), (.slice none 0 0)] (by kernel_rfl) ?_)
                intro w31 H35 hcw31
                refine l_cons (ev_run (v := (.int .i64 132)) (w1 := w31) rfl rfl (by kernel_rfl) ?_)
                refine l_nil ?_
                refine n_then ?_
                refine wp_seq ?_
                refine k_list ?_
                refine l_cons (ev_run (v := (.slice Aw L.length cw)) (w1 := w31) rfl rfl (by kernel_rfl) ?_)
                refine l_cons (ev_run (v := (.pointer (some (⟨g2, 4, none⟩)))) (w1 := w31) rfl rfl (by kernel_rfl) ?_)
                refine l_cons (ev_run (v := (.int .i64 x.f2)) (w1 := w31) rfl rfl (run_ld rfl (by kernel_rfl) (At.blk (H35.get 2 rfl) 4) (by kernel_rfl)) ?_)
                refine l_cons (ev_call rfl rfl (f := 14) (args := #[(.slice Aw L.length cw), (.int .i64 x.f2)]) (by kernel_rfl) (rat_out _ _ _ x.f2 _ hout) ?_)
                rintro e w32 ⟨rfl, hb_⟩
                refine ⟨_, rfl, ?_⟩
                have H36 := H35.below hb_
                refine l_cons (ev_run (v := (.tuple #[(.agg #[(.int .i64 0), (.int .i64 0), (.slice none 0 0)]), (.int .i64 132)])) (w1 := w32) rfl rfl (by kernel_rfl) ?_)
                refine l_cons (ev_run (v := (.agg #[(.int .i64 0), (.int .i64 0), (.slice none 0 0)])) (w1 := w32) rfl rfl (by kernel_rfl) ?_)
                refine l_cons (ev_run (v := (.int .i64 132)) (w1 := w32) rfl rfl (by kernel_rfl) ?_)
                refine l_cons (ev_store (i := 0) rfl rfl rfl H36 (k := 0) rfl (by kernel_rfl) (.agg #[(.int .i64 0), (.int .i64 0), (.slice none 0 0)]) (by kernel_rfl) [(.int .i64 0), (.int .i64 0), (.slice none 0 0)] (by kernel_rfl) (by kernel_rfl) (by kernel_rfl) (by kernel_rfl) [(.int .i64 0), (.int .i64 0), (.slice none 0 0)] (by kernel_rfl) ?_)
                intro w33 H37 hcw33
                refine l_cons (ev_run (v := (.int .i64 132)) (w1 := w33) rfl rfl (by kernel_rfl) ?_)
                refine l_nil ?_
                refine n_then ?_
                refine k_list ?_
                refine l_cons (ev_run (v := (.slice Aw L.length cw)) (w1 := w33) rfl rfl (by kernel_rfl) ?_)
                refine l_cons (ev_run (v := (.pointer (some (⟨g2, 4, none⟩)))) (w1 := w33) rfl rfl (by kernel_rfl) ?_)
                refine l_cons (ev_run (v := (.int .i64 x.f2)) (w1 := w33) rfl rfl (run_ld rfl (by kernel_rfl) (At.blk (H37.get 2 rfl) 4) (by kernel_rfl)) ?_)
                refine l_cons (ev_call rfl rfl (f := 16) (args := #[(.slice Aw L.length cw), (.int .i64 x.f2)]) (by kernel_rfl) (rwo_c _ _ _ rows x.f2 _ (H37.get 3 rfl) (by omega) hE.shp) ?_)
                rintro e w34 ⟨Awo2, cwo2, rfl, hH_⟩
                refine ⟨_, rfl, ?_⟩
                have hb_ := hH_.to_below
                have hwn : (woF x.f2 rows rows.length).length = L.length := by rw [woF_out _ rows (by rw [hE.1]; exact hout)]; exact hE.1
                rw [hwn]
                have H38 := wo_res (woF_out _ rows (by rw [hE.1]; exact hout)) hE.1 (Hp.join H37 hH_)
                refine l_cons (ev_run (v := (.slice Awo2 L.length cwo2)) (w1 := w34) rfl rfl (by kernel_rfl) ?_)
                refine l_nil ?_
                refine n_in ?_
                refine n_then ?_
                have H39 := H38.addE (rowR 5 1 none 0 0 []) (rowR_nil _ _ _) (fun k hk => by cases hk)
                exact m_meet (L, rows, Awo2, cwo2, F, 0, 0, 132, none, 0, [], none, 0) ⟨(by first | rfl | kernel_rfl), (by first | rfl | kernel_rfl), (by first | rfl | kernel_rfl), (by first | rfl | kernel_rfl), (by first | rfl | kernel_rfl), (by first | rfl | kernel_rfl), (by first | rfl | kernel_rfl), (by first | rfl | kernel_rfl), (by first | rfl | kernel_rfl), (by first | rfl | kernel_rfl), trivial⟩ ⟨(by omega), hE, (Rd.nil _), H39.sel [0, 3, 2, 1, 6] (by decide)⟩
            · skip
              refine l_cons (ev_eq (v := (.bool ((x.f0 : Int) == 2))) (v' := (.bool false)) (w1 := w10) rfl rfl (by kernel_rfl) (beqf (by first | assumption | omega)) ?_)
              refine l_cons (ev_run (v := (.bool false)) (w1 := w10) rfl rfl (by kernel_rfl) ?_)
              refine l_nil ?_
              refine n_then ?_
              refine k_false (by kernel_rfl) ?_
              refine wp_seq ?_
              refine k_list ?_
              by_cases hc5 : (x.f0 : Int) = 3
              · skip
                refine l_cons (ev_eq (v := (.bool ((x.f0 : Int) == 3))) (v' := (.bool true)) (w1 := w10) rfl rfl (by kernel_rfl) (beqt (by first | assumption | omega)) ?_)
                refine l_cons (ev_run (v := (.bool true)) (w1 := w10) rfl rfl (by kernel_rfl) ?_)
                refine l_nil ?_
                refine n_then ?_
                refine k_true (by kernel_rfl) ?_
                refine wp_seq ?_
                rcases atCases x.f2 L.length with ⟨pn, hpn, hp⟩ | hout
                · skip
                  rw [hpn] at H11
                  obtain ⟨y, A3, c3, hy, hym, hrw, hyK, hrd⟩ := hE.at pn hp
                  have hysm := (H11.get 4 rfl).small y hym
                  refine k_list ?_
                  refine l_cons (ev_run (v := (.pointer (some (⟨g, 0, none⟩)))) (w1 := w10) rfl rfl (by kernel_rfl) ?_)
                  refine l_cons (ev_run (v := (.pointer (some (⟨g2, 4, none⟩)))) (w1 := w10) rfl rfl (by kernel_rfl) ?_)
                  refine l_cons (ev_run (v := (.int .i64 (((pn : Nat) : Int)))) (w1 := w10) rfl rfl (run_ld rfl (by kernel_rfl) (At.blk (H11.get 2 rfl) 4) (by kernel_rfl)) ?_)
                  refine l_cons (ev_call rfl rfl (f := 11) (args := #[(.pointer (some (⟨g, 0, none⟩))), (.int .i64 (((pn : Nat) : Int)))]) (by kernel_rfl) (copy_c 0 _ g F L (H11.get 4 rfl) (Nat.zero_le _) (pn : Int) (by omega) (by omega) (by omega)) ?_)
                  rintro e w35 ⟨F2, rfl, hG, hcw35, hf_⟩
                  refine ⟨_, rfl, ?_⟩
                  rw [hy] at hG
                  have H40 := H11.upd 4 rfl hcw35 (bagR g F2 (L ++ [y])) hG hf_
                  refine l_cons (ev_run (v := (.int .i64 0)) (w1 := w35) rfl rfl (by kernel_rfl) ?_)
                  refine l_nil ?_
                  refine n_then ?_
                  refine wp_seq ?_
                  refine k_list ?_
                  refine l_cons (ev_run (v := (.slice Aw L.length cw)) (w1 := w35) rfl rfl (by kernel_rfl) ?_)
                  refine l_cons (ev_run (v := (.pointer (some (⟨g2, 4, none⟩)))) (w1 := w35) rfl rfl (by kernel_rfl) ?_)
                  refine l_cons (ev_run (v := (.int .i64 (((pn : Nat) : Int)))) (w1 := w35) rfl rfl (run_ld rfl (by kernel_rfl) (At.blk (H40.get 2 rfl) 4) (by kernel_rfl)) ?_)
                  refine l_cons (ev_call rfl rfl (f := 14) (args := #[(.slice Aw L.length cw), (.int .i64 (((pn : Nat) : Int)))]) (by kernel_rfl) (rat_c _ _ _ rows pn y.f0 y.f1 A3 y.f2.length c3 _ (H40.get 3 rfl) hp hrw) ?_)
                  rintro e w36 ⟨rfl, hb_⟩
                  refine ⟨_, rfl, ?_⟩
                  have H41 := H40.below hb_
                  refine l_cons (ev_run (v := (.tuple #[(.agg #[(.int .i64 y.f0), (.int .i64 y.f1), (.slice A3 y.f2.length c3)]), (.int .i64 0)])) (w1 := w36) rfl rfl (by kernel_rfl) ?_)
                  refine l_cons (ev_run (v := (.agg #[(.int .i64 y.f0), (.int .i64 y.f1), (.slice A3 y.f2.length c3)])) (w1 := w36) rfl rfl (by kernel_rfl) ?_)
                  refine l_cons (ev_run (v := (.int .i64 0)) (w1 := w36) rfl rfl (by kernel_rfl) ?_)
                  refine l_cons (ev_new (cs := [(.int .i64 0), (.int .i64 0), (.slice none 0 0)]) (t := 29) rfl rfl H41 (by kernel_rfl) ?_)
                  intro g6 w37 H42 hg6 hbw37
                  refine l_cons (ev_store (i := 0) rfl rfl rfl H42 (k := 0) rfl (by kernel_rfl) (.agg #[(.int .i64 y.f0), (.int .i64 y.f1), (.slice A3 y.f2.length c3)]) (by kernel_rfl) [(.int .i64 y.f0), (.int .i64 y.f1), (.slice A3 y.f2.length c3)] (by kernel_rfl) (by kernel_rfl) (by kernel_rfl) (by kernel_rfl) [(.int .i64 y.f0), (.int .i64 y.f1), (.slice A3 y.f2.length c3)] (by kernel_rfl) ?_)
                  intro w38 H43 hcw38
                  refine l_cons (ev_run (v := (.int .i64 0)) (w1 := w38) rfl rfl (by kernel_rfl) ?_)
                  refine l_nil ?_
                  refine n_then ?_
                  refine wp_seq ?_
                  refine k_list ?_
                  refine l_cons (ev_run (v := (.int .i64 0)) (w1 := w38) rfl rfl (by kernel_rfl) ?_)
                  refine l_cons (ev_run (v := (.int .i64 0)) (w1 := w38) rfl rfl (by kernel_rfl) ?_)
                  refine l_nil ?_
                  refine n_then ?_
                  refine wp_seq ?_
                  refine k_list ?_
                  refine l_cons (ev_run (v := (.int .i64 0)) (w1 := w38) rfl rfl (by kernel_rfl) ?_)
                  refine l_cons (ev_run (v := (.bool true)) (w1 := w38) rfl rfl (by kernel_rfl) ?_)
                  refine l_nil ?_
                  refine n_then ?_
                  refine k_true (by kernel_rfl) ?_
                  refine k_list ?_
                  refine l_cons (ev_run (v := (.slice Aw L.length cw)) (w1 := w38) rfl rfl (by kernel_rfl) ?_)
                  refine l_cons (ev_run (v := (.agg #[(.int .i64 y.f0), (.int .i64 y.f1), (.slice A3 y.f2.length c3)])) (w1 := w38) rfl rfl (run_ld rfl (by kernel_rfl) (At.blk (H43.get 0 rfl) 0) (by kernel_rfl)) ?_)
                  refine l_cons (ev_call rfl rfl (f := 13) (args := #[(.slice Aw L.length cw), (.agg #[(.int .i64 y.f0), (.int .i64 y.f1), (.slice A3 y.f2.length c3)])]) (by kernel_rfl) (rput_m _ _ _ rows y.f0 y.f1 A3 y.f2.length c3 _ ((L ++ [y]).length) (by simp) (H43.get 4 rfl) (by omega)) ?_)
                  rintro e w39 ⟨Aput2, cput2, rfl, hH_⟩
                  refine ⟨_, rfl, ?_⟩
                  have hb_ := hH_.to_below
                  have H44 := (Hp.join H43 hH_)
                  refine l_cons (ev_run (v := (.tuple #[(.slice Aput2 ((L ++ [y]).length) cput2), (.int .i64 0)])) (w1 := w39) rfl rfl (by kernel_rfl) ?_)
                  refine l_cons (ev_run (v := (.slice Aput2 ((L ++ [y]).length) cput2)) (w1 := w39) rfl rfl (by kernel_rfl) ?_)
                  refine l_cons (ev_run (v := (.int .i64 0)) (w1 := w39) rfl rfl (by kernel_rfl) ?_)
                  refine l_cons (ev_run (v := (.slice Aput2 ((L ++ [y]).length) cput2)) (w1 := w39) rfl rfl (by kernel_rfl) ?_)
                  refine l_cons (ev_run (v := (.int .i64 0)) (w1 := w39) rfl rfl (by kernel_rfl) ?_)
                  refine l_nil ?_
                  refine n_in ?_
                  refine n_then ?_
                  have H45 := H44.addE (rowR 5 1 none 0 0 []) (rowR_nil _ _ _) (fun k hk => by cases hk)
                  exact m_meet (L ++ [y], rows ++ ([[(.int .i64 y.f0), (.int .i64 y.f1), (.slice A3 y.f2.length c3)]] : List (List Value)), Aput2, cput2, F2, 0, 0, 0, none, 0, [], none, 0) ⟨(by first | rfl | kernel_rfl), (by first | rfl | kernel_rfl), (by first | rfl | kernel_rfl), (by first | rfl | kernel_rfl), (by first | rfl | kernel_rfl), (by first | rfl | kernel_rfl), (by first | rfl | kernel_rfl), (by first | rfl | kernel_rfl), (by first | rfl | kernel_rfl), (by first | rfl | kernel_rfl), trivial⟩ ⟨(by rw [List.length_append, List.length_singleton]; omega), (hE.snoc y _ (by rw [← hrw]; exact hyK)), (Rd.nil _), H45.sel [0, 4, 3, 1, 7] (by decide)⟩
                · skip
                  refine k_list ?_
                  refine l_cons (ev_run (v := (.pointer (some (⟨g, 0, none⟩)))) (w1 := w10) rfl rfl (by kernel_rfl) ?_)
                  refine l_cons (ev_run (v := (.pointer (some (⟨g2, 4, none⟩)))) (w1 := w10) rfl rfl (by kernel_rfl) ?_)
                  refine l_cons (ev_run (v := (.int .i64 x.f2)) (w1 := w10) rfl rfl (run_ld rfl (by kernel_rfl) (At.blk (H11.get 2 rfl) 4) (by kernel_rfl)) ?_)
                  refine l_cons (ev_call rfl rfl (f := 11) (args := #[(.pointer (some (⟨g, 0, none⟩))), (.int .i64 x.f2)]) (by kernel_rfl) (copyOut _ g F L (H11.get 4 rfl) x.f2 hout) ?_)
                  rintro e w40 ⟨rfl, hb_⟩
                  refine ⟨_, rfl, ?_⟩
                  have H46 := H11.below hb_
                  refine l_cons (ev_run (v := (.int .i64 132)) (w1 := w40) rfl rfl (by kernel_rfl) ?_)
                  refine l_nil ?_
                  refine n_then ?_
                  refine wp_seq ?_
                  refine k_list ?_
                  refine l_cons (ev_run (v := (.slice Aw L.length cw)) (w1 := w40) rfl rfl (by kernel_rfl) ?_)
                  refine l_cons (ev_run (v := (.pointer (some (⟨g2, 4, none⟩)))) (w1 := w40) rfl rfl (by kernel_rfl) ?_)
                  refine l_cons (ev_run (v := (.int .i64 x.f2)) (w1 := w40) rfl rfl (run_ld rfl (by kernel_rfl) (At.blk (H46.get 2 rfl) 4) (by kernel_rfl)) ?_)
                  refine l_cons (ev_call rfl rfl (f := 14) (args := #[(.slice Aw L.length cw), (.int .i64 x.f2)]) (by kernel_rfl) (rat_out _ _ _ x.f2 _ hout) ?_)
                  rintro e w41 ⟨rfl, hb_⟩
                  refine ⟨_, rfl, ?_⟩
                  have H47 := H46.below hb_
                  refine l_cons (ev_run (v := (.tuple #[(.agg #[(.int .i64 0), (.int .i64 0), (.slice none 0 0)]), (.int .i64 132)])) (w1 := w41) rfl rfl (by kernel_rfl) ?_)
                  refine l_cons (ev_run (v := (.agg #[(.int .i64 0), (.int .i64 0), (.slice none 0 0)])) (w1 := w41) rfl rfl (by kernel_rfl) ?_)
                  refine l_cons (ev_run (v := (.int .i64 132)) (w1 := w41) rfl rfl (by kernel_rfl) ?_)
                  refine l_cons (ev_new (cs := [(.int .i64 0), (.int .i64 0), (.slice none 0 0)]) (t := 29) rfl rfl H47 (by kernel_rfl) ?_)
                  intro g7 w42 H48 hg7 hbw42
                  refine l_cons (ev_store (i := 0) rfl rfl rfl H48 (k := 0) rfl (by kernel_rfl) (.agg #[(.int .i64 0), (.int .i64 0), (.slice none 0 0)]) (by kernel_rfl) [(.int .i64 0), (.int .i64 0), (.slice none 0 0)] (by kernel_rfl) (by kernel_rfl) (by kernel_rfl) (by kernel_rfl) [(.int .i64 0), (.int .i64 0), (.slice none 0 0)] (by kernel_rfl) ?_)
                  intro w43 H49 hcw43
                  refine l_cons (ev_run (v := (.int .i64 132)) (w1 := w43) rfl rfl (by kernel_rfl) ?_)
                  refine l_nil ?_
                  refine n_then ?_
                  refine wp_seq ?_
                  refine k_list ?_
                  refine l_cons (ev_run (v := (.int .i64 132)) (w1 := w43) rfl rfl (by kernel_rfl) ?_)
                  refine l_cons (ev_run (v := (.int .i64 132)) (w1 := w43) rfl rfl (by kernel_rfl) ?_)
                  refine l_nil ?_
                  refine n_then ?_
                  refine wp_seq ?_
                  refine k_list ?_
                  refine l_cons (ev_run (v := (.int .i64 132)) (w1 := w43) rfl rfl (by kernel_rfl) ?_)
                  refine l_cons (ev_run (v := (.bool false)) (w1 := w43) rfl rfl (by kernel_rfl) ?_)
                  refine l_nil ?_
                  refine n_then ?_
                  refine k_false (by kernel_rfl) ?_
                  refine wp_skip ?_
                  refine n_in ?_
                  refine n_then ?_
                  have H50 := H49.addE (rowR 5 1 none 0 0 []) (rowR_nil _ _ _) (fun k hk => by cases hk)
                  exact m_meet (L, rows, Aw, cw, F, 0, 0, 132, none, 0, [], none, 0) ⟨(by first | rfl | kernel_rfl), (by first | rfl | kernel_rfl), (by first | rfl | kernel_rfl), (by first | rfl | kernel_rfl), (by first | rfl | kernel_rfl), (by first | rfl | kernel_rfl), (by first | rfl | kernel_rfl), (by first | rfl | kernel_rfl), (by first | rfl | kernel_rfl), (by first | rfl | kernel_rfl), trivial⟩ ⟨(by omega), hE, (Rd.nil _), H50.sel [0, 3, 2, 5, 6] (by decide)⟩
              · skip
                refine l_cons (ev_eq (v := (.bool ((x.f0 : Int) == 3))) (v' := (.bool false)) (w1 := w10) rfl rfl (by kernel_rfl) (beqf (by first | assumption | omega)) ?_)
                refine l_cons (ev_run (v := (.bool false)) (w1 := w10) rfl rfl (by kernel_rfl) ?_)
                refine l_nil ?_
                refine n_then ?_
                refine k_false (by kernel_rfl) ?_
                refine wp_skip ?_
                refine n_in ?_
                refine n_then ?_
                have H51 := H11.addE (rowR 5 1 none 0 0 []) (rowR_nil _ _ _) (fun k hk => by cases hk)
                exact m_meet (L, rows, Aw, cw, F, 0, 0, 0, none, 0, [], none, 0) ⟨(by first | rfl | kernel_rfl), (by first | rfl | kernel_rfl), (by first | rfl | kernel_rfl), (by first | rfl | kernel_rfl), (by first | rfl | kernel_rfl), (by first | rfl | kernel_rfl), (by first | rfl | kernel_rfl), (by first | rfl | kernel_rfl), (by first | rfl | kernel_rfl), (by first | rfl | kernel_rfl), trivial⟩ ⟨(by omega), hE, (Rd.nil _), H51.sel [0, 2, 1, 4, 5] (by decide)⟩
      · skip
        rintro L3 ⟨L2, rows2, Aw2, cw2, F2_, u0, u1, e0, Ap, cp, ys, Aq, cq⟩ w44 ⟨hL2, hE2, hq, H52⟩
        change Code.wp _ _ _ (Fr _ _ [(0, (.slice (some (ad)) acts.length c)), (3, (.pointer (some (⟨g, 0, none⟩)))), (27, (.slice (some (ad)) acts.length c)), (28, (.int .i64 (((acts.length : Nat) : Int)))), (29, (.int .i64 (((i : Nat) : Int)))), (4, (.slice Aw2 L2.length cw2)), (7, (.pointer (some (⟨g3, 0, none⟩)))), (8, (.pointer (some (⟨g4, 0, none⟩)))), (9, (.int .i64 e0)), (10, (.int .i64 e0))]) _
        refine wp_seq ?_
        refine wp_seq ?_
        refine k_list ?_
        refine l_cons (ev_run (v := (.int .i64 e0)) (w1 := w44) rfl rfl (by kernel_rfl) ?_)
        refine l_cons (ev_run (v := (.int .i64 e0)) (w1 := w44) rfl rfl (by kernel_rfl) ?_)
        refine l_cons (ev_eq (v := (.bool ((e0 : Int) != e0))) (v' := (.bool false)) (w1 := w44) rfl rfl (by kernel_rfl) (bnef (by first | rfl | (simp; done) | omega)) ?_)
        refine l_cons (ev_run (v := (.bool false)) (w1 := w44) rfl rfl (by kernel_rfl) ?_)
        refine l_cons (ev_run (v := (.agg #[(.int .i64 u0), (.int .i64 u1), (.slice Ap ys.length cp)])) (w1 := w44) (by kernel_rfl) rfl (run_ld rfl (by kernel_rfl) (At.blk (H52.get 1 rfl) 0) (by kernel_rfl)) ?_)
        refine l_cons (ev_run (v := (.agg #[(.int .i64 u0), (.int .i64 u1), (.slice Aq ys.length cq)])) (w1 := w44) (by kernel_rfl) rfl (run_ld rfl (by kernel_rfl) (At.blk (H52.get 2 rfl) 0) (by kernel_rfl)) ?_)
        refine l_cons (ev_call (by kernel_rfl) rfl (f := 17) (args := #[(.agg #[(.int .i64 u0), (.int .i64 u1), (.slice Ap ys.length cp)]), (.agg #[(.int .i64 u0), (.int .i64 u1), (.slice Aq ys.length cq)])]) (by kernel_rfl) (same_true _ _ _ _ ys _ (Rd_of (byR_le (H52.get 0 rfl)) (byR_C (H52.get 0 rfl))) (hq.to H52)) ?_)
        rintro e w45 ⟨rfl, hb_⟩
        refine ⟨_, rfl, ?_⟩
        have H53 := H52.below hb_
        refine l_cons (ev_run (v := (.bool false)) (w1 := w45) (by kernel_rfl) rfl (by kernel_rfl) ?_)
        refine l_cons (ev_run (v := (.bool false)) (w1 := w45) rfl rfl (by kernel_rfl) ?_)
        refine l_cons (ev_run (v := (.bool false)) (w1 := w45) rfl rfl (by kernel_rfl) ?_)
        refine l_cons (ev_run (v := (.pointer (some (⟨g, 0, none⟩)))) (w1 := w45) (by kernel_rfl) rfl (by kernel_rfl) ?_)
        refine l_cons (ev_call (by kernel_rfl) rfl (f := 12) (args := #[(.pointer (some (⟨g, 0, none⟩)))]) (by kernel_rfl) (lenH _ g F2_ L2 (H53.get 4 rfl)) ?_)
        rintro e w46 ⟨rfl, hb_⟩
        refine ⟨_, rfl, ?_⟩
        have H54 := H53.below hb_
        refine l_cons (ev_run (v := (.slice Aw2 L2.length cw2)) (w1 := w46) (by kernel_rfl) rfl (by kernel_rfl) ?_)
        refine l_cons (ev_run (v := (.int .i64 (((L2.length : Nat) : Int)))) (w1 := w46) (by kernel_rfl) rfl (by kernel_rfl) ?_)
        refine l_cons (ev_eq (v := (.bool ((((L2.length : Nat) : Int) : Int) != ((L2.length : Nat) : Int)))) (v' := (.bool false)) (w1 := w46) (by kernel_rfl) rfl (by kernel_rfl) (bnef (by first | rfl | (simp; done) | omega)) ?_)
        refine l_cons (ev_run (v := (.bool false)) (w1 := w46) rfl rfl (by kernel_rfl) ?_)
        refine l_nil ?_
        refine n_then ?_
        refine k_false (by kernel_rfl) ?_
        refine wp_skip ?_
        refine n_then ?_
        refine wp_seq ?_
        refine k_list ?_
        refine l_cons (ev_run (v := (.pointer (some (⟨g3, 2, none⟩)))) (w1 := w46) rfl rfl (by kernel_rfl) ?_)
        refine l_cons (ev_run (v := (.slice Ap ys.length cp)) (w1 := w46) rfl rfl (run_ld rfl (by kernel_rfl) (At.blk (H54.get 1 rfl) 2) (by kernel_rfl)) ?_)
        refine l_cons (ev_run (v := (.int .i64 (((ys.length : Nat) : Int)))) (w1 := w46) rfl rfl (by kernel_rfl) ?_)
        refine l_cons (ev_run (v := (.int .i64 0)) (w1 := w46) rfl rfl (by kernel_rfl) ?_)
        refine l_nil ?_
        refine n_then ?_
        refine wp_block ?_
        refine k_loop (σ := Nat × List Int) (fun x_ => match x_ with | (j, zs) => [(0, (.slice (some (ad)) acts.length c)), (3, (.pointer (some (⟨g, 0, none⟩)))), (4, (.slice Aw2 L2.length cw2)), (7, (.pointer (some (⟨g3, 0, none⟩)))), (27, (.slice (some (ad)) acts.length c)), (28, (.int .i64 (((acts.length : Nat) : Int)))), (29, (.int .i64 (((i : Nat) : Int)))), (149, (.int .i64 (((ys.length : Nat) : Int)))), (150, (.int .i64 (((j : Nat) : Int))))]) (fun x_ w' => match x_ with | (j, zs) => (j ≤ ys.length) ∧ (zs.length = ys.length) ∧ Hp (fun _ => False) w w' [rowR 5 1 Ap ys.length cp ((zs).map fun y => [Value.int .u8 y]), blk g3 [(.int .i64 u0), (.int .i64 u1), (.slice Ap ys.length cp)] 29, rowR 29 3 Aw2 L2.length cw2 rows2, bagR g F2_ L2]) (fun x_ => match x_ with | (j, zs) => ys.length - j) (0, ys) ⟨(by first | rfl | kernel_rfl), (by first | rfl | kernel_rfl), (by first | rfl | kernel_rfl), (by first | rfl | kernel_rfl), (by first | rfl | kernel_rfl), (by first | rfl | kernel_rfl), (by first | rfl | kernel_rfl), (by first | rfl | kernel_rfl), (by first | rfl | kernel_rfl), trivial⟩ ⟨(by omega), rfl, H54.sel [0, 1, 3, 4] (by decide)⟩ ?_
        rintro L4 ⟨j, zs⟩ w47 ⟨hj, hz, H55⟩
        change Code.wp _ _ _ (Fr _ _ [(0, (.slice (some (ad)) acts.length c)), (3, (.pointer (some (⟨g, 0, none⟩)))), (4, (.slice Aw2 L2.length cw2)), (7, (.pointer (some (⟨g3, 0, none⟩)))), (27, (.slice (some (ad)) acts.length c)), (28, (.int .i64 (((acts.length : Nat) : Int)))), (29, (.int .i64 (((i : Nat) : Int)))), (149, (.int .i64 (((ys.length : Nat) : Int)))), (150, (.int .i64 (((j : Nat) : Int))))]) _
        have hyl := (rowR_len (H55.get 0 rfl)).2.2
        rcases Nat.lt_or_ge j ys.length with hlt | hge
        · skip
          obtain ⟨gs, hgs⟩ := rowR_some (H55.get 0 rfl) (by omega)
          subst hgs
          have hv : zs[j]? = some (zs.getD j 0) := by rw [List.getD_eq_getElem?_getD, List.getElem?_eq_getElem (by omega)]; rfl
          refine wp_seq ?_
          refine k_list ?_
          refine l_cons (ev_eq (v := (.bool (decide ((((j : Nat) : Int) : Int) < ((ys.length : Nat) : Int))))) (v' := (.bool true)) (w1 := w47) rfl rfl (by kernel_rfl) (bt (by first | assumption | omega)) ?_)
          refine l_nil ?_
          refine n_then ?_
          refine wp_seq ?_
          refine k_true (by kernel_rfl) ?_
          refine wp_skip ?_
          refine n_then ?_
          refine wp_seq ?_
          refine wp_block ?_
          refine wp_seq ?_
          refine k_list ?_
          refine l_cons (ev_run (v := (.int .i64 (((j : Nat) : Int)))) (w1 := w47) rfl rfl (by kernel_rfl) ?_)
          refine l_cons (ev_run (v := (.int .i64 (((j : Nat) : Int)))) (w1 := w47) rfl rfl (by kernel_rfl) ?_)
          refine l_nil ?_
          refine n_then ?_
          refine k_list ?_
          refine l_cons (ev_run (v := (.pointer (some (⟨g3, 2, none⟩)))) (w1 := w47) rfl rfl (by kernel_rfl) ?_)
          refine l_cons (ev_run (v := (.slice (some (⟨gs, 0, none⟩)) ys.length cp)) (w1 := w47) rfl rfl (run_ld rfl (by kernel_rfl) (At.blk (H55.get 1 rfl) 2) (by kernel_rfl)) ?_)
          refine l_cons (ev_run (v := (.int .i64 (((j : Nat) : Int)))) (w1 := w47) rfl rfl (by kernel_rfl) ?_)
          refine l_cons (ev_run (v := (.pointer (some (((⟨gs, 0, none⟩ : Addr)).add (j * 1))))) (w1 := w47) rfl rfl (run_ixa (sz := 1) (q := j) (ad := ⟨gs, 0, none⟩) (len := ys.length) (cap := cp) (k := .i64) (z := ((j : Nat) : Int)) rfl (by kernel_rfl) (by kernel_rfl) rfl (by kernel_rfl) (by first | rfl | omega) (by first | omega | decide)) ?_)
          refine l_cons (ev_run (v := (.int .u8 (zs.getD j 0))) (w1 := w47) rfl rfl (run_ld rfl (by kernel_rfl) (At_scal (h1 := fun _ => rfl) (xs := zs) (enc := Value.int .u8) (H55.get 0 rfl) j _ hv) (by kernel_rfl)) ?_)
          refine l_cons (ev_run (v := (.int .u8 (IntKind.u8.wrap (((BitVec.ofInt IntKind.u8.bits (zs.getD j 0)) ^^^ (BitVec.ofInt IntKind.u8.bits (255))).toNat : Int)))) (w1 := w47) rfl rfl (by kernel_rfl) ?_)
          refine l_cons (ev_run (v := (.pointer (some (((⟨gs, 0, none⟩ : Addr)).add (j * 1))))) (w1 := w47) rfl rfl (run_ixa (sz := 1) (q := j) (ad := ⟨gs, 0, none⟩) (len := ys.length) (cap := cp) (k := .i64) (z := ((j : Nat) : Int)) rfl (by kernel_rfl) (by kernel_rfl) rfl (by kernel_rfl) (by first | rfl | omega) (by first | omega | decide)) ?_)
          refine l_cons (ev_setscal (enc := Value.int .u8) (k := 0) (g := gs) (m := ys.length) (c := cp) (j := j) (xs := zs) (fun _ => rfl) rfl rfl rfl H55 rfl (by kernel_rfl) (IntKind.u8.wrap (((BitVec.ofInt IntKind.u8.bits (zs.getD j 0)) ^^^ (BitVec.ofInt IntKind.u8.bits (255))).toNat : Int)) (by kernel_rfl) (by kernel_rfl) (by omega) ?_)
          intro w48 H56 hcw48
          refine l_nil ?_
          refine n_in ?_
          refine n_then ?_
          refine k_list ?_
          refine l_cons (ev_eq (v := (.int .i64 (IntKind.i64.wrap (((j : Nat) : Int) + 1)))) (v' := (.int .i64 ((((j : Nat) : Int) + 1)))) (w1 := w48) rfl rfl (by kernel_rfl) (wr64 (by omega) (by omega)) ?_)
          refine l_cons (ev_run (v := (.int .i64 ((((j : Nat) : Int) + 1)))) (w1 := w48) rfl rfl (by kernel_rfl) ?_)
          refine l_nil ?_
          refine n_then ?_
          exact k_round (j + 1, (zs).set j (IntKind.u8.wrap (((BitVec.ofInt IntKind.u8.bits (zs.getD j 0)) ^^^ (BitVec.ofInt IntKind.u8.bits (255))).toNat : Int))) ⟨(by first | rfl | kernel_rfl), (by first | rfl | kernel_rfl), (by first | rfl | kernel_rfl), (by first | rfl | kernel_rfl), (by first | rfl | kernel_rfl), (by first | rfl | kernel_rfl), (by first | rfl | kernel_rfl), (by first | rfl | kernel_rfl), (by first | rfl | kernel_rfl), trivial⟩ ⟨(by omega), (by rw [List.length_set]; exact hz), H56⟩ (by first | omega | (simp; omega))
        · skip
          refine wp_seq ?_
          refine k_list ?_
          refine l_cons (ev_eq (v := (.bool (decide ((((j : Nat) : Int) : Int) < ((ys.length : Nat) : Int))))) (v' := (.bool false)) (w1 := w47) rfl rfl (by kernel_rfl) (bf (by first | assumption | omega)) ?_)
          refine l_nil ?_
          refine n_then ?_
          refine wp_seq ?_
          refine k_false (by kernel_rfl) ?_
          refine wp_exit ?_
          refine e_then ?_
          refine e_then ?_
          refine e_in ?_
          refine n_in ?_
          refine n_then ?_
          refine k_list ?_
          refine l_cons (ev_eq (v := (.int .i64 (IntKind.i64.wrap (((i : Nat) : Int) + 1)))) (v' := (.int .i64 ((((i : Nat) : Int) + 1)))) (w1 := w47) rfl rfl (by kernel_rfl) (wr64 (by omega) (by omega)) ?_)
          refine l_cons (ev_run (v := (.int .i64 ((((i : Nat) : Int) + 1)))) (w1 := w47) rfl rfl (by kernel_rfl) ?_)
          refine l_nil ?_
          refine n_then ?_
          exact k_round (i + 1, L2, rows2, Aw2, cw2, F2_) ⟨(by first | rfl | kernel_rfl), (by first | rfl | kernel_rfl), (by first | rfl | kernel_rfl), (by first | rfl | kernel_rfl), (by first | rfl | kernel_rfl), (by first | rfl | kernel_rfl), trivial⟩ ⟨(by omega), (by omega), hE2, H55.sel [2, 3] (by decide)⟩ (by first | omega | (simp; omega))
    · skip
      refine wp_seq ?_
      refine k_list ?_
      refine l_cons (ev_eq (v := (.bool (decide ((((i : Nat) : Int) : Int) < ((acts.length : Nat) : Int))))) (v' := (.bool false)) (w1 := w4) rfl rfl (by kernel_rfl) (bf (by first | assumption | omega)) ?_)
      refine l_nil ?_
      refine n_then ?_
      refine wp_seq ?_
      refine k_false (by kernel_rfl) ?_
      refine wp_exit ?_
      refine e_then ?_
      refine e_then ?_
      refine e_in ?_
      refine n_then ?_
      refine wp_seq ?_
      refine wp_seq ?_
      refine k_list ?_
      refine l_cons (ev_run (v := (.slice Aw L.length cw)) (w1 := w4) rfl rfl (by kernel_rfl) ?_)
      refine l_cons (ev_run (v := (.int .i64 (((L.length : Nat) : Int)))) (w1 := w4) rfl rfl (by kernel_rfl) ?_)
      refine l_cons (ev_run (v := (.int .i64 0)) (w1 := w4) rfl rfl (by kernel_rfl) ?_)
      refine l_nil ?_
      refine n_then ?_
      refine wp_block ?_
      refine k_loop (σ := Nat) (fun k => [(3, (.pointer (some (⟨g, 0, none⟩)))), (162, (.slice Aw L.length cw)), (163, (.int .i64 (((L.length : Nat) : Int)))), (164, (.int .i64 (((k : Nat) : Int))))]) (fun k w' => (k ≤ L.length) ∧ Hp (fun _ => False) w w' [rowR 29 3 Aw L.length cw rows, bagR g F L]) (fun k => L.length - k) 0 ⟨(by first | rfl | kernel_rfl), (by first | rfl | kernel_rfl), (by first | rfl | kernel_rfl), (by first | rfl | kernel_rfl), trivial⟩ ⟨(by omega), H5⟩ ?_
      rintro L5 k w49 ⟨hk, H57⟩
      change Code.wp _ _ _ (Fr _ _ [(3, (.pointer (some (⟨g, 0, none⟩)))), (162, (.slice Aw L.length cw)), (163, (.int .i64 (((L.length : Nat) : Int)))), (164, (.int .i64 (((k : Nat) : Int))))]) _
      rcases Nat.lt_or_ge k L.length with hlt | hge
      · skip
        obtain ⟨gw, hgw⟩ := rowR_some (H57.get 0 rfl) (by omega)
        subst hgw
        obtain ⟨x, A3, c3, hx, hxm, hrw, hxK, hrd⟩ := hE.at k hlt
        refine wp_seq ?_
        refine k_list ?_
        refine l_cons (ev_eq (v := (.bool (decide ((((k : Nat) : Int) : Int) < ((L.length : Nat) : Int))))) (v' := (.bool true)) (w1 := w49) rfl rfl (by kernel_rfl) (bt (by first | assumption | omega)) ?_)
        refine l_nil ?_
        refine n_then ?_
        refine wp_seq ?_
        refine k_true (by kernel_rfl) ?_
        refine wp_skip ?_
        refine n_then ?_
        refine wp_seq ?_
        refine wp_block ?_
        refine wp_seq ?_
        refine k_list ?_
        refine l_cons (ev_run (v := (.int .i64 (((k : Nat) : Int)))) (w1 := w49) rfl rfl (by kernel_rfl) ?_)
        refine l_cons (ev_run (v := (.pointer (some (((⟨gw, 0, none⟩ : Addr)).add (k * 3))))) (w1 := w49) rfl rfl (run_ixa (sz := 3) (q := k) (ad := ⟨gw, 0, none⟩) (len := L.length) (cap := cw) (k := .i64) (z := ((k : Nat) : Int)) rfl (by kernel_rfl) (by kernel_rfl) rfl (by kernel_rfl) (by first | rfl | omega) (by first | omega | decide)) ?_)
        refine l_cons (ev_run (v := (.agg #[(.int .i64 x.f0), (.int .i64 x.f1), (.slice A3 x.f2.length c3)])) (w1 := w49) rfl rfl (run_ld rfl (by kernel_rfl) (At_rowE (H57.get 0 rfl) k hlt _ hrw) (by kernel_rfl)) ?_)
        refine l_cons (ev_new (cs := [(.int .i64 0), (.int .i64 0), (.slice none 0 0)]) (t := 29) rfl rfl H57 (by kernel_rfl) ?_)
        intro g8 w50 H58 hg8 hbw50
        refine l_cons (ev_run (v := (.int .i64 (((k : Nat) : Int)))) (w1 := w50) rfl rfl (by kernel_rfl) ?_)
        refine l_cons (ev_store (i := 0) rfl rfl rfl H58 (k := 0) rfl (by kernel_rfl) (.agg #[(.int .i64 x.f0), (.int .i64 x.f1), (.slice A3 x.f2.length c3)]) (by kernel_rfl) [(.int .i64 x.f0), (.int .i64 x.f1), (.slice A3 x.f2.length c3)] (by kernel_rfl) (by kernel_rfl) (by kernel_rfl) (by kernel_rfl) [(.int .i64 x.f0), (.int .i64 x.f1), (.slice A3 x.f2.length c3)] (by kernel_rfl) ?_)
        intro w51 H59 hcw51
        refine l_nil ?_
        refine n_then ?_
        refine wp_seq ?_
        refine k_list ?_
        refine l_cons (ev_run (v := (.pointer (some (⟨g, 0, none⟩)))) (w1 := w51) rfl rfl (by kernel_rfl) ?_)
        refine l_cons (ev_run (v := (.int .i64 (((k : Nat) : Int)))) (w1 := w51) rfl rfl (by kernel_rfl) ?_)
        refine l_cons (ev_call rfl rfl (f := 10) (args := #[(.pointer (some (⟨g, 0, none⟩))), (.int .i64 (((k : Nat) : Int)))]) (by kernel_rfl) (atH _ g F L (H59.get 2 rfl) k hlt x hx) ?_)
        rintro e w52 ⟨At_, ct_, rfl, hH_⟩
        refine ⟨_, rfl, ?_⟩
        have H60 := H59.join hH_
        have hb_ := hH_.to_below
        refine l_cons (ev_run (v := (.tuple #[(.agg #[(.int .i64 x.f0), (.int .i64 x.f1), (.slice At_ x.f2.length ct_)]), (.int .i64 0)])) (w1 := w52) rfl rfl (by kernel_rfl) ?_)
        refine l_cons (ev_run (v := (.agg #[(.int .i64 x.f0), (.int .i64 x.f1), (.slice At_ x.f2.length ct_)])) (w1 := w52) rfl rfl (by kernel_rfl) ?_)
        refine l_cons (ev_run (v := (.int .i64 0)) (w1 := w52) rfl rfl (by kernel_rfl) ?_)
        refine l_cons (ev_new (cs := [(.int .i64 0), (.int .i64 0), (.slice none 0 0)]) (t := 29) rfl rfl H60 (by kernel_rfl) ?_)
        intro g9 w53 H61 hg9 hbw53
        refine l_cons (ev_store (i := 0) rfl rfl rfl H61 (k := 0) rfl (by kernel_rfl) (.agg #[(.int .i64 x.f0), (.int .i64 x.f1), (.slice At_ x.f2.length ct_)]) (by kernel_rfl) [(.int .i64 x.f0), (.int .i64 x.f1), (.slice At_ x.f2.length ct_)] (by kernel_rfl) (by kernel_rfl) (by kernel_rfl) (by kernel_rfl) [(.int .i64 x.f0), (.int .i64 x.f1), (.slice At_ x.f2.length ct_)] (by kernel_rfl) ?_)
        intro w54 H62 hcw54
        refine l_cons (ev_run (v := (.int .i64 0)) (w1 := w54) rfl rfl (by kernel_rfl) ?_)
        refine l_nil ?_
        refine n_then ?_
        refine wp_seq ?_
        refine k_list ?_
        refine l_cons (ev_run (v := (.int .i64 0)) (w1 := w54) rfl rfl (by kernel_rfl) ?_)
        refine l_cons (ev_run (v := (.bool false)) (w1 := w54) rfl rfl (by kernel_rfl) ?_)
        refine l_cons (ev_run (v := (.bool false)) (w1 := w54) rfl rfl (by kernel_rfl) ?_)
        refine l_cons (ev_run (v := (.agg #[(.int .i64 x.f0), (.int .i64 x.f1), (.slice At_ x.f2.length ct_)])) (w1 := w54) (by kernel_rfl) rfl (run_ld rfl (by kernel_rfl) (At.blk (H62.get 0 rfl) 0) (by kernel_rfl)) ?_)
        refine l_cons (ev_run (v := (.agg #[(.int .i64 x.f0), (.int .i64 x.f1), (.slice A3 x.f2.length c3)])) (w1 := w54) (by kernel_rfl) rfl (run_ld rfl (by kernel_rfl) (At.blk (H62.get 2 rfl) 0) (by kernel_rfl)) ?_)
        refine l_cons (ev_call (by kernel_rfl) rfl (f := 17) (args := #[(.agg #[(.int .i64 x.f0), (.int .i64 x.f1), (.slice At_ x.f2.length ct_)]), (.agg #[(.int .i64 x.f0), (.int .i64 x.f1), (.slice A3 x.f2.length c3)])]) (by kernel_rfl) (same_true _ _ _ _ x.f2 _ (Rd_of (byR_le (H62.get 1 rfl)) (byR_C (H62.get 1 rfl))) (hrd.to H62)) ?_)
        rintro e w55 ⟨rfl, hb_⟩
        refine ⟨_, rfl, ?_⟩
        have H63 := H62.below hb_
        refine l_cons (ev_run (v := (.bool false)) (w1 := w55) (by kernel_rfl) rfl (by kernel_rfl) ?_)
        refine l_cons (ev_run (v := (.bool false)) (w1 := w55) rfl rfl (by kernel_rfl) ?_)
        refine l_nil ?_
        refine n_then ?_
        refine k_false (by kernel_rfl) ?_
        refine wp_skip ?_
        refine n_in ?_
        refine n_then ?_
        refine k_list ?_
        refine l_cons (ev_eq (v := (.int .i64 (IntKind.i64.wrap (((k : Nat) : Int) + 1)))) (v' := (.int .i64 ((((k : Nat) : Int) + 1)))) (w1 := w55) rfl rfl (by kernel_rfl) (wr64 (by omega) (by omega)) ?_)
        refine l_cons (ev_run (v := (.int .i64 ((((k : Nat) : Int) + 1)))) (w1 := w55) rfl rfl (by kernel_rfl) ?_)
        refine l_nil ?_
        refine n_then ?_
        exact k_round (k + 1) ⟨(by first | rfl | kernel_rfl), (by first | rfl | kernel_rfl), (by first | rfl | kernel_rfl), (by first | rfl | kernel_rfl), trivial⟩ ⟨(by omega), H63.sel [3, 4] (by decide)⟩ (by first | omega | (simp; omega))
      · skip
        refine wp_seq ?_
        refine k_list ?_
        refine l_cons (ev_eq (v := (.bool (decide ((((k : Nat) : Int) : Int) < ((L.length : Nat) : Int))))) (v' := (.bool false)) (w1 := w49) rfl rfl (by kernel_rfl) (bf (by first | assumption | omega)) ?_)
        refine l_nil ?_
        refine n_then ?_
        refine wp_seq ?_
        refine k_false (by kernel_rfl) ?_
        refine wp_exit ?_
        refine e_then ?_
        refine e_then ?_
        refine e_in ?_
        refine n_then ?_
        refine wp_seq ?_
        refine k_list ?_
        refine l_cons (ev_run (v := (.bool true)) (w1 := w49) rfl rfl (by kernel_rfl) ?_)
        refine l_nil ?_
        refine n_then ?_
        refine wp_ret ?_
        refine b_ret (v := (.bool true)) (resS rfl (.tmp (by kernel_rfl) .nil)) ?_
        exact ⟨rfl, H57.to_below⟩
end Go.Proofs.Ytmfbkbklgjpllaa
