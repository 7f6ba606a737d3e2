/- What the document picks for a slot (catenaryref18.Pick): the request of the best prep, with the prep's own bytes. -/
import Derived.Test.YtpnelfefchdhcaaB9
import Derived.Test.YtpnelfefchdhcaaLst
namespace Go.Proofs.Ytpnelfefchdhcaa
open Go.RowKit Go.Proofs.YtpnelfefchdhcaaW.PrintWords Go.Proofs.YtpnelfefchdhcaaW.PrintLast Go.Proofs.YtpnelfefchdhcaaW.PrintMore
open Go.Proofs.Ytpnelfefchdhcaa.PChoosePicks
set_option linter.unusedVariables false
set_option linter.unusedSimpArgs false
set_option maxRecDepth 100000
theorem elts45 {w : World} {L : List S45} {rows : List (List Value)} (h : Elts k45 w L rows) (j : Nat) (hj : j < L.length) : ∃ x A5 c5 A6 c6 A7 c7, x = L.getD j z45 ∧ rows.getD j [] = [(.int .i64 x.f0), (.int .i64 x.f1.f0), (.int .i64 x.f1.f1), (.int .i64 x.f2.f0), (.int .i64 x.f2.f1), (.slice A5 x.f2.f2.length c5), (.slice A6 x.f2.f3.length c6), (.slice A7 x.f3.length c7)] ∧ x.f2.f2.length ≤ c5 ∧ Kd.C (Kd.int .u8) w A5 x.f2.f2.length x.f2.f2 ∧ x.f2.f3.length ≤ c6 ∧ Kd.C (Kd.int .u8) w A6 x.f2.f3.length x.f2.f3 ∧ x.f3.length ≤ c7 ∧ Kd.C k57 w A7 x.f3.length x.f3 := by
  obtain ⟨A5, c5, A6, c6, A7, c7, he, l5, g5, l6, g6, l7, g7⟩ := k45_open (h.at z45 j hj)
  exact ⟨_, A5, c5, A6, c6, A7, c7, rfl, he, l5, g5, l6, g6, l7, g7⟩
theorem elts36 {w : World} {L : List S36} {rows : List (List Value)} (h : Elts k36 w L rows) (j : Nat) (hj : j < L.length) : ∃ x A2 c2 A3 c3, x = L.getD j z36 ∧ rows.getD j [] = [(.int .i64 x.f0), (.int .i64 x.f1), (.slice A2 x.f2.length c2), (.slice A3 x.f3.length c3)] ∧ x.f2.length ≤ c2 ∧ Kd.C (Kd.int .u8) w A2 x.f2.length x.f2 ∧ x.f3.length ≤ c3 ∧ Kd.C (Kd.int .u8) w A3 x.f3.length x.f3 := by
  obtain ⟨A2, c2, A3, c3, he, l2, g2, l3, g3⟩ := k36_open (h.at z36 j hj)
  exact ⟨_, A2, c2, A3, c3, rfl, he, l2, g2, l3, g3⟩

theorem rcompare_f (a b : S25) : catenaryref04_Compare.f a.f0 a.f1 b.f0 b.f1 = some (cmpB a b) := by
  simp only [catenaryref04_Compare.f, cmpB, cmpI]
  repeat' split
  all_goals first | rfl | omega | simp_all
theorem rcompare_c (a b : S25) (w : World) : Calls Try.prog 23 #[.agg #[.int .i64 a.f0, .int .i64 a.f1], .agg #[.int .i64 b.f0, .int .i64 b.f1]] w fun e w' => e = .returned (.int .i64 (cmpB a b)) ∧ Below w.heap.size w w' :=
  catenaryref04_Compare.calls a.f0 a.f1 b.f0 b.f1 _ w (rcompare_f a b)
theorem read_below {W w : World} (hb0 : Below W.heap.size W w) {news : List (List Value)} {B : Option Addr} {sz : Nat} (h : ∀ (j : Nat) (row : List Value), news[j]? = some row → ∃ ad, B = some ad ∧ At W (ad.add (j * sz)) row ∧ row.length = sz ∧ ∀ u ∈ row, u.oneCell' = true) (j : Nat) (row : List Value) (hj : news[j]? = some row) : ∃ ad, B = some ad ∧ At w (ad.add (j * sz)) row ∧ row.length = sz ∧ ∀ u ∈ row, u.oneCell' = true := by
  obtain ⟨ad, h1, h2, h3⟩ := h j row hj
  exact ⟨ad, h1, At.below h2 hb0, h3⟩
/-- The preps of the first reports. -/
def psOf (l : List S30) (j : Nat) : List S45 := (l.take j).flatMap S30.f5
theorem psOf_succ (l : List S30) (j : Nat) (h : j < l.length) : psOf l (j + 1) = psOf l j ++ (l.getD j z30).f5 := by
  simp only [psOf, take_getD l j z30 h, List.flatMap_append, List.flatMap_cons, List.flatMap_nil, List.append_nil]
theorem psOf_all (l : List S30) : psOf l l.length = l.flatMap S30.f5 := by rw [psOf, List.take_length]
theorem psOf_le (l : List S30) (j : Nat) : (psOf l j).length ≤ (l.flatMap S30.f5).length := by
  have h : l.flatMap S30.f5 = psOf l j ++ (l.drop j).flatMap S30.f5 := by rw [psOf, ← List.flatMap_append, List.take_append_drop]
  rw [h, List.length_append]; omega
theorem bestIn_flat (slot : Int) (l : List S30) : bestIn slot l = (l.flatMap S30.f5).foldl (betr slot) none := by rw [bestIn, List.foldl_flatMap]
theorem betr_yes {slot : Int} {p : S45} (h : p.f0 = slot) : betr slot none p = some p := by simp [betr, h]
theorem betr_new {slot : Int} {p q : S45} (h : p.f0 = slot) (h2 : cmpB p.f1 q.f1 > 0) : betr slot (some q) p = some p := by simp [betr, h]; omega
theorem betr_old {slot : Int} {p q : S45} (h2 : ¬ cmpB p.f1 q.f1 > 0) : betr slot (some q) p = some q := by
  unfold betr; rw [if_neg]; intro h; have := h.2 q rfl; omega
theorem betr_no {slot : Int} {p : S45} {b : Option S45} (h : ¬ p.f0 = slot) : betr slot b p = b := by simp [betr, h]
/-- What the loop over all preps holds: the best so far, where it stands, its request's cells. -/
def PSt (w : World) (ps : List S45) (b : Option S45) (i : Int) (x : S36) (A2 : Option Addr) (c2 : Nat) (A3 : Option Addr) (c3 : Nat) : Prop :=
  (b = none ∧ i = -1 ∧ x = z36 ∧ A2 = none ∧ c2 = 0 ∧ A3 = none ∧ c3 = 0) ∨ (∃ (m : Nat) (p : S45), b = some p ∧ i = (m : Int) ∧ m < ps.length ∧ p = ps.getD m z45 ∧ x = p.f2 ∧ RqC w x A2 c2 A3 c3)
theorem PSt.rq {w : World} {ps : List S45} {b : Option S45} {i : Int} {x : S36} {A2 : Option Addr} {c2 : Nat} {A3 : Option Addr} {c3 : Nat} (h : PSt w ps b i x A2 c2 A3 c3) : reqOf b = x ∧ RqC w x A2 c2 A3 c3 := by
  rcases h with ⟨rfl, _, rfl, rfl, rfl, rfl, rfl⟩ | ⟨m, p, rfl, _, _, _, rfl, h⟩
  · exact ⟨rfl, Nat.le_refl 0, C_nil _, Nat.le_refl 0, C_nil _⟩
  · exact ⟨rfl, h⟩
theorem pst_cases {w : World} {ps : List S45} {b : Option S45} {i : Int} {x : S36} {A2 : Option Addr} {c2 : Nat} {A3 : Option Addr} {c3 : Nat} (h : PSt w ps b i x A2 c2 A3 c3) (q n : Nat) : (q < n ∧ b = none ∧ i = -1) ∨ (q < n ∧ ∃ (m : Nat) (p : S45), b = some p ∧ i = (m : Int) ∧ m < ps.length ∧ p = ps.getD m z45) ∨ n ≤ q := by
  rcases Nat.lt_or_ge q n with h2 | h2
  · rcases h with ⟨h, h3, _⟩ | ⟨m, p, h3, h4, h5, h6, _⟩
    · exact .inl ⟨h2, h, h3⟩
    · exact .inr (.inl ⟨h2, m, p, h3, h4, h5, h6⟩)
  · exact .inr (.inr h2)
set_option maxHeartbeats 1000000 in
theorem rpick_c (slot : Int) (A : Option Addr) (c : Nat) (l : List S30) (W w : World) (hC : Kd.C k30 W A l.length l) (hb0 : Below W.heap.size W w) (hS : (l.flatMap S30.f5).length ≤ 1048576) :
    Calls Try.prog 13 #[.int .i64 slot, .slice A l.length c] w fun e w' => ∃ A2 c2 A3 c3, e = .returned (.agg #[.int .i64 (pickOf slot l).f0, .int .i64 (pickOf slot l).f1, .slice A2 (pickOf slot l).f2.length c2, .slice A3 (pickOf slot l).f3.length c3]) ∧ RqC W (pickOf slot l) A2 c2 A3 c3 ∧ Below w.heap.size w w' := by
  have H := Hp.start (fun _ => False) w
  have hlen := C_len hC
  refine k_enter (args := [(.int .i64 slot), (.slice A l.length c)]) Try.func13 rfl Try.ntmps13 (Nat.le_of_ble_eq_true rfl) ?_
  refine wp_seq ?_
  refine k_list ?_
  refine l_cons (ev_new (cs := [(.int .i64 0), (.int .i64 0), (.slice none 0 0), (.slice none 0 0)]) (t := 36) rfl rfl H (by kernel_rfl) ?_)
  intro g1 w1 H1 hg1 hbw1
  refine l_nil ?_
  refine n_then ?_
  refine wp_seq ?_
  refine k_list ?_
  refine l_cons (ev_newRow (cs := []) (t := 45) (len := 0) rfl rfl H1 (by kernel_rfl) ?_)
  intro g2 w2 H2 hg2 hbw2
  refine l_cons (ev_run (v := (.slice (some (⟨g2, 0, none⟩)) 0 0)) (w1 := w2) rfl rfl (by kernel_rfl) ?_)
  refine l_nil ?_
  refine n_then ?_
  refine wp_seq ?_
  refine wp_seq ?_
  refine k_list ?_
  refine l_cons (ev_run (v := (.slice A l.length c)) (w1 := w2) rfl rfl (by kernel_rfl) ?_)
  refine l_cons (ev_run (v := (.int .i64 (((l.length : Nat) : Int)))) (w1 := w2) rfl rfl (by kernel_rfl) ?_)
  refine l_cons (ev_run (v := (.int .i64 0)) (w1 := w2) rfl rfl (by kernel_rfl) ?_)
  refine l_nil ?_
  refine n_then ?_
  refine wp_block ?_
  have H3 := H2.imp 0 rfl (rowR 45 8 (some ⟨g2, 0, none⟩) 0 0 ([] : List (List Value))) (fun h => rowR_blk h ([] : List (List Value)) rfl (by first | rfl | kernel_rfl) (by simp)) (fun k hk => (Option.some.inj hk).symm)
  refine k_loop (σ := Nat × Nat × Option Addr × Nat × List (List Value)) (fun x_ => match x_ with | (j, na, Aa, ca, ra) => [(1, (.slice A l.length c)), (0, (.int .i64 slot)), (4, (.pointer (some (⟨g1, 0, none⟩)))), (13, (.slice A l.length c)), (14, (.int .i64 (((l.length : Nat) : Int)))), (15, (.int .i64 (((j : Nat) : Int)))), (5, (.slice Aa na ca))]) (fun x_ w' => match x_ with | (j, na, Aa, ca, ra) => (j ≤ l.length) ∧ (na = (psOf l j).length) ∧ (Elts k45 W (psOf l j) ra) ∧ Hp (fun _ => False) w w' [rowR 45 8 Aa na ca ra, blk g1 [(.int .i64 0), (.int .i64 0), (.slice none 0 0), (.slice none 0 0)] 36]) (fun x_ => match x_ with | (j, na, Aa, ca, ra) => l.length - j) (0, 0, (some (⟨g2, 0, none⟩)), 0, []) ⟨(by first | rfl | kernel_rfl), (by first | rfl | kernel_rfl), (by first | rfl | kernel_rfl), (by first | rfl | kernel_rfl), (by first | rfl | kernel_rfl), (by first | rfl | kernel_rfl), (by first | rfl | kernel_rfl), trivial⟩ ⟨(by omega), rfl, Elts.nil, H3⟩ ?_
  rintro L1 ⟨j, na, Aa, ca, ra⟩ w3 ⟨hj, hna, hE, H4⟩
  change Code.wp _ _ _ (Fr _ _ [(1, (.slice A l.length c)), (0, (.int .i64 slot)), (4, (.pointer (some (⟨g1, 0, none⟩)))), (13, (.slice A l.length c)), (14, (.int .i64 (((l.length : Nat) : Int)))), (15, (.int .i64 (((j : Nat) : Int)))), (5, (.slice Aa na ca))]) _
  rcases Nat.lt_or_ge j l.length with hlt | hge
  · skip
    obtain ⟨ad, rfl⟩ := C_some hC (by omega) z30
    obtain ⟨r, Ar4, cr4, Ar5, cr5, Ar6, cr6, Ar7, cr7, hr, hrA, lr4, gr4, lr5, gr5, lr6, gr6, lr7, gr7⟩ := elem30 hC j hlt
    have hps := psOf_succ l j hlt
    rw [← hr] at hps
    have hpl := psOf_le l (j + 1)
    rw [hps, List.length_append] at hpl
    refine wp_seq ?_
    refine k_list ?_
    refine l_cons (ev_eq (v := (.bool (decide ((((j : Nat) : Int) : Int) < ((l.length : Nat) : Int))))) (v' := (.bool true)) (w1 := w3) rfl rfl (by kernel_rfl) (bt (by first | assumption | omega)) ?_)
    refine l_nil ?_
    refine n_then ?_
    refine wp_seq ?_
    refine k_true (by kernel_rfl) ?_
    refine wp_skip ?_
    refine n_then ?_
    refine wp_seq ?_
    refine wp_block ?_
    refine wp_seq ?_
    refine k_list ?_
    refine l_cons (ev_run (v := (.pointer (some ((ad).add (j * 8))))) (w1 := w3) rfl rfl (run_ixa (sz := 8) (q := j) (ad := ad) (len := l.length) (cap := c) (k := .i64) (z := ((j : Nat) : Int)) rfl (by kernel_rfl) (by kernel_rfl) rfl (by kernel_rfl) (by first | rfl | omega) (by first | omega | decide)) ?_)
    refine l_cons (ev_run (v := (.agg #[(.int .i64 r.f0.f0), (.int .i64 r.f0.f1), (.int .i64 r.f1), (.int .i64 r.f2), (.slice Ar4 r.f3.length cr4), (.slice Ar5 r.f4.length cr5), (.slice Ar6 r.f5.length cr6), (.slice Ar7 r.f6.length cr7)])) (w1 := w3) rfl rfl (run_ld rfl (by kernel_rfl) (At.hp (At.below hrA hb0) H4 (fun h => h)) (by kernel_rfl)) ?_)
    refine l_cons (ev_new (cs := [(.int .i64 0), (.int .i64 0), (.int .i64 0), (.int .i64 0), (.slice none 0 0), (.slice none 0 0), (.slice none 0 0), (.slice none 0 0)]) (t := 30) rfl rfl H4 (by kernel_rfl) ?_)
    intro g3 w4 H5 hg3 hbw4
    refine l_cons (ev_store (i := 0) rfl rfl rfl H5 (k := 0) rfl (by kernel_rfl) (.agg #[(.int .i64 r.f0.f0), (.int .i64 r.f0.f1), (.int .i64 r.f1), (.int .i64 r.f2), (.slice Ar4 r.f3.length cr4), (.slice Ar5 r.f4.length cr5), (.slice Ar6 r.f5.length cr6), (.slice Ar7 r.f6.length cr7)]) (by kernel_rfl) [(.int .i64 r.f0.f0), (.int .i64 r.f0.f1), (.int .i64 r.f1), (.int .i64 r.f2), (.slice Ar4 r.f3.length cr4), (.slice Ar5 r.f4.length cr5), (.slice Ar6 r.f5.length cr6), (.slice Ar7 r.f6.length cr7)] (by kernel_rfl) (by kernel_rfl) (by kernel_rfl) (by kernel_rfl) [(.int .i64 r.f0.f0), (.int .i64 r.f0.f1), (.int .i64 r.f1), (.int .i64 r.f2), (.slice Ar4 r.f3.length cr4), (.slice Ar5 r.f4.length cr5), (.slice Ar6 r.f5.length cr6), (.slice Ar7 r.f6.length cr7)] (by kernel_rfl) ?_)
    intro w5 H6 hcw5
    refine l_nil ?_
    refine n_then ?_
    refine k_list ?_
    refine l_cons (ev_run (v := (.slice Aa na ca)) (w1 := w5) rfl rfl (by kernel_rfl) ?_)
    refine l_cons (ev_run (v := (.pointer (some (⟨g3, 6, none⟩)))) (w1 := w5) rfl rfl (by kernel_rfl) ?_)
    refine l_cons (ev_run (v := (.slice Ar6 r.f5.length cr6)) (w1 := w5) rfl rfl (run_ld rfl (by kernel_rfl) (At.blk (H6.get 0 rfl) 6) (by kernel_rfl)) ?_)
    obtain ⟨nw1, hlnw1, hknw1, hrnw1⟩ := read_C gr6
    have hrnw1 := read_below hb0 hrnw1
    refine l_cons (ev_append (e := 45) (sz := 8) (z := (.agg #[(.int .i64 0), (.int .i64 0), (.int .i64 0), (.int .i64 0), (.int .i64 0), (.slice none 0 0), (.slice none 0 0), (.slice none 0 0)])) (bytes := 112) 1 (A := Aa) (m0 := na) (c := ca) (rows := ra) nw1 Ar6 r.f5.length cr6 rfl rfl rfl Try.underlying28 (by kernel_rfl) rfl rfl rfl H6 rfl (by kernel_rfl) (by kernel_rfl) hlnw1 (read_to H6 hrnw1) (by first | omega | (simp; omega)) (na + r.f5.length) (by first | rfl | omega) ?_)
    intro Aa1 cc1 w6 H7 hcw6
    refine l_cons (ev_run (v := (.slice Aa1 ((na + r.f5.length)) cc1)) (w1 := w6) rfl rfl (by kernel_rfl) ?_)
    refine l_nil ?_
    refine n_in ?_
    refine n_then ?_
    refine k_list ?_
    refine l_cons (ev_eq (v := (.int .i64 (IntKind.i64.wrap (((j : Nat) : Int) + 1)))) (v' := (.int .i64 ((((j : Nat) : Int) + 1)))) (w1 := w6) rfl rfl (by kernel_rfl) (wr64 (by omega) (by omega)) ?_)
    refine l_cons (ev_run (v := (.int .i64 ((((j : Nat) : Int) + 1)))) (w1 := w6) rfl rfl (by kernel_rfl) ?_)
    refine l_nil ?_
    refine n_then ?_
    exact k_round (j + 1, (na + r.f5.length), Aa1, cc1, ra ++ nw1) ⟨(by first | rfl | kernel_rfl), (by first | rfl | kernel_rfl), (by first | rfl | kernel_rfl), (by first | rfl | kernel_rfl), (by first | rfl | kernel_rfl), (by first | rfl | kernel_rfl), (by first | rfl | kernel_rfl), trivial⟩ ⟨(by omega), (by rw [hps, List.length_append, hna]), (by rw [hps]; exact hE.append ⟨hlnw1, hknw1⟩), H7.sel [1, 2] (by decide)⟩ (by first | omega | (simp; omega))
  · skip
    refine wp_seq ?_
    refine k_list ?_
    refine l_cons (ev_eq (v := (.bool (decide ((((j : Nat) : Int) : Int) < ((l.length : Nat) : Int))))) (v' := (.bool false)) (w1 := w3) rfl rfl (by kernel_rfl) (bf (by first | assumption | omega)) ?_)
    refine l_nil ?_
    refine n_then ?_
    refine wp_seq ?_
    refine k_false (by kernel_rfl) ?_
    refine wp_exit ?_
    refine e_then ?_
    refine e_then ?_
    refine e_in ?_
    refine n_then ?_
    refine wp_seq ?_
    refine k_list ?_
    refine l_cons (ev_run (v := (.agg #[(.int .i64 0), (.int .i64 0), (.slice none 0 0), (.slice none 0 0)])) (w1 := w3) rfl rfl (by kernel_rfl) ?_)
    refine l_cons (ev_new (cs := [(.int .i64 0), (.int .i64 0), (.slice none 0 0), (.slice none 0 0)]) (t := 36) rfl rfl H4 (by kernel_rfl) ?_)
    intro g4 w7 H8 hg4 hbw7
    refine l_cons (ev_store (i := 0) rfl rfl rfl H8 (k := 0) rfl (by kernel_rfl) (.agg #[(.int .i64 0), (.int .i64 0), (.slice none 0 0), (.slice none 0 0)]) (by kernel_rfl) [(.int .i64 0), (.int .i64 0), (.slice none 0 0), (.slice none 0 0)] (by kernel_rfl) (by kernel_rfl) (by kernel_rfl) (by kernel_rfl) [(.int .i64 0), (.int .i64 0), (.slice none 0 0), (.slice none 0 0)] (by kernel_rfl) ?_)
    intro w8 H9 hcw8
    refine l_nil ?_
    refine n_then ?_
    refine wp_seq ?_
    refine k_list ?_
    refine l_cons (ev_run (v := (.int .i64 ((-1)))) (w1 := w8) rfl rfl (by kernel_rfl) ?_)
    refine l_nil ?_
    refine n_then ?_
    refine wp_seq ?_
    refine wp_seq ?_
    refine k_list ?_
    refine l_cons (ev_run (v := (.slice Aa na ca)) (w1 := w8) rfl rfl (by kernel_rfl) ?_)
    refine l_cons (ev_run (v := (.int .i64 (((na : Nat) : Int)))) (w1 := w8) rfl rfl (by kernel_rfl) ?_)
    refine l_cons (ev_run (v := (.int .i64 0)) (w1 := w8) rfl rfl (by kernel_rfl) ?_)
    refine l_nil ?_
    refine n_then ?_
    refine wp_block ?_
    obtain rfl : j = l.length := by omega
    rw [psOf_all] at hna hE
    have hna2 : na ≤ 1048576 := by omega
    refine k_loop (σ := Nat × Int × S36 × Option Addr × Nat × Option Addr × Nat) (fun x_ => match x_ with | (q, i, x, A2, c2, A3, c3) => [(0, (.int .i64 slot)), (4, (.pointer (some (⟨g1, 0, none⟩)))), (5, (.slice Aa na ca)), (8, (.pointer (some (⟨g4, 0, none⟩)))), (9, (.int .i64 i)), (25, (.slice Aa na ca)), (26, (.int .i64 (((na : Nat) : Int)))), (27, (.int .i64 (((q : Nat) : Int))))]) (fun x_ w' => match x_ with | (q, i, x, A2, c2, A3, c3) => (q ≤ na) ∧ (PSt W (l.flatMap S30.f5) (((l.flatMap S30.f5).take q).foldl (betr slot) none) i x A2 c2 A3 c3) ∧ Hp (fun _ => False) w w' [rowR 45 8 Aa na ca ra, blk g1 [(.int .i64 0), (.int .i64 0), (.slice none 0 0), (.slice none 0 0)] 36, blk g4 [(.int .i64 x.f0), (.int .i64 x.f1), (.slice A2 x.f2.length c2), (.slice A3 x.f3.length c3)] 36]) (fun x_ => match x_ with | (q, i, x, A2, c2, A3, c3) => na - q) (0, (-1), z36, none, 0, none, 0) ⟨(by first | rfl | kernel_rfl), (by first | rfl | kernel_rfl), (by first | rfl | kernel_rfl), (by first | rfl | kernel_rfl), (by first | rfl | kernel_rfl), (by first | rfl | kernel_rfl), (by first | rfl | kernel_rfl), (by first | rfl | kernel_rfl), trivial⟩ ⟨(by omega), (.inl ⟨rfl, rfl, rfl, rfl, rfl, rfl, rfl⟩), H9.sel [1, 2, 0] (by decide)⟩ ?_
    rintro L2 ⟨q, i, x, A2, c2, A3, c3⟩ w9 ⟨hq0, hst, H10⟩
    change Code.wp _ _ _ (Fr _ _ [(0, (.int .i64 slot)), (4, (.pointer (some (⟨g1, 0, none⟩)))), (5, (.slice Aa na ca)), (8, (.pointer (some (⟨g4, 0, none⟩)))), (9, (.int .i64 i)), (25, (.slice Aa na ca)), (26, (.int .i64 (((na : Nat) : Int)))), (27, (.int .i64 (((q : Nat) : Int))))]) _
    rcases pst_cases hst q na with ⟨hlt, hb, hi⟩ | ⟨hlt, m, y0, hb, hi, hm, hy0⟩ | hge
    · skip
      subst hi
      obtain ⟨ga, hga⟩ := rowR_some (H10.get 0 rfl) (by omega)
      subst hga
      obtain ⟨p, Ap5, cp5, Ap6, cp6, Ap7, cp7, hp, hpw, lp5, gp5, lp6, gp6, lp7, gp7⟩ := elts45 hE q (by omega)
      refine wp_seq ?_
      refine k_list ?_
      refine l_cons (ev_eq (v := (.bool (decide ((((q : Nat) : Int) : Int) < ((na : Nat) : Int))))) (v' := (.bool true)) (w1 := w9) rfl rfl (by kernel_rfl) (bt (by first | assumption | omega)) ?_)
      refine l_nil ?_
      refine n_then ?_
      refine wp_seq ?_
      refine k_true (by kernel_rfl) ?_
      refine wp_skip ?_
      refine n_then ?_
      refine wp_seq ?_
      refine wp_block ?_
      refine wp_seq ?_
      refine k_list ?_
      refine l_cons (ev_run (v := (.int .i64 (((q : Nat) : Int)))) (w1 := w9) rfl rfl (by kernel_rfl) ?_)
      refine l_cons (ev_run (v := (.pointer (some (((⟨ga, 0, none⟩ : Addr)).add (q * 8))))) (w1 := w9) rfl rfl (run_ixa (sz := 8) (q := q) (ad := ⟨ga, 0, none⟩) (len := na) (cap := ca) (k := .i64) (z := ((q : Nat) : Int)) rfl (by kernel_rfl) (by kernel_rfl) rfl (by kernel_rfl) (by first | rfl | omega) (by first | omega | decide)) ?_)
      refine l_cons (ev_run (v := (.agg #[(.int .i64 p.f0), (.int .i64 p.f1.f0), (.int .i64 p.f1.f1), (.int .i64 p.f2.f0), (.int .i64 p.f2.f1), (.slice Ap5 p.f2.f2.length cp5), (.slice Ap6 p.f2.f3.length cp6), (.slice Ap7 p.f3.length cp7)])) (w1 := w9) rfl rfl (run_ld rfl (by kernel_rfl) (At_rowE (H10.get 0 rfl) q (by omega) _ hpw) (by kernel_rfl)) ?_)
      refine l_cons (ev_new (cs := [(.int .i64 0), (.int .i64 0), (.int .i64 0), (.int .i64 0), (.int .i64 0), (.slice none 0 0), (.slice none 0 0), (.slice none 0 0)]) (t := 45) rfl rfl H10 (by kernel_rfl) ?_)
      intro g5 w10 H11 hg5 hbw10
      refine l_cons (ev_run (v := (.int .i64 (((q : Nat) : Int)))) (w1 := w10) rfl rfl (by kernel_rfl) ?_)
      refine l_cons (ev_store (i := 0) rfl rfl rfl H11 (k := 0) rfl (by kernel_rfl) (.agg #[(.int .i64 p.f0), (.int .i64 p.f1.f0), (.int .i64 p.f1.f1), (.int .i64 p.f2.f0), (.int .i64 p.f2.f1), (.slice Ap5 p.f2.f2.length cp5), (.slice Ap6 p.f2.f3.length cp6), (.slice Ap7 p.f3.length cp7)]) (by kernel_rfl) [(.int .i64 p.f0), (.int .i64 p.f1.f0), (.int .i64 p.f1.f1), (.int .i64 p.f2.f0), (.int .i64 p.f2.f1), (.slice Ap5 p.f2.f2.length cp5), (.slice Ap6 p.f2.f3.length cp6), (.slice Ap7 p.f3.length cp7)] (by kernel_rfl) (by kernel_rfl) (by kernel_rfl) (by kernel_rfl) [(.int .i64 p.f0), (.int .i64 p.f1.f0), (.int .i64 p.f1.f1), (.int .i64 p.f2.f0), (.int .i64 p.f2.f1), (.slice Ap5 p.f2.f2.length cp5), (.slice Ap6 p.f2.f3.length cp6), (.slice Ap7 p.f3.length cp7)] (by kernel_rfl) ?_)
      intro w11 H12 hcw11
      refine l_nil ?_
      refine n_then ?_
      refine wp_seq ?_
      refine r_start (m := 19) (fun j => false) (fun w' => Hp (fun _ => False) w w' [blk g5 [(.int .i64 p.f0), (.int .i64 p.f1.f0), (.int .i64 p.f1.f1), (.int .i64 p.f2.f0), (.int .i64 p.f2.f1), (.slice Ap5 p.f2.f2.length cp5), (.slice Ap6 p.f2.f3.length cp6), (.slice Ap7 p.f3.length cp7)] 45, rowR 45 8 (some (⟨ga, 0, none⟩)) na ca ra, blk g1 [(.int .i64 0), (.int .i64 0), (.slice none 0 0), (.slice none 0 0)] 36, blk g4 [(.int .i64 x.f0), (.int .i64 x.f1), (.slice A2 x.f2.length c2), (.slice A3 x.f3.length c3)] 36]) (by kernel_rfl) rfl (by kernel_rfl) (fun _ _ _ _ _ h => h) ?_
      have H13 := H12.drew
      refine r_take (i := 0) (v := (.pointer (some (⟨g5, 0, none⟩)))) rfl (by kernel_rfl) (by kernel_rfl) (by kernel_rfl) rfl H13 (fun _ _ => by kernel_rfl) ?_
      refine r_take (i := 1) (v := (.int .i64 p.f0)) rfl (by kernel_rfl) (by kernel_rfl) (by kernel_rfl) rfl H13 (fun w_ hs_ => (run_ld rfl (by kernel_rfl) (At.blk (hs_.get 0 rfl) 0) (by kernel_rfl))) ?_
      refine r_take (i := 2) (v := (.int .i64 slot)) rfl (by kernel_rfl) (by kernel_rfl) (by kernel_rfl) rfl H13 (fun _ _ => by kernel_rfl) ?_
      by_cases hc1 : (p.f0 : Int) = slot
      · skip
        refine r_take_eq (i := 3) (v := (.bool ((p.f0 : Int) == slot))) (v' := (.bool true)) rfl (by kernel_rfl) (by kernel_rfl) (by kernel_rfl) rfl H13 (fun _ _ => by kernel_rfl) (beqt (by first | assumption | omega)) ?_
        refine r_take (i := 4) (v := (.bool true)) rfl (by kernel_rfl) (by kernel_rfl) (by kernel_rfl) rfl H13 (fun _ _ => by kernel_rfl) ?_
        refine r_take (i := 5) (v := (.int .i64 ((-1)))) rfl (by kernel_rfl) (by kernel_rfl) (by kernel_rfl) rfl H13 (fun _ _ => by kernel_rfl) ?_
        refine r_take_eq (i := 6) (v := (.bool (decide (((-1) : Int) < 0)))) (v' := (.bool true)) rfl (by kernel_rfl) (by kernel_rfl) (by kernel_rfl) rfl H13 (fun _ _ => by kernel_rfl) (bt (by first | assumption | omega)) ?_
        refine r_take (i := 7) (v := (.bool true)) rfl (by kernel_rfl) (by kernel_rfl) (by kernel_rfl) rfl H13 (fun _ _ => by kernel_rfl) ?_
        refine r_pass (i := 8) rfl (by kernel_rfl) (by kernel_rfl) (by kernel_rfl) rfl H13 ?_
        refine r_pass (i := 9) rfl (by kernel_rfl) (by kernel_rfl) (by kernel_rfl) rfl H13 ?_
        refine r_pass (i := 10) rfl (by kernel_rfl) (by kernel_rfl) (by kernel_rfl) rfl H13 ?_
        refine r_pass (i := 11) rfl (by kernel_rfl) (by kernel_rfl) (by kernel_rfl) rfl H13 ?_
        refine r_pass (i := 12) rfl (by kernel_rfl) (by kernel_rfl) (by kernel_rfl) rfl H13 ?_
        refine r_pass (i := 13) rfl (by kernel_rfl) (by kernel_rfl) (by kernel_rfl) rfl H13 ?_
        refine r_pass (i := 14) rfl (by kernel_rfl) (by kernel_rfl) (by kernel_rfl) rfl H13 ?_
        refine r_pass (i := 15) rfl (by kernel_rfl) (by kernel_rfl) (by kernel_rfl) rfl H13 ?_
        refine r_pass (i := 16) rfl (by kernel_rfl) (by kernel_rfl) (by kernel_rfl) rfl H13 ?_
        refine r_take (i := 17) (v := (.bool true)) rfl (by kernel_rfl) (by kernel_rfl) (by kernel_rfl) rfl H13 (fun _ _ => by kernel_rfl) ?_
        refine r_take (i := 18) (v := (.bool true)) rfl (by kernel_rfl) (by kernel_rfl) (by kernel_rfl) rfl H13 (fun _ _ => by kernel_rfl) ?_
        refine r_done (by kernel_rfl) ?_
        refine n_then ?_
        refine k_true (by kernel_rfl) ?_
        refine wp_seq ?_
        refine k_list ?_
        refine l_cons (ev_run (v := (.int .i64 (((q : Nat) : Int)))) (w1 := w11.drew) rfl rfl (by kernel_rfl) ?_)
        refine l_cons (ev_run (v := (.int .i64 (((q : Nat) : Int)))) (w1 := w11.drew) rfl rfl (by kernel_rfl) ?_)
        refine l_nil ?_
        refine n_then ?_
        refine k_list ?_
        refine l_cons (ev_run (v := (.pointer (some (⟨g5, 3, none⟩)))) (w1 := w11.drew) rfl rfl (by kernel_rfl) ?_)
        refine l_cons (ev_run (v := (.agg #[(.int .i64 p.f2.f0), (.int .i64 p.f2.f1), (.slice Ap5 p.f2.f2.length cp5), (.slice Ap6 p.f2.f3.length cp6)])) (w1 := w11.drew) rfl rfl (run_ld rfl (by kernel_rfl) (At.blk (H13.get 0 rfl) 3) (by kernel_rfl)) ?_)
        refine l_cons (ev_store (i := 0) rfl rfl rfl H13 (k := 3) rfl (by kernel_rfl) (.agg #[(.int .i64 p.f2.f0), (.int .i64 p.f2.f1), (.slice Ap5 p.f2.f2.length cp5), (.slice Ap6 p.f2.f3.length cp6)]) (by kernel_rfl) [(.int .i64 p.f2.f0), (.int .i64 p.f2.f1), (.slice Ap5 p.f2.f2.length cp5), (.slice Ap6 p.f2.f3.length cp6)] (by kernel_rfl) (by kernel_rfl) (by kernel_rfl) (by kernel_rfl) [(.int .i64 p.f2.f0), (.int .i64 p.f2.f1), (.slice Ap5 p.f2.f2.length cp5), (.slice Ap6 p.f2.f3.length cp6)] (by kernel_rfl) ?_)
        intro w12 H14 hcw12
        refine l_nil ?_
        refine n_in ?_
        refine n_then ?_
        refine k_list ?_
        refine l_cons (ev_eq (v := (.int .i64 (IntKind.i64.wrap (((q : Nat) : Int) + 1)))) (v' := (.int .i64 ((((q : Nat) : Int) + 1)))) (w1 := w12) rfl rfl (by kernel_rfl) (wr64 (by omega) (by omega)) ?_)
        refine l_cons (ev_run (v := (.int .i64 ((((q : Nat) : Int) + 1)))) (w1 := w12) rfl rfl (by kernel_rfl) ?_)
        refine l_nil ?_
        refine n_then ?_
        exact k_round (q + 1, ((q : Nat) : Int), p.f2, Ap5, cp5, Ap6, cp6) ⟨(by first | rfl | kernel_rfl), (by first | rfl | kernel_rfl), (by first | rfl | kernel_rfl), (by first | rfl | kernel_rfl), (by first | rfl | kernel_rfl), (by first | rfl | kernel_rfl), (by first | rfl | kernel_rfl), (by first | rfl | kernel_rfl), trivial⟩ ⟨(by omega), (by rw [foldl_take _ _ _ _ (show q < (l.flatMap S30.f5).length by omega) z45, ← hp, hb, betr_yes hc1]; exact .inr ⟨q, p, rfl, rfl, by omega, hp, rfl, lp5, gp5, lp6, gp6⟩), H14.sel [1, 2, 3] (by decide)⟩ (by first | omega | (simp; omega))
      · skip
        refine r_take_eq (i := 3) (v := (.bool ((p.f0 : Int) == slot))) (v' := (.bool false)) rfl (by kernel_rfl) (by kernel_rfl) (by kernel_rfl) rfl H13 (fun _ _ => by kernel_rfl) (beqf (by first | assumption | omega)) ?_
        refine r_take (i := 4) (v := (.bool false)) rfl (by kernel_rfl) (by kernel_rfl) (by kernel_rfl) rfl H13 (fun _ _ => by kernel_rfl) ?_
        refine r_pass (i := 5) rfl (by kernel_rfl) (by kernel_rfl) (by kernel_rfl) rfl H13 ?_
        refine r_pass (i := 6) rfl (by kernel_rfl) (by kernel_rfl) (by kernel_rfl) rfl H13 ?_
        refine r_pass (i := 7) rfl (by kernel_rfl) (by kernel_rfl) (by kernel_rfl) rfl H13 ?_
        refine r_pass (i := 8) rfl (by kernel_rfl) (by kernel_rfl) (by kernel_rfl) rfl H13 ?_
        refine r_pass (i := 9) rfl (by kernel_rfl) (by kernel_rfl) (by kernel_rfl) rfl H13 ?_
        refine r_pass (i := 10) rfl (by kernel_rfl) (by kernel_rfl) (by kernel_rfl) rfl H13 ?_
        refine r_pass (i := 11) rfl (by kernel_rfl) (by kernel_rfl) (by kernel_rfl) rfl H13 ?_
        refine r_pass (i := 12) rfl (by kernel_rfl) (by kernel_rfl) (by kernel_rfl) rfl H13 ?_
        refine r_pass (i := 13) rfl (by kernel_rfl) (by kernel_rfl) (by kernel_rfl) rfl H13 ?_
        refine r_pass (i := 14) rfl (by kernel_rfl) (by kernel_rfl) (by kernel_rfl) rfl H13 ?_
        refine r_pass (i := 15) rfl (by kernel_rfl) (by kernel_rfl) (by kernel_rfl) rfl H13 ?_
        refine r_pass (i := 16) rfl (by kernel_rfl) (by kernel_rfl) (by kernel_rfl) rfl H13 ?_
        refine r_pass (i := 17) rfl (by kernel_rfl) (by kernel_rfl) (by kernel_rfl) rfl H13 ?_
        refine r_take (i := 18) (v := (.bool false)) rfl (by kernel_rfl) (by kernel_rfl) (by kernel_rfl) rfl H13 (fun _ _ => by kernel_rfl) ?_
        refine r_done (by kernel_rfl) ?_
        refine n_then ?_
        refine k_false (by kernel_rfl) ?_
        refine wp_skip ?_
        refine n_in ?_
        refine n_then ?_
        refine k_list ?_
        refine l_cons (ev_eq (v := (.int .i64 (IntKind.i64.wrap (((q : Nat) : Int) + 1)))) (v' := (.int .i64 ((((q : Nat) : Int) + 1)))) (w1 := w11.drew) rfl rfl (by kernel_rfl) (wr64 (by omega) (by omega)) ?_)
        refine l_cons (ev_run (v := (.int .i64 ((((q : Nat) : Int) + 1)))) (w1 := w11.drew) rfl rfl (by kernel_rfl) ?_)
        refine l_nil ?_
        refine n_then ?_
        exact k_round (q + 1, (-1), x, A2, c2, A3, c3) ⟨(by first | rfl | kernel_rfl), (by first | rfl | kernel_rfl), (by first | rfl | kernel_rfl), (by first | rfl | kernel_rfl), (by first | rfl | kernel_rfl), (by first | rfl | kernel_rfl), (by first | rfl | kernel_rfl), (by first | rfl | kernel_rfl), trivial⟩ ⟨(by omega), (by rw [foldl_take _ _ _ _ (show q < (l.flatMap S30.f5).length by omega) z45, ← hp, betr_no hc1]; exact hst), H13.sel [1, 2, 3] (by decide)⟩ (by first | omega | (simp; omega))
    · skip
      subst hi
      obtain ⟨ga, hga⟩ := rowR_some (H10.get 0 rfl) (by omega)
      subst hga
      obtain ⟨p, Ap5, cp5, Ap6, cp6, Ap7, cp7, hp, hpw, lp5, gp5, lp6, gp6, lp7, gp7⟩ := elts45 hE q (by omega)
      obtain ⟨y, Ay5, cy5, Ay6, cy6, Ay7, cy7, hy, hyw, ly5, gy5, ly6, gy6, ly7, gy7⟩ := elts45 hE m (by omega)
      have hyy := hy.trans hy0.symm
      subst hyy
      refine wp_seq ?_
      refine k_list ?_
      refine l_cons (ev_eq (v := (.bool (decide ((((q : Nat) : Int) : Int) < ((na : Nat) : Int))))) (v' := (.bool true)) (w1 := w9) rfl rfl (by kernel_rfl) (bt (by first | assumption | omega)) ?_)
      refine l_nil ?_
      refine n_then ?_
      refine wp_seq ?_
      refine k_true (by kernel_rfl) ?_
      refine wp_skip ?_
      refine n_then ?_
      refine wp_seq ?_
      refine wp_block ?_
      refine wp_seq ?_
      refine k_list ?_
      refine l_cons (ev_run (v := (.int .i64 (((q : Nat) : Int)))) (w1 := w9) rfl rfl (by kernel_rfl) ?_)
      refine l_cons (ev_run (v := (.pointer (some (((⟨ga, 0, none⟩ : Addr)).add (q * 8))))) (w1 := w9) rfl rfl (run_ixa (sz := 8) (q := q) (ad := ⟨ga, 0, none⟩) (len := na) (cap := ca) (k := .i64) (z := ((q : Nat) : Int)) rfl (by kernel_rfl) (by kernel_rfl) rfl (by kernel_rfl) (by first | rfl | omega) (by first | omega | decide)) ?_)
      refine l_cons (ev_run (v := (.agg #[(.int .i64 p.f0), (.int .i64 p.f1.f0), (.int .i64 p.f1.f1), (.int .i64 p.f2.f0), (.int .i64 p.f2.f1), (.slice Ap5 p.f2.f2.length cp5), (.slice Ap6 p.f2.f3.length cp6), (.slice Ap7 p.f3.length cp7)])) (w1 := w9) rfl rfl (run_ld rfl (by kernel_rfl) (At_rowE (H10.get 0 rfl) q (by omega) _ hpw) (by kernel_rfl)) ?_)
      refine l_cons (ev_new (cs := [(.int .i64 0), (.int .i64 0), (.int .i64 0), (.int .i64 0), (.int .i64 0), (.slice none 0 0), (.slice none 0 0), (.slice none 0 0)]) (t := 45) rfl rfl H10 (by kernel_rfl) ?_)
      intro g6 w13 H15 hg6 hbw13
      refine l_cons (ev_run (v := (.int .i64 (((q : Nat) : Int)))) (w1 := w13) rfl rfl (by kernel_rfl) ?_)
      refine l_cons (ev_store (i := 0) rfl rfl rfl H15 (k := 0) rfl (by kernel_rfl) (.agg #[(.int .i64 p.f0), (.int .i64 p.f1.f0), (.int .i64 p.f1.f1), (.int .i64 p.f2.f0), (.int .i64 p.f2.f1), (.slice Ap5 p.f2.f2.length cp5), (.slice Ap6 p.f2.f3.length cp6), (.slice Ap7 p.f3.length cp7)]) (by kernel_rfl) [(.int .i64 p.f0), (.int .i64 p.f1.f0), (.int .i64 p.f1.f1), (.int .i64 p.f2.f0), (.int .i64 p.f2.f1), (.slice Ap5 p.f2.f2.length cp5), (.slice Ap6 p.f2.f3.length cp6), (.slice Ap7 p.f3.length cp7)] (by kernel_rfl) (by kernel_rfl) (by kernel_rfl) (by kernel_rfl) [(.int .i64 p.f0), (.int .i64 p.f1.f0), (.int .i64 p.f1.f1), (.int .i64 p.f2.f0), (.int .i64 p.f2.f1), (.slice Ap5 p.f2.f2.length cp5), (.slice Ap6 p.f2.f3.length cp6), (.slice Ap7 p.f3.length cp7)] (by kernel_rfl) ?_)
      intro w14 H16 hcw14
      refine l_nil ?_
      refine n_then ?_
      refine wp_seq ?_
      refine r_start (m := 19) (fun j => false) (fun w' => Hp (fun _ => False) w w' [blk g6 [(.int .i64 p.f0), (.int .i64 p.f1.f0), (.int .i64 p.f1.f1), (.int .i64 p.f2.f0), (.int .i64 p.f2.f1), (.slice Ap5 p.f2.f2.length cp5), (.slice Ap6 p.f2.f3.length cp6), (.slice Ap7 p.f3.length cp7)] 45, rowR 45 8 (some (⟨ga, 0, none⟩)) na ca ra, blk g1 [(.int .i64 0), (.int .i64 0), (.slice none 0 0), (.slice none 0 0)] 36, blk g4 [(.int .i64 x.f0), (.int .i64 x.f1), (.slice A2 x.f2.length c2), (.slice A3 x.f3.length c3)] 36]) (by kernel_rfl) rfl (by kernel_rfl) (fun _ _ _ _ _ h => h) ?_
      have H17 := H16.drew
      refine r_take (i := 0) (v := (.pointer (some (⟨g6, 0, none⟩)))) rfl (by kernel_rfl) (by kernel_rfl) (by kernel_rfl) rfl H17 (fun _ _ => by kernel_rfl) ?_
      refine r_take (i := 1) (v := (.int .i64 p.f0)) rfl (by kernel_rfl) (by kernel_rfl) (by kernel_rfl) rfl H17 (fun w_ hs_ => (run_ld rfl (by kernel_rfl) (At.blk (hs_.get 0 rfl) 0) (by kernel_rfl))) ?_
      refine r_take (i := 2) (v := (.int .i64 slot)) rfl (by kernel_rfl) (by kernel_rfl) (by kernel_rfl) rfl H17 (fun _ _ => by kernel_rfl) ?_
      by_cases hc2 : (p.f0 : Int) = slot
      · skip
        refine r_take_eq (i := 3) (v := (.bool ((p.f0 : Int) == slot))) (v' := (.bool true)) rfl (by kernel_rfl) (by kernel_rfl) (by kernel_rfl) rfl H17 (fun _ _ => by kernel_rfl) (beqt (by first | assumption | omega)) ?_
        refine r_take (i := 4) (v := (.bool true)) rfl (by kernel_rfl) (by kernel_rfl) (by kernel_rfl) rfl H17 (fun _ _ => by kernel_rfl) ?_
        refine r_take (i := 5) (v := (.int .i64 (((m : Nat) : Int)))) rfl (by kernel_rfl) (by kernel_rfl) (by kernel_rfl) rfl H17 (fun _ _ => by kernel_rfl) ?_
        refine r_take_eq (i := 6) (v := (.bool (decide ((((m : Nat) : Int) : Int) < 0)))) (v' := (.bool false)) rfl (by kernel_rfl) (by kernel_rfl) (by kernel_rfl) rfl H17 (fun _ _ => by kernel_rfl) (bf (by first | assumption | omega)) ?_
        refine r_take (i := 7) (v := (.bool false)) rfl (by kernel_rfl) (by kernel_rfl) (by kernel_rfl) rfl H17 (fun _ _ => by kernel_rfl) ?_
        refine r_take (i := 8) (v := (.pointer (some (⟨g6, 1, none⟩)))) rfl (by kernel_rfl) (by kernel_rfl) (by kernel_rfl) rfl H17 (fun _ _ => by kernel_rfl) ?_
        refine r_take (i := 9) (v := (.agg #[(.int .i64 p.f1.f0), (.int .i64 p.f1.f1)])) rfl (by kernel_rfl) (by kernel_rfl) (by kernel_rfl) rfl H17 (fun w_ hs_ => (run_ld rfl (by kernel_rfl) (At.blk (hs_.get 0 rfl) 1) (by kernel_rfl))) ?_
        refine r_take (i := 10) (v := (.slice (some (⟨ga, 0, none⟩)) na ca)) rfl (by kernel_rfl) (by kernel_rfl) (by kernel_rfl) rfl H17 (fun _ _ => by kernel_rfl) ?_
        refine r_take (i := 11) (v := (.int .i64 (((m : Nat) : Int)))) rfl (by kernel_rfl) (by kernel_rfl) (by kernel_rfl) rfl H17 (fun _ _ => by kernel_rfl) ?_
        refine r_take (i := 12) (v := (.pointer (some (((⟨ga, 0, none⟩ : Addr)).add (m * 8))))) rfl (by kernel_rfl) (by kernel_rfl) (by kernel_rfl) rfl H17 (fun w_ hs_ => (run_ixa (sz := 8) (q := m) (ad := ⟨ga, 0, none⟩) (len := na) (cap := ca) (k := .i64) (z := ((m : Nat) : Int)) rfl (by kernel_rfl) (by kernel_rfl) rfl (by kernel_rfl) (by first | rfl | omega) (by first | omega | decide))) ?_
        refine r_take (i := 13) (v := (.pointer (some ((((⟨ga, 0, none⟩ : Addr)).add (m * 8)).add 1)))) rfl (by kernel_rfl) (by kernel_rfl) (by kernel_rfl) rfl H17 (fun _ _ => by kernel_rfl) ?_
        refine r_take (i := 14) (v := (.agg #[(.int .i64 y.f1.f0), (.int .i64 y.f1.f1)])) rfl (by kernel_rfl) (by kernel_rfl) (by kernel_rfl) rfl H17 (fun w_ hs_ => (run_ld rfl (by kernel_rfl) (At.field (At_rowE (hs_.get 1 rfl) m (by omega) _ hyw) 1) (by kernel_rfl))) ?_
        refine r_one (i := 15) (by kernel_rfl) rfl (ev_call (by kernel_rfl) rfl (f := 23) (args := #[(.agg #[(.int .i64 p.f1.f0), (.int .i64 p.f1.f1)]), (.agg #[(.int .i64 y.f1.f0), (.int .i64 y.f1.f1)])]) (by kernel_rfl) (rcompare_c p.f1 y.f1 _) ?_)
        rintro e w15 ⟨rfl, hb_⟩
        refine ⟨_, rfl, ?_⟩
        have H18 := H17.below hb_
        refine ⟨fun _ => H18, ?_⟩
        by_cases hc3 : (cmpB p.f1 y.f1 : Int) > 0
        · skip
          refine r_take_eq (i := 16) (v := (.bool (decide ((cmpB p.f1 y.f1 : Int) > 0)))) (v' := (.bool true)) rfl (by kernel_rfl) (by kernel_rfl) (by kernel_rfl) rfl H18 (fun _ _ => by kernel_rfl) (bt (by first | assumption | omega)) ?_
          refine r_take (i := 17) (v := (.bool true)) rfl (by kernel_rfl) (by kernel_rfl) (by kernel_rfl) rfl H18 (fun _ _ => by kernel_rfl) ?_
          refine r_take (i := 18) (v := (.bool true)) rfl (by kernel_rfl) (by kernel_rfl) (by kernel_rfl) rfl H18 (fun _ _ => by kernel_rfl) ?_
          refine r_done (by kernel_rfl) ?_
          refine n_then ?_
          refine k_true (by kernel_rfl) ?_
          refine wp_seq ?_
          refine k_list ?_
          refine l_cons (ev_run (v := (.int .i64 (((q : Nat) : Int)))) (w1 := w15) rfl rfl (by kernel_rfl) ?_)
          refine l_cons (ev_run (v := (.int .i64 (((q : Nat) : Int)))) (w1 := w15) rfl rfl (by kernel_rfl) ?_)
          refine l_nil ?_
          refine n_then ?_
          refine k_list ?_
          refine l_cons (ev_run (v := (.pointer (some (⟨g6, 3, none⟩)))) (w1 := w15) rfl rfl (by kernel_rfl) ?_)
          refine l_cons (ev_run (v := (.agg #[(.int .i64 p.f2.f0), (.int .i64 p.f2.f1), (.slice Ap5 p.f2.f2.length cp5), (.slice Ap6 p.f2.f3.length cp6)])) (w1 := w15) rfl rfl (run_ld rfl (by kernel_rfl) (At.blk (H18.get 0 rfl) 3) (by kernel_rfl)) ?_)
          refine l_cons (ev_store (i := 0) rfl rfl rfl H18 (k := 3) rfl (by kernel_rfl) (.agg #[(.int .i64 p.f2.f0), (.int .i64 p.f2.f1), (.slice Ap5 p.f2.f2.length cp5), (.slice Ap6 p.f2.f3.length cp6)]) (by kernel_rfl) [(.int .i64 p.f2.f0), (.int .i64 p.f2.f1), (.slice Ap5 p.f2.f2.length cp5), (.slice Ap6 p.f2.f3.length cp6)] (by kernel_rfl) (by kernel_rfl) (by kernel_rfl) (by kernel_rfl) [(.int .i64 p.f2.f0), (.int .i64 p.f2.f1), (.slice Ap5 p.f2.f2.length cp5), (.slice Ap6 p.f2.f3.length cp6)] (by kernel_rfl) ?_)
          intro w16 H19 hcw16
          refine l_nil ?_
          refine n_in ?_
          refine n_then ?_
          refine k_list ?_
          refine l_cons (ev_eq (v := (.int .i64 (IntKind.i64.wrap (((q : Nat) : Int) + 1)))) (v' := (.int .i64 ((((q : Nat) : Int) + 1)))) (w1 := w16) rfl rfl (by kernel_rfl) (wr64 (by omega) (by omega)) ?_)
          refine l_cons (ev_run (v := (.int .i64 ((((q : Nat) : Int) + 1)))) (w1 := w16) rfl rfl (by kernel_rfl) ?_)
          refine l_nil ?_
          refine n_then ?_
          exact k_round (q + 1, ((q : Nat) : Int), p.f2, Ap5, cp5, Ap6, cp6) ⟨(by first | rfl | kernel_rfl), (by first | rfl | kernel_rfl), (by first | rfl | kernel_rfl), (by first | rfl | kernel_rfl), (by first | rfl | kernel_rfl), (by first | rfl | kernel_rfl), (by first | rfl | kernel_rfl), (by first | rfl | kernel_rfl), trivial⟩ ⟨(by omega), (by rw [foldl_take _ _ _ _ (show q < (l.flatMap S30.f5).length by omega) z45, ← hp, hb, betr_new hc2 hc3]; exact .inr ⟨q, p, rfl, rfl, by omega, hp, rfl, lp5, gp5, lp6, gp6⟩), H19.sel [1, 2, 3] (by decide)⟩ (by first | omega | (simp; omega))
        · skip
          refine r_take_eq (i := 16) (v := (.bool (decide ((cmpB p.f1 y.f1 : Int) > 0)))) (v' := (.bool false)) rfl (by kernel_rfl) (by kernel_rfl) (by kernel_rfl) rfl H18 (fun _ _ => by kernel_rfl) (bf (by first | assumption | omega)) ?_
          refine r_take (i := 17) (v := (.bool false)) rfl (by kernel_rfl) (by kernel_rfl) (by kernel_rfl) rfl H18 (fun _ _ => by kernel_rfl) ?_
          refine r_take (i := 18) (v := (.bool false)) rfl (by kernel_rfl) (by kernel_rfl) (by kernel_rfl) rfl H18 (fun _ _ => by kernel_rfl) ?_
          refine r_done (by kernel_rfl) ?_
          refine n_then ?_
          refine k_false (by kernel_rfl) ?_
          refine wp_skip ?_
          refine n_in ?_
          refine n_then ?_
          refine k_list ?_
          refine l_cons (ev_eq (v := (.int .i64 (IntKind.i64.wrap (((q : Nat) : Int) + 1)))) (v' := (.int .i64 ((((q : Nat) : Int) + 1)))) (w1 := w15) rfl rfl (by kernel_rfl) (wr64 (by omega) (by omega)) ?_)
          refine l_cons (ev_run (v := (.int .i64 ((((q : Nat) : Int) + 1)))) (w1 := w15) rfl rfl (by kernel_rfl) ?_)
          refine l_nil ?_
          refine n_then ?_
          exact k_round (q + 1, ((m : Nat) : Int), x, A2, c2, A3, c3) ⟨(by first | rfl | kernel_rfl), (by first | rfl | kernel_rfl), (by first | rfl | kernel_rfl), (by first | rfl | kernel_rfl), (by first | rfl | kernel_rfl), (by first | rfl | kernel_rfl), (by first | rfl | kernel_rfl), (by first | rfl | kernel_rfl), trivial⟩ ⟨(by omega), (by rw [foldl_take _ _ _ _ (show q < (l.flatMap S30.f5).length by omega) z45, ← hp, hb, betr_old hc3, ← hb]; exact hst), H18.sel [1, 2, 3] (by decide)⟩ (by first | omega | (simp; omega))
      · skip
        refine r_take_eq (i := 3) (v := (.bool ((p.f0 : Int) == slot))) (v' := (.bool false)) rfl (by kernel_rfl) (by kernel_rfl) (by kernel_rfl) rfl H17 (fun _ _ => by kernel_rfl) (beqf (by first | assumption | omega)) ?_
        refine r_take (i := 4) (v := (.bool false)) rfl (by kernel_rfl) (by kernel_rfl) (by kernel_rfl) rfl H17 (fun _ _ => by kernel_rfl) ?_
        refine r_pass (i := 5) rfl (by kernel_rfl) (by kernel_rfl) (by kernel_rfl) rfl H17 ?_
        refine r_pass (i := 6) rfl (by kernel_rfl) (by kernel_rfl) (by kernel_rfl) rfl H17 ?_
        refine r_pass (i := 7) rfl (by kernel_rfl) (by kernel_rfl) (by kernel_rfl) rfl H17 ?_
        refine r_pass (i := 8) rfl (by kernel_rfl) (by kernel_rfl) (by kernel_rfl) rfl H17 ?_
        refine r_pass (i := 9) rfl (by kernel_rfl) (by kernel_rfl) (by kernel_rfl) rfl H17 ?_
        refine r_pass (i := 10) rfl (by kernel_rfl) (by kernel_rfl) (by kernel_rfl) rfl H17 ?_
        refine r_pass (i := 11) rfl (by kernel_rfl) (by kernel_rfl) (by kernel_rfl) rfl H17 ?_
        refine r_pass (i := 12) rfl (by kernel_rfl) (by kernel_rfl) (by kernel_rfl) rfl H17 ?_
        refine r_pass (i := 13) rfl (by kernel_rfl) (by kernel_rfl) (by kernel_rfl) rfl H17 ?_
        refine r_pass (i := 14) rfl (by kernel_rfl) (by kernel_rfl) (by kernel_rfl) rfl H17 ?_
        refine r_pass (i := 15) rfl (by kernel_rfl) (by kernel_rfl) (by kernel_rfl) rfl H17 ?_
        refine r_pass (i := 16) rfl (by kernel_rfl) (by kernel_rfl) (by kernel_rfl) rfl H17 ?_
        refine r_pass (i := 17) rfl (by kernel_rfl) (by kernel_rfl) (by kernel_rfl) rfl H17 ?_
        refine r_take (i := 18) (v := (.bool false)) rfl (by kernel_rfl) (by kernel_rfl) (by kernel_rfl) rfl H17 (fun _ _ => by kernel_rfl) ?_
        refine r_done (by kernel_rfl) ?_
        refine n_then ?_
        refine k_false (by kernel_rfl) ?_
        refine wp_skip ?_
        refine n_in ?_
        refine n_then ?_
        refine k_list ?_
        refine l_cons (ev_eq (v := (.int .i64 (IntKind.i64.wrap (((q : Nat) : Int) + 1)))) (v' := (.int .i64 ((((q : Nat) : Int) + 1)))) (w1 := w14.drew) rfl rfl (by kernel_rfl) (wr64 (by omega) (by omega)) ?_)
        refine l_cons (ev_run (v := (.int .i64 ((((q : Nat) : Int) + 1)))) (w1 := w14.drew) rfl rfl (by kernel_rfl) ?_)
        refine l_nil ?_
        refine n_then ?_
        exact k_round (q + 1, ((m : Nat) : Int), x, A2, c2, A3, c3) ⟨(by first | rfl | kernel_rfl), (by first | rfl | kernel_rfl), (by first | rfl | kernel_rfl), (by first | rfl | kernel_rfl), (by first | rfl | kernel_rfl), (by first | rfl | kernel_rfl), (by first | rfl | kernel_rfl), (by first | rfl | kernel_rfl), trivial⟩ ⟨(by omega), (by rw [foldl_take _ _ _ _ (show q < (l.flatMap S30.f5).length by omega) z45, ← hp, betr_no hc2]; exact hst), H17.sel [1, 2, 3] (by decide)⟩ (by first | omega | (simp; omega))
    · skip
      refine wp_seq ?_
      refine k_list ?_
      refine l_cons (ev_eq (v := (.bool (decide ((((q : Nat) : Int) : Int) < ((na : Nat) : Int))))) (v' := (.bool false)) (w1 := w9) rfl rfl (by kernel_rfl) (bf (by first | assumption | omega)) ?_)
      refine l_nil ?_
      refine n_then ?_
      refine wp_seq ?_
      refine k_false (by kernel_rfl) ?_
      refine wp_exit ?_
      refine e_then ?_
      refine e_then ?_
      refine e_in ?_
      refine n_then ?_
      refine wp_seq ?_
      refine k_list ?_
      refine l_cons (ev_run (v := (.agg #[(.int .i64 x.f0), (.int .i64 x.f1), (.slice A2 x.f2.length c2), (.slice A3 x.f3.length c3)])) (w1 := w9) rfl rfl (run_ld rfl (by kernel_rfl) (At.blk (H10.get 2 rfl) 0) (by kernel_rfl)) ?_)
      refine l_cons (ev_store (i := 0) rfl rfl rfl H10 (k := 1) rfl (by kernel_rfl) (.agg #[(.int .i64 x.f0), (.int .i64 x.f1), (.slice A2 x.f2.length c2), (.slice A3 x.f3.length c3)]) (by kernel_rfl) [(.int .i64 x.f0), (.int .i64 x.f1), (.slice A2 x.f2.length c2), (.slice A3 x.f3.length c3)] (by kernel_rfl) (by kernel_rfl) (by kernel_rfl) (by kernel_rfl) [(.int .i64 x.f0), (.int .i64 x.f1), (.slice A2 x.f2.length c2), (.slice A3 x.f3.length c3)] (by kernel_rfl) ?_)
      intro w17 H20 hcw17
      refine l_nil ?_
      refine n_then ?_
      refine wp_ret ?_
      refine b_ret (v := (.agg #[(.int .i64 x.f0), (.int .i64 x.f1), (.slice A2 x.f2.length c2), (.slice A3 x.f3.length c3)])) (resS rfl (.cell (⟨g1, 0, none⟩) [(.int .i64 x.f0), (.int .i64 x.f1), (.slice A2 x.f2.length c2), (.slice A3 x.f3.length c3)] (by kernel_rfl) (At.blk (H20.get 1 rfl) 0) (by kernel_rfl) .nil)) ?_
      have hq := hst.rq
      rw [List.take_of_length_le (by omega), ← bestIn_flat] at hq
      have hpk : pickOf slot l = x := hq.1
      rw [hpk]
      exact ⟨_, _, _, _, rfl, hq.2, H20.to_below⟩
end Go.Proofs.Ytpnelfefchdhcaa
