/- ChoosePicks: the walk of the law. -/
import Derived.Test.YtpnelfefchdhcaaC4
namespace Go.Proofs.Ytpnelfefchdhcaa
open Go.RowKit Go.Proofs.YtpnelfefchdhcaaW.PrintWords Go.Proofs.YtpnelfefchdhcaaW.PrintLast Go.Proofs.YtpnelfefchdhcaaW.PrintMore
open Go.Proofs.Ytpnelfefchdhcaa.PChoosePicks
set_option linter.unusedVariables false
set_option linter.unusedSimpArgs false
set_option maxRecDepth 100000

theorem drop_cons {α : Type} {l : List α} {i : Nat} {x : α} (h : l[i]? = some x) : l.drop i = x :: l.drop (i + 1) := by
  obtain ⟨hi, he⟩ := List.getElem?_eq_some_iff.1 h
  rw [List.drop_eq_getElem_cons hi, he]
set_option maxHeartbeats 4000000 in
theorem picksLaw_c (A : Option Addr) (c : Nat) (l : List S30) (slot : Int) (w : World) (hC : Kd.C k30 w A l.length l) (hok : ∀ r ∈ l, RepOk r) (hwf : LWf l) (hbig : l.length * 128 ≤ 140737488351232) (hS : (l.flatMap S30.f5).length ≤ 1048576) :
    Calls Try.prog 3 #[.slice A l.length c, .int .i64 slot] w fun e w' => e = .returned (.bool true) ∧ Below w.heap.size w w' := by
  have H := Hp.start (fun _ => False) w
  have hlen := C_len hC
  refine k_enter (args := [(.slice A l.length c), (.int .i64 slot)]) Try.func3 rfl Try.ntmps3 (Nat.le_of_ble_eq_true rfl) ?_
  refine wp_seq ?_
  refine k_list ?_
  refine l_cons (ev_run (v := (.bool false)) (w1 := w) rfl rfl (by kernel_rfl) ?_)
  refine l_nil ?_
  refine n_then ?_
  refine wp_seq ?_
  refine wp_seq ?_
  refine k_list ?_
  refine l_cons (ev_call rfl rfl (f := 5) (args := #[]) (by kernel_rfl) (alive_c _) ?_)
  rintro e w1 ⟨rfl, hb_⟩
  refine ⟨_, rfl, ?_⟩
  have H1 := H.below hb_
  refine l_cons (ev_run (v := (.bool false)) (w1 := w1) rfl rfl (by kernel_rfl) ?_)
  refine l_nil ?_
  refine n_then ?_
  refine k_false (by kernel_rfl) ?_
  refine wp_skip ?_
  refine n_then ?_
  refine wp_seq ?_
  refine k_list ?_
  refine l_cons (ev_newRow (cs := []) (t := 30) (len := 0) rfl rfl H1 (by kernel_rfl) ?_)
  intro g1 w2 H2 hg1 hbw2
  refine l_cons (ev_run (v := (.slice (some (⟨g1, 0, none⟩)) 0 0)) (w1 := w2) rfl rfl (by kernel_rfl) ?_)
  refine l_nil ?_
  refine n_then ?_
  refine wp_seq ?_
  refine wp_seq ?_
  refine k_list ?_
  refine l_cons (ev_run (v := (.slice A l.length c)) (w1 := w2) rfl rfl (by kernel_rfl) ?_)
  refine l_cons (ev_run (v := (.int .i64 (((l.length : Nat) : Int)))) (w1 := w2) rfl rfl (by kernel_rfl) ?_)
  refine l_cons (ev_run (v := (.int .i64 0)) (w1 := w2) rfl rfl (by kernel_rfl) ?_)
  refine l_nil ?_
  refine n_then ?_
  refine wp_block ?_
  have H3 := H2.imp 0 rfl (rowR 30 8 (some ⟨g1, 0, none⟩) 0 0 ([] : List (List Value))) (fun h => rowR_blk h ([] : List (List Value)) rfl (by first | rfl | kernel_rfl) (by simp)) (fun k hk => (Option.some.inj hk).symm)
  have H4 := H3.addE (elR k30 0 (fun _ => False) [] []) (elR_nil _ _ _) (fun k hk => hk)
  refine k_loop (σ := Nat × Option Addr × Nat × List (List Value) × (Nat → Prop)) (fun x_ => match x_ with | (j, A', c', rows, F) => [(0, (.slice A l.length c)), (1, (.int .i64 slot)), (16, (.slice A l.length c)), (17, (.int .i64 (((l.length : Nat) : Int)))), (18, (.int .i64 (((j : Nat) : Int)))), (5, (.slice A' j (c')))]) (fun x_ w' => match x_ with | (j, A', c', rows, F) => (j ≤ l.length) ∧ Hp (fun _ => False) w w' [rowR 30 8 A' j (c') rows, elR k30 0 F (l.take j) rows]) (fun x_ => match x_ with | (j, A', c', rows, F) => l.length - j) (0, (some (⟨g1, 0, none⟩)), 0, [], (fun _ => False)) ⟨(by first | rfl | kernel_rfl), (by first | rfl | kernel_rfl), (by first | rfl | kernel_rfl), (by first | rfl | kernel_rfl), (by first | rfl | kernel_rfl), (by first | rfl | kernel_rfl), trivial⟩ ⟨(by omega), H4.sel [1, 0] (by decide)⟩ ?_
  rintro L1 ⟨j, A', c', rows, F⟩ w3 ⟨hj, H5⟩
  change Code.wp _ _ _ (Fr _ _ [(0, (.slice A l.length c)), (1, (.int .i64 slot)), (16, (.slice A l.length c)), (17, (.int .i64 (((l.length : Nat) : Int)))), (18, (.int .i64 (((j : Nat) : Int)))), (5, (.slice A' j (c')))]) _
  rcases Nat.lt_or_ge j l.length with hlt | hge
  · skip
    obtain ⟨ad, rfl⟩ := C_some hC (by omega) z30
    obtain ⟨x, A4, c4, A5, c5, A6, c6, A7, c7, hx, hxA, l4, g4, l5, g5, l6, g6, l7, g7⟩ := elem30 hC j hlt
    refine wp_seq ?_
    refine k_list ?_
    refine l_cons (ev_eq (v := (.bool (decide ((((j : Nat) : Int) : Int) < ((l.length : Nat) : Int))))) (v' := (.bool true)) (w1 := w3) rfl rfl (by kernel_rfl) (bt (by first | assumption | omega)) ?_)
    refine l_nil ?_
    refine n_then ?_
    refine wp_seq ?_
    refine k_true (by kernel_rfl) ?_
    refine wp_skip ?_
    refine n_then ?_
    refine wp_seq ?_
    refine wp_block ?_
    refine wp_seq ?_
    refine k_list ?_
    refine l_cons (ev_run (v := (.pointer (some ((ad).add (j * 8))))) (w1 := w3) rfl rfl (run_ixa (sz := 8) (q := j) (ad := ad) (len := l.length) (cap := c) (k := .i64) (z := ((j : Nat) : Int)) rfl (by kernel_rfl) (by kernel_rfl) rfl (by kernel_rfl) (by first | rfl | omega) (by first | omega | decide)) ?_)
    refine l_cons (ev_run (v := (.agg #[(.int .i64 x.f0.f0), (.int .i64 x.f0.f1), (.int .i64 x.f1), (.int .i64 x.f2), (.slice A4 x.f3.length c4), (.slice A5 x.f4.length c5), (.slice A6 x.f5.length c6), (.slice A7 x.f6.length c7)])) (w1 := w3) rfl rfl (run_ld rfl (by kernel_rfl) (At.hp hxA H5 (fun h => h)) (by kernel_rfl)) ?_)
    refine l_cons (ev_new (cs := [(.int .i64 0), (.int .i64 0), (.int .i64 0), (.int .i64 0), (.slice none 0 0), (.slice none 0 0), (.slice none 0 0), (.slice none 0 0)]) (t := 30) rfl rfl H5 (by kernel_rfl) ?_)
    intro g2 w4 H7 hg2 hbw4
    refine l_cons (ev_store (i := 0) rfl rfl rfl H7 (k := 0) rfl (by kernel_rfl) (.agg #[(.int .i64 x.f0.f0), (.int .i64 x.f0.f1), (.int .i64 x.f1), (.int .i64 x.f2), (.slice A4 x.f3.length c4), (.slice A5 x.f4.length c5), (.slice A6 x.f5.length c6), (.slice A7 x.f6.length c7)]) (by kernel_rfl) [(.int .i64 x.f0.f0), (.int .i64 x.f0.f1), (.int .i64 x.f1), (.int .i64 x.f2), (.slice A4 x.f3.length c4), (.slice A5 x.f4.length c5), (.slice A6 x.f5.length c6), (.slice A7 x.f6.length c7)] (by kernel_rfl) (by kernel_rfl) (by kernel_rfl) (by kernel_rfl) [(.int .i64 x.f0.f0), (.int .i64 x.f0.f1), (.int .i64 x.f1), (.int .i64 x.f2), (.slice A4 x.f3.length c4), (.slice A5 x.f4.length c5), (.slice A6 x.f5.length c6), (.slice A7 x.f6.length c7)] (by kernel_rfl) ?_)
    intro w5 H8 hcw5
    refine l_nil ?_
    refine n_then ?_
    refine k_list ?_
    refine l_cons (ev_run (v := (.slice A' j (c'))) (w1 := w5) rfl rfl (by kernel_rfl) ?_)
    refine l_cons (ev_run (v := (.agg #[(.int .i64 x.f0.f0), (.int .i64 x.f0.f1), (.int .i64 x.f1), (.int .i64 x.f2), (.slice A4 x.f3.length c4), (.slice A5 x.f4.length c5), (.slice A6 x.f5.length c6), (.slice A7 x.f6.length c7)])) (w1 := w5) rfl rfl (run_ld rfl (by kernel_rfl) (At.blk (H8.get 0 rfl) 0) (by kernel_rfl)) ?_)
    refine l_cons (ev_call rfl rfl (f := 6) (args := #[(.agg #[(.int .i64 x.f0.f0), (.int .i64 x.f0.f1), (.int .i64 x.f1), (.int .i64 x.f2), (.slice A4 x.f3.length c4), (.slice A5 x.f4.length c5), (.slice A6 x.f5.length c6), (.slice A7 x.f6.length c7)])]) (by kernel_rfl) (copyrep_c x _ ⟨l4, C_to g4 H8, l5, C_to g5 H8, l6, C_to g6 H8, l7, C_to g7 H8⟩ (hok x (by rw [hx]; exact getD_mem hlt))) ?_)
    rintro e w6 ⟨B4q1, d4q1, B5q1, d5q1, B6q1, d6q1, B7q1, d7q1, rfl, hH_⟩
    refine ⟨_, rfl, ?_⟩
    have H9 := H8.join hH_
    have hb_ := hH_.to_below
    refine l_cons (ev_newRow (cs := [(.int .i64 x.f0.f0), (.int .i64 x.f0.f1), (.int .i64 x.f1), (.int .i64 x.f2), (.slice B4q1 x.f3.length d4q1), (.slice B5q1 x.f4.length d5q1), (.slice B6q1 x.f5.length d6q1), (.slice B7q1 x.f6.length d7q1)]) (t := 30) (len := 1) rfl rfl H9 (by kernel_rfl) ?_)
    intro g3 w7 H10 hg3 hbw7
    refine l_cons (ev_append (e := 30) (sz := 8) (z := (.agg #[(.int .i64 0), (.int .i64 0), (.int .i64 0), (.int .i64 0), (.slice none 0 0), (.slice none 0 0), (.slice none 0 0), (.slice none 0 0)])) (bytes := 128) 3 (A := A') (m0 := j) (c := (c')) (rows := rows) ([[(.int .i64 x.f0.f0), (.int .i64 x.f0.f1), (.int .i64 x.f1), (.int .i64 x.f2), (.slice B4q1 x.f3.length d4q1), (.slice B5q1 x.f4.length d5q1), (.slice B6q1 x.f5.length d6q1), (.slice B7q1 x.f6.length d7q1)]] : List (List Value)) (some (⟨g3, 0, none⟩)) 1 1 rfl rfl rfl Try.underlying22 (by kernel_rfl) rfl rfl rfl H10 rfl (by kernel_rfl) (by kernel_rfl) (by first | rfl | (simp; done) | assumption | omega) (fun j row hj => read_blk (H10.get 0 rfl) ([[(.int .i64 x.f0.f0), (.int .i64 x.f0.f1), (.int .i64 x.f1), (.int .i64 x.f2), (.slice B4q1 x.f3.length d4q1), (.slice B5q1 x.f4.length d5q1), (.slice B6q1 x.f5.length d6q1), (.slice B7q1 x.f6.length d7q1)]] : List (List Value)) rfl (by first | rfl | kernel_rfl) j row hj) (by first | omega | (simp; omega)) (j + 1) (by first | rfl | omega) ?_)
    intro Aa1 cc1 w8 H11 hcw8
    refine l_cons (ev_run (v := (.slice Aa1 ((j + 1)) cc1)) (w1 := w8) rfl rfl (by kernel_rfl) ?_)
    refine l_nil ?_
    refine n_in ?_
    refine n_then ?_
    refine k_list ?_
    refine l_cons (ev_eq (v := (.int .i64 (IntKind.i64.wrap (((j : Nat) : Int) + 1)))) (v' := (.int .i64 ((((j : Nat) : Int) + 1)))) (w1 := w8) rfl rfl (by kernel_rfl) (wr64 (by omega) (by omega)) ?_)
    refine l_cons (ev_run (v := (.int .i64 ((((j : Nat) : Int) + 1)))) (w1 := w8) rfl rfl (by kernel_rfl) ?_)
    refine l_nil ?_
    refine n_then ?_
    have hrl := (rowR_len (H11.get 3 rfl)).1
    have H12 := (H11.sel [4, 1, 3] (by decide)).elsnoc (by rw [List.length_take]; simp at hrl; omega)
    rw [show l.take j ++ [x] = l.take (j + 1) by rw [hx, take_getD l j z30 hlt]] at H12
    exact k_round (j + 1, Aa1, cc1, rows ++ ([[(.int .i64 x.f0.f0), (.int .i64 x.f0.f1), (.int .i64 x.f1), (.int .i64 x.f2), (.slice B4q1 x.f3.length d4q1), (.slice B5q1 x.f4.length d5q1), (.slice B6q1 x.f5.length d6q1), (.slice B7q1 x.f6.length d7q1)]] : List (List Value)), _) ⟨(by first | rfl | kernel_rfl), (by first | rfl | kernel_rfl), (by first | rfl | kernel_rfl), (by first | rfl | kernel_rfl), (by first | rfl | kernel_rfl), (by first | rfl | kernel_rfl), trivial⟩ ⟨(by omega), H12.sel [1, 0] (by decide)⟩ (by first | omega | (simp; omega))
  · skip
    obtain rfl : j = l.length := by omega
    have H6 := H5
    rw [List.take_length] at H6
    refine wp_seq ?_
    refine k_list ?_
    refine l_cons (ev_eq (v := (.bool (decide ((((l.length : Nat) : Int) : Int) < ((l.length : Nat) : Int))))) (v' := (.bool false)) (w1 := w3) rfl rfl (by kernel_rfl) (bf (by first | assumption | omega)) ?_)
    refine l_nil ?_
    refine n_then ?_
    refine wp_seq ?_
    refine k_false (by kernel_rfl) ?_
    refine wp_exit ?_
    refine e_then ?_
    refine e_then ?_
    refine e_in ?_
    refine n_then ?_
    refine wp_seq ?_
    refine wp_seq ?_
    refine k_list ?_
    refine l_cons (ev_run (v := (.slice A' l.length (c'))) (w1 := w3) rfl rfl (by kernel_rfl) ?_)
    refine l_cons (ev_call rfl rfl (f := 7) (args := #[(.slice A' l.length (c'))]) (by kernel_rfl) (choose_Low_c A' c' l _ (C_of_row (show (rowR 30 8 A' l.length c' rows).ok w3 from H6.get 0 rfl) rfl (fun j x c hx hc => elR_fk (show (elR k30 0 F l rows).ok w3 from H6.get 1 rfl) j (Nat.zero_le _) x c hx hc))) ?_)
    rintro e w9 ⟨rfl, hb_⟩
    refine ⟨_, rfl, ?_⟩
    have H13 := H6.below hb_
    refine l_cons (ev_run (v := (.slice A l.length c)) (w1 := w9) rfl rfl (by kernel_rfl) ?_)
    refine l_cons (ev_call rfl rfl (f := 8) (args := #[(.slice A l.length c)]) (by kernel_rfl) (catenaryref18_Low_c A c l _ (C_to hC H13)) ?_)
    rintro e w10 ⟨rfl, hb_⟩
    refine ⟨_, rfl, ?_⟩
    have H14 := H13.below hb_
    refine l_cons (ev_eq (v := (.bool ((lowOf l : Int) != lowOf l))) (v' := (.bool false)) (w1 := w10) rfl rfl (by kernel_rfl) (bnef rfl) ?_)
    refine l_cons (ev_run (v := (.bool false)) (w1 := w10) rfl rfl (by kernel_rfl) ?_)
    refine l_cons (ev_run (v := (.slice A' l.length (c'))) (w1 := w10) (by kernel_rfl) rfl (by kernel_rfl) ?_)
    refine l_cons (ev_call (by kernel_rfl) rfl (f := 9) (args := #[(.slice A' l.length (c'))]) (by kernel_rfl) (choose_High_c A' c' l _ (C_of_row (show (rowR 30 8 A' l.length c' rows).ok w10 from H14.get 0 rfl) rfl (fun j x c hx hc => elR_fk (show (elR k30 0 F l rows).ok w10 from H14.get 1 rfl) j (Nat.zero_le _) x c hx hc))) ?_)
    rintro e w11 ⟨rfl, hb_⟩
    refine ⟨_, rfl, ?_⟩
    have H15 := H14.below hb_
    refine l_cons (ev_run (v := (.slice A l.length c)) (w1 := w11) (by kernel_rfl) rfl (by kernel_rfl) ?_)
    refine l_cons (ev_call (by kernel_rfl) rfl (f := 10) (args := #[(.slice A l.length c)]) (by kernel_rfl) (catenaryref18_High_c A c l _ (C_to hC H15)) ?_)
    rintro e w12 ⟨rfl, hb_⟩
    refine ⟨_, rfl, ?_⟩
    have H16 := H15.below hb_
    refine l_cons (ev_eq (v := (.bool ((highOf l : Int) != highOf l))) (v' := (.bool false)) (w1 := w12) (by kernel_rfl) rfl (by kernel_rfl) (bnef rfl) ?_)
    refine l_cons (ev_run (v := (.bool false)) (w1 := w12) rfl rfl (by kernel_rfl) ?_)
    refine l_cons (ev_run (v := (.bool false)) (w1 := w12) rfl rfl (by kernel_rfl) ?_)
    refine l_cons (ev_run (v := (.int .i64 slot)) (w1 := w12) (by kernel_rfl) rfl (by kernel_rfl) ?_)
    refine l_cons (ev_run (v := (.slice A' l.length (c'))) (w1 := w12) (by kernel_rfl) rfl (by kernel_rfl) ?_)
    refine l_cons (ev_call (by kernel_rfl) rfl (f := 12) (args := #[(.int .i64 slot), (.slice A' l.length (c'))]) (by kernel_rfl) (pick_c slot A' c' l _ (C_of_row (show (rowR 30 8 A' l.length c' rows).ok w12 from H16.get 0 rfl) rfl (fun j x c hx hc => elR_fk (show (elR k30 0 F l rows).ok w12 from H16.get 1 rfl) j (Nat.zero_le _) x c hx hc)) (LOk_of hok)) ?_)
    rintro e w13 ⟨Ap2, cp2, Ap3, cp3, rfl, hH_⟩
    refine ⟨_, rfl, ?_⟩
    have H17 := H16.join hH_
    have hb_ := hH_.to_below
    refine l_cons (ev_run (v := (.int .i64 slot)) (w1 := w13) (by kernel_rfl) rfl (by kernel_rfl) ?_)
    refine l_cons (ev_run (v := (.slice A l.length c)) (w1 := w13) (by kernel_rfl) rfl (by kernel_rfl) ?_)
    refine l_cons (ev_call (by kernel_rfl) rfl (f := 13) (args := #[(.int .i64 slot), (.slice A l.length c)]) (by kernel_rfl) (rpick_c slot A c l w _ hC H17.to_below hS) ?_)
    rintro e w14 ⟨Aq2, cq2, Aq3, cq3, rfl, hrq, hb_⟩
    refine ⟨_, rfl, ?_⟩
    have H18 := H17.below hb_
    refine l_cons (ev_call (by kernel_rfl) rfl (f := 11) (args := #[(.agg #[(.int .i64 ((pickOf slot l).f0)), (.int .i64 ((pickOf slot l).f1)), (.slice Ap2 ((pickOf slot l).f2.length) cp2), (.slice Ap3 ((pickOf slot l).f3.length) cp3)]), (.agg #[(.int .i64 ((pickOf slot l).f0)), (.int .i64 ((pickOf slot l).f1)), (.slice Aq2 ((pickOf slot l).f2.length) cq2), (.slice Aq3 ((pickOf slot l).f3.length) cq3)])]) (by kernel_rfl) (samereq1_c (pickOf slot l) _ ⟨byR_le (H18.get 0 rfl), byR_C (H18.get 0 rfl), byR_le (H18.get 1 rfl), byR_C (H18.get 1 rfl)⟩ ⟨hrq.1, C_to hrq.2.1 H18, hrq.2.2.1, C_to hrq.2.2.2 H18⟩) ?_)
    rintro e w15 ⟨rfl, hb_⟩
    refine ⟨_, rfl, ?_⟩
    have H19 := H18.below hb_
    refine l_cons (ev_run (v := (.bool false)) (w1 := w15) (by kernel_rfl) rfl (by kernel_rfl) ?_)
    refine l_cons (ev_run (v := (.bool false)) (w1 := w15) rfl rfl (by kernel_rfl) ?_)
    refine l_nil ?_
    refine n_then ?_
    refine k_false (by kernel_rfl) ?_
    refine wp_skip ?_
    refine n_then ?_
    refine wp_seq ?_
    refine k_list ?_
    refine l_cons (ev_run (v := (.slice A' l.length (c'))) (w1 := w15) rfl rfl (by kernel_rfl) ?_)
    refine l_cons (ev_call rfl rfl (f := 14) (args := #[(.slice A' l.length (c'))]) (by kernel_rfl) (picks2_c A' c' l _ (C_of_row (show (rowR 30 8 A' l.length c' rows).ok w15 from H19.get 2 rfl) rfl (fun j x c hx hc => elR_fk (show (elR k30 0 F l rows).ok w15 from H19.get 3 rfl) j (Nat.zero_le _) x c hx hc)) hwf) ?_)
    rintro e w16 ⟨Ag, cg, es, hes, rfl, hH_⟩
    refine ⟨_, rfl, ?_⟩
    have hel : es.length = (picksOf l).length := by rw [← hes, List.length_map]
    have H20 := H19.join hH_
    have hb_ := hH_.to_below
    refine l_cons (ev_run (v := (.slice A l.length c)) (w1 := w16) rfl rfl (by kernel_rfl) ?_)
    refine l_cons (ev_call rfl rfl (f := 15) (args := #[(.slice A l.length c)]) (by kernel_rfl) (rpicks_c A c l w _ hC H20.to_below hwf hS) ?_)
    rintro e w17 ⟨Aw, cw, rw_, rfl, hEw, hH_⟩
    refine ⟨_, rfl, ?_⟩
    have H21 := H20.join hH_
    have hb_ := hH_.to_below
    refine l_cons (ev_run (v := (.slice Ag es.length cg)) (w1 := w17) rfl rfl (by kernel_rfl) ?_)
    refine l_cons (ev_run (v := (.slice Aw ((picksOf l).length) cw)) (w1 := w17) rfl rfl (by kernel_rfl) ?_)
    refine l_nil ?_
    refine n_then ?_
    refine wp_seq ?_
    refine wp_seq ?_
    refine k_list ?_
    refine l_cons (ev_run (v := (.slice Ag es.length cg)) (w1 := w17) rfl rfl (by kernel_rfl) ?_)
    refine l_cons (ev_run (v := (.int .i64 (((es.length : Nat) : Int)))) (w1 := w17) rfl rfl (by kernel_rfl) ?_)
    refine l_cons (ev_run (v := (.slice Aw ((picksOf l).length) cw)) (w1 := w17) rfl rfl (by kernel_rfl) ?_)
    refine l_cons (ev_run (v := (.int .i64 ((((picksOf l).length : Nat) : Int)))) (w1 := w17) rfl rfl (by kernel_rfl) ?_)
    refine l_cons (ev_eq (v := (.bool ((((es.length : Nat) : Int) : Int) != (((picksOf l).length : Nat) : Int)))) (v' := (.bool false)) (w1 := w17) rfl rfl (by kernel_rfl) (bnef (by omega)) ?_)
    refine l_nil ?_
    refine n_then ?_
    refine k_false (by kernel_rfl) ?_
    refine wp_skip ?_
    refine n_then ?_
    refine wp_seq ?_
    refine wp_seq ?_
    refine k_list ?_
    refine l_cons (ev_run (v := (.slice Ag es.length cg)) (w1 := w17) rfl rfl (by kernel_rfl) ?_)
    refine l_cons (ev_run (v := (.int .i64 (((es.length : Nat) : Int)))) (w1 := w17) rfl rfl (by kernel_rfl) ?_)
    refine l_cons (ev_run (v := (.int .i64 0)) (w1 := w17) rfl rfl (by kernel_rfl) ?_)
    refine l_nil ?_
    refine n_then ?_
    refine wp_block ?_
    refine k_loop (σ := Nat) (fun i => [(0, (.slice A l.length c)), (5, (.slice A' l.length (c'))), (8, (.slice Ag es.length cg)), (9, (.slice Aw ((picksOf l).length) cw)), (59, (.slice Ag es.length cg)), (60, (.int .i64 (((es.length : Nat) : Int)))), (61, (.int .i64 (((i : Nat) : Int))))]) (fun i w' => (i ≤ es.length) ∧ Hp (fun _ => False) w w' [rowR 36 4 Ag es.length cg (es.map rqc), starR ((es.drop i).flatMap rqs), rowR 36 4 Aw ((picksOf l).length) cw rw_, rowR 30 8 A' l.length (c') rows, elR k30 0 F l rows]) (fun i => es.length - i) 0 ⟨(by first | rfl | kernel_rfl), (by first | rfl | kernel_rfl), (by first | rfl | kernel_rfl), (by first | rfl | kernel_rfl), (by first | rfl | kernel_rfl), (by first | rfl | kernel_rfl), (by first | rfl | kernel_rfl), trivial⟩ ⟨(by omega), H21.sel [1, 2, 0, 5, 6] (by decide)⟩ ?_
    rintro L2 i w18 ⟨hi, H22⟩
    change Code.wp _ _ _ (Fr _ _ [(0, (.slice A l.length c)), (5, (.slice A' l.length (c'))), (8, (.slice Ag es.length cg)), (9, (.slice Aw ((picksOf l).length) cw)), (59, (.slice Ag es.length cg)), (60, (.int .i64 (((es.length : Nat) : Int)))), (61, (.int .i64 (((i : Nat) : Int))))]) _
    have hgl := (rowR_len (H22.get 0 rfl)).2.2
    rcases Nat.lt_or_ge i es.length with hlt | hge
    · skip
      obtain ⟨gg, hgg⟩ := rowR_some (H22.get 0 rfl) (by omega)
      subst hgg
      obtain ⟨gw, hgw⟩ := rowR_some (H22.get 2 rfl) (by omega)
      subst hgw
      obtain ⟨⟨x, A2, c2, A3, c3⟩, hee⟩ : ∃ e, es[i]? = some e := ⟨_, List.getElem?_eq_getElem hlt⟩
      have hrg : (es.map rqc).getD i [] = [(.int .i64 x.f0), (.int .i64 x.f1), (.slice A2 x.f2.length c2), (.slice A3 x.f3.length c3)] := by rw [List.getD_eq_getElem?_getD, List.getElem?_map, hee]; rfl
      have hxp : (picksOf l).getD i z36 = x := by rw [← hes, List.getD_eq_getElem?_getD, List.getElem?_map, hee]; rfl
      obtain ⟨y, Ay2, cy2, Ay3, cy3, hy, hyw, ly2, gy2, ly3, gy3⟩ := elts36 hEw i (by omega)
      rw [hxp] at hy
      have hyx := hy.symm
      subst hyx
      have H23 := H22
      rw [drop_cons hee, List.flatMap_cons] at H23
      have H24 := Hp.star_out (Hp.sel H23 [1, 0, 2, 3, 4] (by decide))
      have H25 : Hp (fun _ => False) w w18 [rowR 5 1 A2 x.f2.length c2 (bts x.f2), rowR 5 1 A3 x.f3.length c3 (bts x.f3), starR ((es.drop (i + 1)).flatMap rqs), rowR 36 4 (some (⟨gg, 0, none⟩)) es.length cg (es.map rqc), rowR 36 4 (some (⟨gw, 0, none⟩)) ((picksOf l).length) cw rw_, rowR 30 8 A' l.length (c') rows, elR k30 0 F l rows] := (Hp.star_out (Hp.sel H24 [1, 0, 2, 3, 4, 5] (by decide))).sel [2, 0, 1, 3, 4, 5, 6] (by decide)
      refine wp_seq ?_
      refine k_list ?_
      refine l_cons (ev_eq (v := (.bool (decide ((((i : Nat) : Int) : Int) < ((es.length : Nat) : Int))))) (v' := (.bool true)) (w1 := w18) rfl rfl (by kernel_rfl) (bt (by first | assumption | omega)) ?_)
      refine l_nil ?_
      refine n_then ?_
      refine wp_seq ?_
      refine k_true (by kernel_rfl) ?_
      refine wp_skip ?_
      refine n_then ?_
      refine wp_seq ?_
      refine wp_block ?_
      refine wp_seq ?_
      refine k_list ?_
      refine l_cons (ev_run (v := (.int .i64 (((i : Nat) : Int)))) (w1 := w18) rfl rfl (by kernel_rfl) ?_)
      refine l_cons (ev_run (v := (.int .i64 (((i : Nat) : Int)))) (w1 := w18) rfl rfl (by kernel_rfl) ?_)
      refine l_nil ?_
      refine n_then ?_
      refine wp_seq ?_
      refine wp_seq ?_
      refine r_start (m := 10) (fun j => false) (fun w' => Hp (fun _ => False) w w' [rowR 5 1 A2 x.f2.length c2 (bts x.f2), rowR 5 1 A3 x.f3.length c3 (bts x.f3), starR ((es.drop (i + 1)).flatMap rqs), rowR 36 4 (some (⟨gg, 0, none⟩)) es.length cg (es.map rqc), rowR 36 4 (some (⟨gw, 0, none⟩)) ((picksOf l).length) cw rw_, rowR 30 8 A' l.length (c') rows, elR k30 0 F l rows]) (by kernel_rfl) rfl (by kernel_rfl) (fun _ _ _ _ _ h => h) ?_
      have H26 := H25.drew
      refine r_take (i := 0) (v := (.slice (some (⟨gg, 0, none⟩)) es.length cg)) rfl (by kernel_rfl) (by kernel_rfl) (by kernel_rfl) rfl H26 (fun _ _ => by kernel_rfl) ?_
      refine r_take (i := 1) (v := (.int .i64 (((i : Nat) : Int)))) rfl (by kernel_rfl) (by kernel_rfl) (by kernel_rfl) rfl H26 (fun _ _ => by kernel_rfl) ?_
      refine r_take (i := 2) (v := (.pointer (some (((⟨gg, 0, none⟩ : Addr)).add (i * 4))))) rfl (by kernel_rfl) (by kernel_rfl) (by kernel_rfl) rfl H26 (fun w_ hs_ => (run_ixa (sz := 4) (q := i) (ad := ⟨gg, 0, none⟩) (len := es.length) (cap := cg) (k := .i64) (z := ((i : Nat) : Int)) rfl (by kernel_rfl) (by kernel_rfl) rfl (by kernel_rfl) (by first | rfl | omega) (by first | omega | decide))) ?_
      refine r_take (i := 3) (v := (.agg #[(.int .i64 x.f0), (.int .i64 x.f1), (.slice A2 x.f2.length c2), (.slice A3 x.f3.length c3)])) rfl (by kernel_rfl) (by kernel_rfl) (by kernel_rfl) rfl H26 (fun w_ hs_ => (run_ld rfl (by kernel_rfl) (At_rowE (hs_.get 3 rfl) i (by omega) _ hrg) (by kernel_rfl))) ?_
      refine r_take (i := 4) (v := (.slice (some (⟨gw, 0, none⟩)) ((picksOf l).length) cw)) rfl (by kernel_rfl) (by kernel_rfl) (by kernel_rfl) rfl H26 (fun _ _ => by kernel_rfl) ?_
      refine r_take (i := 5) (v := (.int .i64 (((i : Nat) : Int)))) rfl (by kernel_rfl) (by kernel_rfl) (by kernel_rfl) rfl H26 (fun _ _ => by kernel_rfl) ?_
      refine r_take (i := 6) (v := (.pointer (some (((⟨gw, 0, none⟩ : Addr)).add (i * 4))))) rfl (by kernel_rfl) (by kernel_rfl) (by kernel_rfl) rfl H26 (fun w_ hs_ => (run_ixa (sz := 4) (q := i) (ad := ⟨gw, 0, none⟩) (len := (picksOf l).length) (cap := cw) (k := .i64) (z := ((i : Nat) : Int)) rfl (by kernel_rfl) (by kernel_rfl) rfl (by kernel_rfl) (by first | rfl | omega) (by first | omega | decide))) ?_
      refine r_take (i := 7) (v := (.agg #[(.int .i64 x.f0), (.int .i64 x.f1), (.slice Ay2 x.f2.length cy2), (.slice Ay3 x.f3.length cy3)])) rfl (by kernel_rfl) (by kernel_rfl) (by kernel_rfl) rfl H26 (fun w_ hs_ => (run_ld rfl (by kernel_rfl) (At_rowE (hs_.get 4 rfl) i (by omega) _ hyw) (by kernel_rfl))) ?_
      refine r_one (i := 8) (by kernel_rfl) rfl (ev_call (by kernel_rfl) rfl (f := 11) (args := #[(.agg #[(.int .i64 x.f0), (.int .i64 x.f1), (.slice A2 x.f2.length c2), (.slice A3 x.f3.length c3)]), (.agg #[(.int .i64 x.f0), (.int .i64 x.f1), (.slice Ay2 x.f2.length cy2), (.slice Ay3 x.f3.length cy3)])]) (by kernel_rfl) (samereq1_c x _ ⟨byR_le (H26.get 0 rfl), byR_C (H26.get 0 rfl), byR_le (H26.get 1 rfl), byR_C (H26.get 1 rfl)⟩ ⟨ly2, C_to gy2 H26, ly3, C_to gy3 H26⟩) ?_)
      rintro e w19 ⟨rfl, hb_⟩
      refine ⟨_, rfl, ?_⟩
      have H27 := H26.below hb_
      refine ⟨fun _ => H27, ?_⟩
      refine r_take (i := 9) (v := (.bool false)) rfl (by kernel_rfl) (by kernel_rfl) (by kernel_rfl) rfl H27 (fun _ _ => by kernel_rfl) ?_
      refine r_done (by kernel_rfl) ?_
      refine n_then ?_
      refine k_false (by kernel_rfl) ?_
      refine wp_skip ?_
      refine n_then ?_
      refine wp_seq ?_
      refine k_list ?_
      refine l_cons (ev_run (v := (.slice (some (⟨gg, 0, none⟩)) es.length cg)) (w1 := w19) rfl rfl (by kernel_rfl) ?_)
      refine l_cons (ev_run (v := (.int .i64 (((i : Nat) : Int)))) (w1 := w19) rfl rfl (by kernel_rfl) ?_)
      refine l_cons (ev_run (v := (.pointer (some (((⟨gg, 0, none⟩ : Addr)).add (i * 4))))) (w1 := w19) rfl rfl (run_ixa (sz := 4) (q := i) (ad := ⟨gg, 0, none⟩) (len := es.length) (cap := cg) (k := .i64) (z := ((i : Nat) : Int)) rfl (by kernel_rfl) (by kernel_rfl) rfl (by kernel_rfl) (by first | rfl | omega) (by first | omega | decide)) ?_)
      refine l_cons (ev_run (v := (.pointer (some ((((⟨gg, 0, none⟩ : Addr)).add (i * 4)).add 2)))) (w1 := w19) rfl rfl (by kernel_rfl) ?_)
      refine l_cons (ev_run (v := (.slice A2 x.f2.length c2)) (w1 := w19) rfl rfl (run_ld rfl (by kernel_rfl) (At.field (At_rowE (H27.get 3 rfl) i (by omega) _ hrg) 2) (by kernel_rfl)) ?_)
      refine l_cons (ev_run (v := (.int .i64 (((x.f2.length : Nat) : Int)))) (w1 := w19) rfl rfl (by kernel_rfl) ?_)
      refine l_cons (ev_run (v := (.int .i64 0)) (w1 := w19) rfl rfl (by kernel_rfl) ?_)
      refine l_nil ?_
      refine n_then ?_
      refine wp_block ?_
      refine k_loop (σ := Nat × List Int) (fun x_ => match x_ with | (k, zs) => [(0, (.slice A l.length c)), (5, (.slice A' l.length (c'))), (8, (.slice (some (⟨gg, 0, none⟩)) es.length cg)), (9, (.slice (some (⟨gw, 0, none⟩)) ((picksOf l).length) cw)), (10, (.int .i64 (((i : Nat) : Int)))), (59, (.slice (some (⟨gg, 0, none⟩)) es.length cg)), (60, (.int .i64 (((es.length : Nat) : Int)))), (61, (.int .i64 (((i : Nat) : Int)))), (79, (.int .i64 (((x.f2.length : Nat) : Int)))), (80, (.int .i64 (((k : Nat) : Int))))]) (fun x_ w' => match x_ with | (k, zs) => (k ≤ x.f2.length) ∧ (zs.length = x.f2.length) ∧ Hp (fun _ => False) w w' [rowR 5 1 A2 x.f2.length c2 ((zs).map fun y => [Value.int .u8 y]), starR ((es.drop (i + 1)).flatMap rqs), rowR 36 4 (some (⟨gg, 0, none⟩)) es.length cg (es.map rqc), rowR 36 4 (some (⟨gw, 0, none⟩)) ((picksOf l).length) cw rw_, rowR 30 8 A' l.length (c') rows, elR k30 0 F l rows]) (fun x_ => match x_ with | (k, zs) => x.f2.length - k) (0, x.f2) ⟨(by first | rfl | kernel_rfl), (by first | rfl | kernel_rfl), (by first | rfl | kernel_rfl), (by first | rfl | kernel_rfl), (by first | rfl | kernel_rfl), (by first | rfl | kernel_rfl), (by first | rfl | kernel_rfl), (by first | rfl | kernel_rfl), (by first | rfl | kernel_rfl), (by first | rfl | kernel_rfl), trivial⟩ ⟨(by omega), rfl, H27.sel [0, 2, 3, 4, 5, 6] (by decide)⟩ ?_
      rintro L3 ⟨k, zs⟩ w20 ⟨hk, hz, H28⟩
      change Code.wp _ _ _ (Fr _ _ [(0, (.slice A l.length c)), (5, (.slice A' l.length (c'))), (8, (.slice (some (⟨gg, 0, none⟩)) es.length cg)), (9, (.slice (some (⟨gw, 0, none⟩)) ((picksOf l).length) cw)), (10, (.int .i64 (((i : Nat) : Int)))), (59, (.slice (some (⟨gg, 0, none⟩)) es.length cg)), (60, (.int .i64 (((es.length : Nat) : Int)))), (61, (.int .i64 (((i : Nat) : Int)))), (79, (.int .i64 (((x.f2.length : Nat) : Int)))), (80, (.int .i64 (((k : Nat) : Int))))]) _
      have hxl := (rowR_len (H28.get 0 rfl)).2.2
      rcases Nat.lt_or_ge k x.f2.length with hlt2 | hge2
      · skip
        obtain ⟨gs, hgs⟩ := rowR_some (H28.get 0 rfl) (by omega)
        subst hgs
        have hv : zs[k]? = some (zs.getD k 0) := by rw [List.getD_eq_getElem?_getD, List.getElem?_eq_getElem (by omega)]; rfl
        refine wp_seq ?_
        refine k_list ?_
        refine l_cons (ev_eq (v := (.bool (decide ((((k : Nat) : Int) : Int) < ((x.f2.length : Nat) : Int))))) (v' := (.bool true)) (w1 := w20) rfl rfl (by kernel_rfl) (bt (by first | assumption | omega)) ?_)
        refine l_nil ?_
        refine n_then ?_
        refine wp_seq ?_
        refine k_true (by kernel_rfl) ?_
        refine wp_skip ?_
        refine n_then ?_
        refine wp_seq ?_
        refine wp_block ?_
        refine wp_seq ?_
        refine k_list ?_
        refine l_cons (ev_run (v := (.int .i64 (((k : Nat) : Int)))) (w1 := w20) rfl rfl (by kernel_rfl) ?_)
        refine l_cons (ev_run (v := (.int .i64 (((k : Nat) : Int)))) (w1 := w20) rfl rfl (by kernel_rfl) ?_)
        refine l_nil ?_
        refine n_then ?_
        refine k_list ?_
        refine l_cons (ev_run (v := (.slice (some (⟨gg, 0, none⟩)) es.length cg)) (w1 := w20) rfl rfl (by kernel_rfl) ?_)
        refine l_cons (ev_run (v := (.int .i64 (((i : Nat) : Int)))) (w1 := w20) rfl rfl (by kernel_rfl) ?_)
        refine l_cons (ev_run (v := (.pointer (some (((⟨gg, 0, none⟩ : Addr)).add (i * 4))))) (w1 := w20) rfl rfl (run_ixa (sz := 4) (q := i) (ad := ⟨gg, 0, none⟩) (len := es.length) (cap := cg) (k := .i64) (z := ((i : Nat) : Int)) rfl (by kernel_rfl) (by kernel_rfl) rfl (by kernel_rfl) (by first | rfl | omega) (by first | omega | decide)) ?_)
        refine l_cons (ev_run (v := (.pointer (some ((((⟨gg, 0, none⟩ : Addr)).add (i * 4)).add 2)))) (w1 := w20) rfl rfl (by kernel_rfl) ?_)
        refine l_cons (ev_run (v := (.slice (some (⟨gs, 0, none⟩)) x.f2.length c2)) (w1 := w20) rfl rfl (run_ld rfl (by kernel_rfl) (At.field (At_rowE (H28.get 2 rfl) i (by omega) _ hrg) 2) (by kernel_rfl)) ?_)
        refine l_cons (ev_run (v := (.int .i64 (((k : Nat) : Int)))) (w1 := w20) rfl rfl (by kernel_rfl) ?_)
        refine l_cons (ev_run (v := (.pointer (some (((⟨gs, 0, none⟩ : Addr)).add (k * 1))))) (w1 := w20) rfl rfl (run_ixa (sz := 1) (q := k) (ad := ⟨gs, 0, none⟩) (len := x.f2.length) (cap := c2) (k := .i64) (z := ((k : Nat) : Int)) rfl (by kernel_rfl) (by kernel_rfl) rfl (by kernel_rfl) (by first | rfl | omega) (by first | omega | decide)) ?_)
        refine l_cons (ev_run (v := (.int .u8 (zs.getD k 0))) (w1 := w20) rfl rfl (run_ld rfl (by kernel_rfl) (At_scal (h1 := fun _ => rfl) (xs := zs) (enc := Value.int .u8) (H28.get 0 rfl) k _ hv) (by kernel_rfl)) ?_)
        refine l_cons (ev_run (v := (.int .u8 (IntKind.u8.wrap (((BitVec.ofInt IntKind.u8.bits (zs.getD k 0)) ^^^ (BitVec.ofInt IntKind.u8.bits (255))).toNat : Int)))) (w1 := w20) rfl rfl (by kernel_rfl) ?_)
        refine l_cons (ev_run (v := (.pointer (some (((⟨gs, 0, none⟩ : Addr)).add (k * 1))))) (w1 := w20) rfl rfl (run_ixa (sz := 1) (q := k) (ad := ⟨gs, 0, none⟩) (len := x.f2.length) (cap := c2) (k := .i64) (z := ((k : Nat) : Int)) rfl (by kernel_rfl) (by kernel_rfl) rfl (by kernel_rfl) (by first | rfl | omega) (by first | omega | decide)) ?_)
        refine l_cons (ev_setscal (enc := Value.int .u8) (k := 0) (g := gs) (m := x.f2.length) (c := c2) (j := k) (xs := zs) (fun _ => rfl) rfl rfl rfl H28 rfl (by kernel_rfl) (IntKind.u8.wrap (((BitVec.ofInt IntKind.u8.bits (zs.getD k 0)) ^^^ (BitVec.ofInt IntKind.u8.bits (255))).toNat : Int)) (by kernel_rfl) (by kernel_rfl) (by omega) ?_)
        intro w21 H29 hcw21
        refine l_nil ?_
        refine n_in ?_
        refine n_then ?_
        refine k_list ?_
        refine l_cons (ev_eq (v := (.int .i64 (IntKind.i64.wrap (((k : Nat) : Int) + 1)))) (v' := (.int .i64 ((((k : Nat) : Int) + 1)))) (w1 := w21) rfl rfl (by kernel_rfl) (wr64 (by omega) (by omega)) ?_)
        refine l_cons (ev_run (v := (.int .i64 ((((k : Nat) : Int) + 1)))) (w1 := w21) rfl rfl (by kernel_rfl) ?_)
        refine l_nil ?_
        refine n_then ?_
        exact k_round (k + 1, (zs).set k (IntKind.u8.wrap (((BitVec.ofInt IntKind.u8.bits (zs.getD k 0)) ^^^ (BitVec.ofInt IntKind.u8.bits (255))).toNat : Int))) ⟨(by first | rfl | kernel_rfl), (by first | rfl | kernel_rfl), (by first | rfl | kernel_rfl), (by first | rfl | kernel_rfl), (by first | rfl | kernel_rfl), (by first | rfl | kernel_rfl), (by first | rfl | kernel_rfl), (by first | rfl | kernel_rfl), (by first | rfl | kernel_rfl), (by first | rfl | kernel_rfl), trivial⟩ ⟨(by omega), (by rw [List.length_set]; exact hz), H29⟩ (by first | omega | (simp; omega))
      · skip
        refine wp_seq ?_
        refine k_list ?_
        refine l_cons (ev_eq (v := (.bool (decide ((((k : Nat) : Int) : Int) < ((x.f2.length : Nat) : Int))))) (v' := (.bool false)) (w1 := w20) rfl rfl (by kernel_rfl) (bf (by first | assumption | omega)) ?_)
        refine l_nil ?_
        refine n_then ?_
        refine wp_seq ?_
        refine k_false (by kernel_rfl) ?_
        refine wp_exit ?_
        refine e_then ?_
        refine e_then ?_
        refine e_in ?_
        refine n_in ?_
        refine n_then ?_
        refine k_list ?_
        refine l_cons (ev_eq (v := (.int .i64 (IntKind.i64.wrap (((i : Nat) : Int) + 1)))) (v' := (.int .i64 ((((i : Nat) : Int) + 1)))) (w1 := w20) rfl rfl (by kernel_rfl) (wr64 (by omega) (by omega)) ?_)
        refine l_cons (ev_run (v := (.int .i64 ((((i : Nat) : Int) + 1)))) (w1 := w20) rfl rfl (by kernel_rfl) ?_)
        refine l_nil ?_
        refine n_then ?_
        exact k_round (i + 1) ⟨(by first | rfl | kernel_rfl), (by first | rfl | kernel_rfl), (by first | rfl | kernel_rfl), (by first | rfl | kernel_rfl), (by first | rfl | kernel_rfl), (by first | rfl | kernel_rfl), (by first | rfl | kernel_rfl), trivial⟩ ⟨(by omega), H28.sel [2, 1, 3, 4, 5] (by decide)⟩ (by first | omega | (simp; omega))
    · skip
      refine wp_seq ?_
      refine k_list ?_
      refine l_cons (ev_eq (v := (.bool (decide ((((i : Nat) : Int) : Int) < ((es.length : Nat) : Int))))) (v' := (.bool false)) (w1 := w18) rfl rfl (by kernel_rfl) (bf (by first | assumption | omega)) ?_)
      refine l_nil ?_
      refine n_then ?_
      refine wp_seq ?_
      refine k_false (by kernel_rfl) ?_
      refine wp_exit ?_
      refine e_then ?_
      refine e_then ?_
      refine e_in ?_
      refine n_then ?_
      refine wp_seq ?_
      refine wp_seq ?_
      refine k_list ?_
      refine l_cons (ev_run (v := (.slice A l.length c)) (w1 := w18) rfl rfl (by kernel_rfl) ?_)
      refine l_cons (ev_run (v := (.int .i64 (((l.length : Nat) : Int)))) (w1 := w18) rfl rfl (by kernel_rfl) ?_)
      refine l_cons (ev_run (v := (.int .i64 0)) (w1 := w18) rfl rfl (by kernel_rfl) ?_)
      refine l_nil ?_
      refine n_then ?_
      refine wp_block ?_
      refine k_loop (σ := Nat) (fun j => [(0, (.slice A l.length c)), (5, (.slice A' l.length (c'))), (95, (.slice A l.length c)), (96, (.int .i64 (((l.length : Nat) : Int)))), (97, (.int .i64 (((j : Nat) : Int))))]) (fun j w' => (j ≤ l.length) ∧ Hp (fun _ => False) w w' [rowR 30 8 A' l.length (c') rows, elR k30 0 F l rows]) (fun j => l.length - j) 0 ⟨(by first | rfl | kernel_rfl), (by first | rfl | kernel_rfl), (by first | rfl | kernel_rfl), (by first | rfl | kernel_rfl), (by first | rfl | kernel_rfl), trivial⟩ ⟨(by omega), H22.sel [3, 4] (by decide)⟩ ?_
      rintro L4 j w22 ⟨hj, H30⟩
      change Code.wp _ _ _ (Fr _ _ [(0, (.slice A l.length c)), (5, (.slice A' l.length (c'))), (95, (.slice A l.length c)), (96, (.int .i64 (((l.length : Nat) : Int)))), (97, (.int .i64 (((j : Nat) : Int))))]) _
      rcases Nat.lt_or_ge j l.length with hlt | hge
      · skip
        obtain ⟨ad, rfl⟩ := C_some hC (by omega) z30
        obtain ⟨x, A4, c4, A5, c5, A6, c6, A7, c7, hx, hxA, l4, g4, l5, g5, l6, g6, l7, g7⟩ := elem30 hC j hlt
        obtain ⟨go, hgo⟩ := rowR_some (H30.get 0 rfl) (by omega)
        subst hgo
        have hrl := (rowR_len (H30.get 0 rfl)).1
        have hxs : l[j]? = some x := by rw [hx, List.getD_eq_getElem?_getD, List.getElem?_eq_getElem hlt]; rfl
        have hrs : rows[j]? = some (rows.getD j []) := by rw [List.getD_eq_getElem?_getD, List.getElem?_eq_getElem (by omega)]; rfl
        have hxk := elR_fk (show (elR k30 0 F l rows).ok w22 from H30.get 1 rfl) j (Nat.zero_le _) x _ hxs hrs
        obtain ⟨B4, d4, B5, d5, B6, d6, B7, d7, hrw, m4, n4, m5, n5, m6, n6, m7, n7⟩ := k30_open hxk
        refine wp_seq ?_
        refine k_list ?_
        refine l_cons (ev_eq (v := (.bool (decide ((((j : Nat) : Int) : Int) < ((l.length : Nat) : Int))))) (v' := (.bool true)) (w1 := w22) rfl rfl (by kernel_rfl) (bt (by first | assumption | omega)) ?_)
        refine l_nil ?_
        refine n_then ?_
        refine wp_seq ?_
        refine k_true (by kernel_rfl) ?_
        refine wp_skip ?_
        refine n_then ?_
        refine wp_seq ?_
        refine wp_block ?_
        refine wp_seq ?_
        refine k_list ?_
        refine l_cons (ev_run (v := (.int .i64 (((j : Nat) : Int)))) (w1 := w22) rfl rfl (by kernel_rfl) ?_)
        refine l_cons (ev_run (v := (.int .i64 (((j : Nat) : Int)))) (w1 := w22) rfl rfl (by kernel_rfl) ?_)
        refine l_nil ?_
        refine n_then ?_
        refine wp_seq ?_
        refine r_start (m := 10) (fun j => false) (fun w' => Hp (fun _ => False) w w' [rowR 30 8 (some (⟨go, 0, none⟩)) l.length (c') rows, elR k30 0 F l rows]) (by kernel_rfl) rfl (by kernel_rfl) (fun _ _ _ _ _ h => h) ?_
        have H31 := H30.drew
        refine r_take (i := 0) (v := (.slice (some (⟨go, 0, none⟩)) l.length (c'))) rfl (by kernel_rfl) (by kernel_rfl) (by kernel_rfl) rfl H31 (fun _ _ => by kernel_rfl) ?_
        refine r_take (i := 1) (v := (.int .i64 (((j : Nat) : Int)))) rfl (by kernel_rfl) (by kernel_rfl) (by kernel_rfl) rfl H31 (fun _ _ => by kernel_rfl) ?_
        refine r_take (i := 2) (v := (.pointer (some (((⟨go, 0, none⟩ : Addr)).add (j * 8))))) rfl (by kernel_rfl) (by kernel_rfl) (by kernel_rfl) rfl H31 (fun w_ hs_ => (run_ixa (sz := 8) (q := j) (ad := ⟨go, 0, none⟩) (len := l.length) (cap := c') (k := .i64) (z := ((j : Nat) : Int)) rfl (by kernel_rfl) (by kernel_rfl) rfl (by kernel_rfl) (by first | rfl | omega) (by first | omega | decide))) ?_
        refine r_take (i := 3) (v := (.agg #[(.int .i64 x.f0.f0), (.int .i64 x.f0.f1), (.int .i64 x.f1), (.int .i64 x.f2), (.slice B4 x.f3.length d4), (.slice B5 x.f4.length d5), (.slice B6 x.f5.length d6), (.slice B7 x.f6.length d7)])) rfl (by kernel_rfl) (by kernel_rfl) (by kernel_rfl) rfl H31 (fun w_ hs_ => (run_ld rfl (by kernel_rfl) (At_rowE (hs_.get 0 rfl) j (by omega) _ hrw) (by kernel_rfl))) ?_
        refine r_take (i := 4) (v := (.slice (some (ad)) l.length c)) rfl (by kernel_rfl) (by kernel_rfl) (by kernel_rfl) rfl H31 (fun _ _ => by kernel_rfl) ?_
        refine r_take (i := 5) (v := (.int .i64 (((j : Nat) : Int)))) rfl (by kernel_rfl) (by kernel_rfl) (by kernel_rfl) rfl H31 (fun _ _ => by kernel_rfl) ?_
        refine r_take (i := 6) (v := (.pointer (some ((ad).add (j * 8))))) rfl (by kernel_rfl) (by kernel_rfl) (by kernel_rfl) rfl H31 (fun w_ hs_ => (run_ixa (sz := 8) (q := j) (ad := ad) (len := l.length) (cap := c) (k := .i64) (z := ((j : Nat) : Int)) rfl (by kernel_rfl) (by kernel_rfl) rfl (by kernel_rfl) (by first | rfl | omega) (by first | omega | decide))) ?_
        refine r_take (i := 7) (v := (.agg #[(.int .i64 x.f0.f0), (.int .i64 x.f0.f1), (.int .i64 x.f1), (.int .i64 x.f2), (.slice A4 x.f3.length c4), (.slice A5 x.f4.length c5), (.slice A6 x.f5.length c6), (.slice A7 x.f6.length c7)])) rfl (by kernel_rfl) (by kernel_rfl) (by kernel_rfl) rfl H31 (fun w_ hs_ => (run_ld rfl (by kernel_rfl) (At.hp hxA hs_ (fun h => h)) (by kernel_rfl))) ?_
        refine r_one (i := 8) (by kernel_rfl) rfl (ev_call (by kernel_rfl) rfl (f := 16) (args := #[(.agg #[(.int .i64 x.f0.f0), (.int .i64 x.f0.f1), (.int .i64 x.f1), (.int .i64 x.f2), (.slice B4 x.f3.length d4), (.slice B5 x.f4.length d5), (.slice B6 x.f5.length d6), (.slice B7 x.f6.length d7)]), (.agg #[(.int .i64 x.f0.f0), (.int .i64 x.f0.f1), (.int .i64 x.f1), (.int .i64 x.f2), (.slice A4 x.f3.length c4), (.slice A5 x.f4.length c5), (.slice A6 x.f5.length c6), (.slice A7 x.f6.length c7)])]) (by kernel_rfl) (samerep_c x _ ⟨m4, Kd.C_below n4 (below_drew (Below.refl _ _)), m5, Kd.C_below n5 (below_drew (Below.refl _ _)), m6, Kd.C_below n6 (below_drew (Below.refl _ _)), m7, Kd.C_below n7 (below_drew (Below.refl _ _))⟩ ⟨l4, C_to g4 H31, l5, C_to g5 H31, l6, C_to g6 H31, l7, C_to g7 H31⟩) ?_)
        rintro e w23 ⟨rfl, hb_⟩
        refine ⟨_, rfl, ?_⟩
        have H32 := H31.below hb_
        refine ⟨fun _ => H32, ?_⟩
        refine r_take (i := 9) (v := (.bool false)) rfl (by kernel_rfl) (by kernel_rfl) (by kernel_rfl) rfl H32 (fun _ _ => by kernel_rfl) ?_
        refine r_done (by kernel_rfl) ?_
        refine n_then ?_
        refine k_false (by kernel_rfl) ?_
        refine wp_skip ?_
        refine n_in ?_
        refine n_then ?_
        refine k_list ?_
        refine l_cons (ev_eq (v := (.int .i64 (IntKind.i64.wrap (((j : Nat) : Int) + 1)))) (v' := (.int .i64 ((((j : Nat) : Int) + 1)))) (w1 := w23) rfl rfl (by kernel_rfl) (wr64 (by omega) (by omega)) ?_)
        refine l_cons (ev_run (v := (.int .i64 ((((j : Nat) : Int) + 1)))) (w1 := w23) rfl rfl (by kernel_rfl) ?_)
        refine l_nil ?_
        refine n_then ?_
        exact k_round (j + 1) ⟨(by first | rfl | kernel_rfl), (by first | rfl | kernel_rfl), (by first | rfl | kernel_rfl), (by first | rfl | kernel_rfl), (by first | rfl | kernel_rfl), trivial⟩ ⟨(by omega), H32⟩ (by first | omega | (simp; omega))
      · skip
        refine wp_seq ?_
        refine k_list ?_
        refine l_cons (ev_eq (v := (.bool (decide ((((j : Nat) : Int) : Int) < ((l.length : Nat) : Int))))) (v' := (.bool false)) (w1 := w22) rfl rfl (by kernel_rfl) (bf (by first | assumption | omega)) ?_)
        refine l_nil ?_
        refine n_then ?_
        refine wp_seq ?_
        refine k_false (by kernel_rfl) ?_
        refine wp_exit ?_
        refine e_then ?_
        refine e_then ?_
        refine e_in ?_
        refine n_then ?_
        refine wp_seq ?_
        refine k_list ?_
        refine l_cons (ev_run (v := (.bool true)) (w1 := w22) rfl rfl (by kernel_rfl) ?_)
        refine l_nil ?_
        refine n_then ?_
        refine wp_ret ?_
        refine b_ret (v := (.bool true)) (resS rfl (.tmp (by kernel_rfl) .nil)) ?_
        exact ⟨rfl, H30.to_below⟩
end Go.Proofs.Ytpnelfefchdhcaa
