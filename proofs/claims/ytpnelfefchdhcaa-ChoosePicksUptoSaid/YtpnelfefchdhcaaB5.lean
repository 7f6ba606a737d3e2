/- The lowest and the highest slot of reports, of the program and of the document's answer. -/
import Derived.Test.YtpnelfefchdhcaaB1
import Derived.Test.YtpnelfefchdhcaaB3
namespace Go.Proofs.Ytpnelfefchdhcaa
open Go.RowKit Go.Proofs.YtpnelfefchdhcaaW.PrintWords Go.Proofs.YtpnelfefchdhcaaW.PrintLast Go.Proofs.YtpnelfefchdhcaaW.PrintMore
open Go.Proofs.Ytpnelfefchdhcaa.PChoosePicks
set_option linter.unusedVariables false
set_option linter.unusedSimpArgs false
set_option maxRecDepth 100000

def lowOf (l : List S30) : Int := l.foldl (fun b r => max b r.f2) 0
def highOf (l : List S30) : Int := l.foldl (fun b r => r.f5.foldl (fun b p => max b p.f0) b) (lowOf l)
theorem max_t {x y : Int} (h : y > x) : y = max x y := by omega
theorem max_f {x y : Int} (h : ¬ y > x) : x = max x y := by omega

set_option maxHeartbeats 1000000 in
theorem choose_Low_c (A : Option Addr) (c : Nat) (l : List S30) (w : World) (hC : Kd.C k30 w A l.length l) :
    Calls Try.prog 7 #[.slice A l.length c] w fun e w' => e = .returned (.int .i64 (lowOf l)) ∧ Below w.heap.size w w' := by
  have H := Hp.start (fun _ => False) w
  have hlen := C_len hC
  refine k_enter (args := [(.slice A l.length c)]) Try.func7 rfl Try.ntmps7 (Nat.le_of_ble_eq_true rfl) ?_
  refine wp_seq ?_
  refine k_list ?_
  refine l_cons (ev_run (v := (.int .i64 0)) (w1 := w) rfl rfl (by kernel_rfl) ?_)
  refine l_nil ?_
  refine n_then ?_
  refine wp_seq ?_
  refine k_list ?_
  refine l_cons (ev_run (v := (.int .i64 0)) (w1 := w) rfl rfl (by kernel_rfl) ?_)
  refine l_nil ?_
  refine n_then ?_
  refine wp_seq ?_
  refine wp_seq ?_
  refine k_list ?_
  refine l_cons (ev_run (v := (.slice A l.length c)) (w1 := w) rfl rfl (by kernel_rfl) ?_)
  refine l_cons (ev_run (v := (.int .i64 (((l.length : Nat) : Int)))) (w1 := w) rfl rfl (by kernel_rfl) ?_)
  refine l_cons (ev_run (v := (.int .i64 0)) (w1 := w) rfl rfl (by kernel_rfl) ?_)
  refine l_nil ?_
  refine n_then ?_
  refine wp_block ?_
  refine k_loop (σ := Nat × Int) (fun x_ => match x_ with | (j, b) => [(6, (.slice A l.length c)), (7, (.int .i64 (((l.length : Nat) : Int)))), (8, (.int .i64 (((j : Nat) : Int)))), (3, (.int .i64 b))]) (fun x_ w' => match x_ with | (j, b) => (j ≤ l.length) ∧ (b = (l.take j).foldl (fun b r => max b r.f2) 0) ∧ Hp (fun _ => False) w w' []) (fun x_ => match x_ with | (j, b) => l.length - j) (0, 0) ⟨(by first | rfl | kernel_rfl), (by first | rfl | kernel_rfl), (by first | rfl | kernel_rfl), (by first | rfl | kernel_rfl), trivial⟩ ⟨(by omega), rfl, H⟩ ?_
  rintro L1 ⟨j, b⟩ w1 ⟨hj, hb, H1⟩
  change Code.wp _ _ _ (Fr _ _ [(6, (.slice A l.length c)), (7, (.int .i64 (((l.length : Nat) : Int)))), (8, (.int .i64 (((j : Nat) : Int)))), (3, (.int .i64 b))]) _
  rcases Nat.lt_or_ge j l.length with hlt | hge
  · skip
    obtain ⟨ad, rfl⟩ := C_some hC (by omega) z30
    obtain ⟨x, A4, c4, A5, c5, A6, c6, A7, c7, hx, hxA, l4, g4, l5, g5, l6, g6, l7, g7⟩ := elem30 hC j hlt
    refine wp_seq ?_
    refine k_list ?_
    refine l_cons (ev_eq (v := (.bool (decide ((((j : Nat) : Int) : Int) < ((l.length : Nat) : Int))))) (v' := (.bool true)) (w1 := w1) rfl rfl (by kernel_rfl) (bt (by first | assumption | omega)) ?_)
    refine l_nil ?_
    refine n_then ?_
    refine wp_seq ?_
    refine k_true (by kernel_rfl) ?_
    refine wp_skip ?_
    refine n_then ?_
    refine wp_seq ?_
    refine wp_block ?_
    refine wp_seq ?_
    refine k_list ?_
    refine l_cons (ev_run (v := (.pointer (some ((ad).add (j * 8))))) (w1 := w1) rfl rfl (run_ixa (sz := 8) (q := j) (ad := ad) (len := l.length) (cap := c) (k := .i64) (z := ((j : Nat) : Int)) rfl (by kernel_rfl) (by kernel_rfl) rfl (by kernel_rfl) (by first | rfl | omega) (by first | omega | decide)) ?_)
    refine l_cons (ev_run (v := (.agg #[(.int .i64 x.f0.f0), (.int .i64 x.f0.f1), (.int .i64 x.f1), (.int .i64 x.f2), (.slice A4 x.f3.length c4), (.slice A5 x.f4.length c5), (.slice A6 x.f5.length c6), (.slice A7 x.f6.length c7)])) (w1 := w1) rfl rfl (run_ld rfl (by kernel_rfl) (At.hp hxA H1 (fun h => h)) (by kernel_rfl)) ?_)
    refine l_cons (ev_new (cs := [(.int .i64 0), (.int .i64 0), (.int .i64 0), (.int .i64 0), (.slice none 0 0), (.slice none 0 0), (.slice none 0 0), (.slice none 0 0)]) (t := 30) rfl rfl H1 (by kernel_rfl) ?_)
    intro g1 w2 H2 hg1 hbw2
    refine l_cons (ev_store (i := 0) rfl rfl rfl H2 (k := 0) rfl (by kernel_rfl) (.agg #[(.int .i64 x.f0.f0), (.int .i64 x.f0.f1), (.int .i64 x.f1), (.int .i64 x.f2), (.slice A4 x.f3.length c4), (.slice A5 x.f4.length c5), (.slice A6 x.f5.length c6), (.slice A7 x.f6.length c7)]) (by kernel_rfl) [(.int .i64 x.f0.f0), (.int .i64 x.f0.f1), (.int .i64 x.f1), (.int .i64 x.f2), (.slice A4 x.f3.length c4), (.slice A5 x.f4.length c5), (.slice A6 x.f5.length c6), (.slice A7 x.f6.length c7)] (by kernel_rfl) (by kernel_rfl) (by kernel_rfl) (by kernel_rfl) [(.int .i64 x.f0.f0), (.int .i64 x.f0.f1), (.int .i64 x.f1), (.int .i64 x.f2), (.slice A4 x.f3.length c4), (.slice A5 x.f4.length c5), (.slice A6 x.f5.length c6), (.slice A7 x.f6.length c7)] (by kernel_rfl) ?_)
    intro w3 H3 hcw3
    refine l_nil ?_
    refine n_then ?_
    refine k_list ?_
    refine l_cons (ev_run (v := (.int .i64 b)) (w1 := w3) rfl rfl (by kernel_rfl) ?_)
    refine l_cons (ev_run (v := (.pointer (some (⟨g1, 3, none⟩)))) (w1 := w3) rfl rfl (by kernel_rfl) ?_)
    refine l_cons (ev_run (v := (.int .i64 x.f2)) (w1 := w3) rfl rfl (run_ld rfl (by kernel_rfl) (At.blk (H3.get 0 rfl) 3) (by kernel_rfl)) ?_)
    refine l_cons (ev_eq (v := (.int .i64 (if (x.f2 : Int) > b then x.f2 else b))) (v' := (.int .i64 (max (b : Int) x.f2))) (w1 := w3) rfl rfl (by kernel_rfl) (vmax _ _ _) ?_)
    refine l_cons (ev_run (v := (.int .i64 (max (b : Int) x.f2))) (w1 := w3) rfl rfl (by kernel_rfl) ?_)
    refine l_nil ?_
    refine n_in ?_
    refine n_then ?_
    refine k_list ?_
    refine l_cons (ev_eq (v := (.int .i64 (IntKind.i64.wrap (((j : Nat) : Int) + 1)))) (v' := (.int .i64 ((((j : Nat) : Int) + 1)))) (w1 := w3) rfl rfl (by kernel_rfl) (wr64 (by omega) (by omega)) ?_)
    refine l_cons (ev_run (v := (.int .i64 ((((j : Nat) : Int) + 1)))) (w1 := w3) rfl rfl (by kernel_rfl) ?_)
    refine l_nil ?_
    refine n_then ?_
    exact k_round (j + 1, max b x.f2) ⟨(by first | rfl | kernel_rfl), (by first | rfl | kernel_rfl), (by first | rfl | kernel_rfl), (by first | rfl | kernel_rfl), trivial⟩ ⟨(by omega), (by rw [foldl_take _ _ _ _ hlt z30, ← hx, ← hb]), H3.sel [] (by decide)⟩ (by first | omega | (simp; omega))
  · skip
    refine wp_seq ?_
    refine k_list ?_
    refine l_cons (ev_eq (v := (.bool (decide ((((j : Nat) : Int) : Int) < ((l.length : Nat) : Int))))) (v' := (.bool false)) (w1 := w1) rfl rfl (by kernel_rfl) (bf (by first | assumption | omega)) ?_)
    refine l_nil ?_
    refine n_then ?_
    refine wp_seq ?_
    refine k_false (by kernel_rfl) ?_
    refine wp_exit ?_
    refine e_then ?_
    refine e_then ?_
    refine e_in ?_
    refine n_then ?_
    refine wp_seq ?_
    refine k_list ?_
    refine l_cons (ev_run (v := (.int .i64 b)) (w1 := w1) rfl rfl (by kernel_rfl) ?_)
    refine l_cons (ev_run (v := (.int .i64 b)) (w1 := w1) rfl rfl (by kernel_rfl) ?_)
    refine l_nil ?_
    refine n_then ?_
    refine wp_ret ?_
    refine b_ret (v := (.int .i64 b)) (resS rfl (.tmp (by kernel_rfl) .nil)) ?_
    exact ⟨(by rw [lowOf, ← List.take_of_length_le hge, ← hb]), H1.to_below⟩

set_option maxHeartbeats 1000000 in
theorem choose_High_c (A : Option Addr) (c : Nat) (l : List S30) (w : World) (hC : Kd.C k30 w A l.length l) :
    Calls Try.prog 9 #[.slice A l.length c] w fun e w' => e = .returned (.int .i64 (highOf l)) ∧ Below w.heap.size w w' := by
  have H := Hp.start (fun _ => False) w
  have hlen := C_len hC
  refine k_enter (args := [(.slice A l.length c)]) Try.func9 rfl Try.ntmps9 (Nat.le_of_ble_eq_true rfl) ?_
  refine wp_seq ?_
  refine k_list ?_
  refine l_cons (ev_run (v := (.int .i64 0)) (w1 := w) rfl rfl (by kernel_rfl) ?_)
  refine l_nil ?_
  refine n_then ?_
  refine wp_seq ?_
  refine k_list ?_
  refine l_cons (ev_run (v := (.slice A l.length c)) (w1 := w) rfl rfl (by kernel_rfl) ?_)
  refine l_cons (ev_call rfl rfl (f := 7) (args := #[(.slice A l.length c)]) (by kernel_rfl) (choose_Low_c A c l _ (C_to hC H)) ?_)
  rintro e w1 ⟨rfl, hb_⟩
  refine ⟨_, rfl, ?_⟩
  have H1 := H.below hb_
  refine l_cons (ev_run (v := (.int .i64 (lowOf l))) (w1 := w1) rfl rfl (by kernel_rfl) ?_)
  refine l_nil ?_
  refine n_then ?_
  refine wp_seq ?_
  refine wp_seq ?_
  refine k_list ?_
  refine l_cons (ev_run (v := (.slice A l.length c)) (w1 := w1) rfl rfl (by kernel_rfl) ?_)
  refine l_cons (ev_run (v := (.int .i64 (((l.length : Nat) : Int)))) (w1 := w1) rfl rfl (by kernel_rfl) ?_)
  refine l_cons (ev_run (v := (.int .i64 0)) (w1 := w1) rfl rfl (by kernel_rfl) ?_)
  refine l_nil ?_
  refine n_then ?_
  refine wp_block ?_
  refine k_loop (σ := Nat × Int) (fun x_ => match x_ with | (j, b0) => [(10, (.slice A l.length c)), (11, (.int .i64 (((l.length : Nat) : Int)))), (12, (.int .i64 (((j : Nat) : Int)))), (3, (.int .i64 b0))]) (fun x_ w' => match x_ with | (j, b0) => (j ≤ l.length) ∧ (b0 = (l.take j).foldl (fun b r => r.f5.foldl (fun b p => max b p.f0) b) (lowOf l)) ∧ Hp (fun _ => False) w w' []) (fun x_ => match x_ with | (j, b0) => l.length - j) (0, lowOf l) ⟨(by first | rfl | kernel_rfl), (by first | rfl | kernel_rfl), (by first | rfl | kernel_rfl), (by first | rfl | kernel_rfl), trivial⟩ ⟨(by omega), rfl, H1⟩ ?_
  rintro L1 ⟨j, b0⟩ w2 ⟨hj, hb0, H2⟩
  change Code.wp _ _ _ (Fr _ _ [(10, (.slice A l.length c)), (11, (.int .i64 (((l.length : Nat) : Int)))), (12, (.int .i64 (((j : Nat) : Int)))), (3, (.int .i64 b0))]) _
  rcases Nat.lt_or_ge j l.length with hlt | hge
  · skip
    obtain ⟨ad, rfl⟩ := C_some hC (by omega) z30
    obtain ⟨x, A4, c4, A5, c5, A6, c6, A7, c7, hx, hxA, l4, g4, l5, g5, l6, g6, l7, g7⟩ := elem30 hC j hlt
    refine wp_seq ?_
    refine k_list ?_
    refine l_cons (ev_eq (v := (.bool (decide ((((j : Nat) : Int) : Int) < ((l.length : Nat) : Int))))) (v' := (.bool true)) (w1 := w2) rfl rfl (by kernel_rfl) (bt (by first | assumption | omega)) ?_)
    refine l_nil ?_
    refine n_then ?_
    refine wp_seq ?_
    refine k_true (by kernel_rfl) ?_
    refine wp_skip ?_
    refine n_then ?_
    refine wp_seq ?_
    refine wp_block ?_
    refine wp_seq ?_
    refine k_list ?_
    refine l_cons (ev_run (v := (.pointer (some ((ad).add (j * 8))))) (w1 := w2) rfl rfl (run_ixa (sz := 8) (q := j) (ad := ad) (len := l.length) (cap := c) (k := .i64) (z := ((j : Nat) : Int)) rfl (by kernel_rfl) (by kernel_rfl) rfl (by kernel_rfl) (by first | rfl | omega) (by first | omega | decide)) ?_)
    refine l_cons (ev_run (v := (.agg #[(.int .i64 x.f0.f0), (.int .i64 x.f0.f1), (.int .i64 x.f1), (.int .i64 x.f2), (.slice A4 x.f3.length c4), (.slice A5 x.f4.length c5), (.slice A6 x.f5.length c6), (.slice A7 x.f6.length c7)])) (w1 := w2) rfl rfl (run_ld rfl (by kernel_rfl) (At.hp hxA H2 (fun h => h)) (by kernel_rfl)) ?_)
    refine l_cons (ev_new (cs := [(.int .i64 0), (.int .i64 0), (.int .i64 0), (.int .i64 0), (.slice none 0 0), (.slice none 0 0), (.slice none 0 0), (.slice none 0 0)]) (t := 30) rfl rfl H2 (by kernel_rfl) ?_)
    intro g1 w3 H3 hg1 hbw3
    refine l_cons (ev_store (i := 0) rfl rfl rfl H3 (k := 0) rfl (by kernel_rfl) (.agg #[(.int .i64 x.f0.f0), (.int .i64 x.f0.f1), (.int .i64 x.f1), (.int .i64 x.f2), (.slice A4 x.f3.length c4), (.slice A5 x.f4.length c5), (.slice A6 x.f5.length c6), (.slice A7 x.f6.length c7)]) (by kernel_rfl) [(.int .i64 x.f0.f0), (.int .i64 x.f0.f1), (.int .i64 x.f1), (.int .i64 x.f2), (.slice A4 x.f3.length c4), (.slice A5 x.f4.length c5), (.slice A6 x.f5.length c6), (.slice A7 x.f6.length c7)] (by kernel_rfl) (by kernel_rfl) (by kernel_rfl) (by kernel_rfl) [(.int .i64 x.f0.f0), (.int .i64 x.f0.f1), (.int .i64 x.f1), (.int .i64 x.f2), (.slice A4 x.f3.length c4), (.slice A5 x.f4.length c5), (.slice A6 x.f5.length c6), (.slice A7 x.f6.length c7)] (by kernel_rfl) ?_)
    intro w4 H4 hcw4
    refine l_nil ?_
    refine n_then ?_
    refine wp_seq ?_
    refine k_list ?_
    refine l_cons (ev_run (v := (.pointer (some (⟨g1, 6, none⟩)))) (w1 := w4) rfl rfl (by kernel_rfl) ?_)
    refine l_cons (ev_run (v := (.slice A6 x.f5.length c6)) (w1 := w4) rfl rfl (run_ld rfl (by kernel_rfl) (At.blk (H4.get 0 rfl) 6) (by kernel_rfl)) ?_)
    refine l_cons (ev_run (v := (.int .i64 (((x.f5.length : Nat) : Int)))) (w1 := w4) rfl rfl (by kernel_rfl) ?_)
    refine l_cons (ev_run (v := (.int .i64 0)) (w1 := w4) rfl rfl (by kernel_rfl) ?_)
    refine l_nil ?_
    refine n_then ?_
    refine wp_block ?_
    refine k_loop (σ := Nat × Int) (fun x_ => match x_ with | (i, b) => [(10, (.slice (some (ad)) l.length c)), (11, (.int .i64 (((l.length : Nat) : Int)))), (12, (.int .i64 (((j : Nat) : Int)))), (17, (.slice A6 x.f5.length c6)), (18, (.int .i64 (((x.f5.length : Nat) : Int)))), (19, (.int .i64 (((i : Nat) : Int)))), (3, (.int .i64 b))]) (fun x_ w' => match x_ with | (i, b) => (i ≤ x.f5.length) ∧ (b = (x.f5.take i).foldl (fun b p => max b p.f0) b0) ∧ Hp (fun _ => False) w w' []) (fun x_ => match x_ with | (i, b) => x.f5.length - i) (0, b0) ⟨(by first | rfl | kernel_rfl), (by first | rfl | kernel_rfl), (by first | rfl | kernel_rfl), (by first | rfl | kernel_rfl), (by first | rfl | kernel_rfl), (by first | rfl | kernel_rfl), (by first | rfl | kernel_rfl), trivial⟩ ⟨(by omega), rfl, H4.sel [] (by decide)⟩ ?_
    rintro L2 ⟨i, b⟩ w5 ⟨hi, hb, H5⟩
    change Code.wp _ _ _ (Fr _ _ [(10, (.slice (some (ad)) l.length c)), (11, (.int .i64 (((l.length : Nat) : Int)))), (12, (.int .i64 (((j : Nat) : Int)))), (17, (.slice A6 x.f5.length c6)), (18, (.int .i64 (((x.f5.length : Nat) : Int)))), (19, (.int .i64 (((i : Nat) : Int)))), (3, (.int .i64 b))]) _
    have m6 := C_len g6
    rcases Nat.lt_or_ge i x.f5.length with hlt2 | hge2
    · skip
      obtain ⟨ad6, rfl⟩ := C_some g6 (by omega) z45
      obtain ⟨p, Ap5, cp5, Ap6, cp6, Ap7, cp7, hp, hpA, lp5, gp5, lp6, gp6, lp7, gp7⟩ := elem45 g6 i hlt2
      refine wp_seq ?_
      refine k_list ?_
      refine l_cons (ev_eq (v := (.bool (decide ((((i : Nat) : Int) : Int) < ((x.f5.length : Nat) : Int))))) (v' := (.bool true)) (w1 := w5) rfl rfl (by kernel_rfl) (bt (by first | assumption | omega)) ?_)
      refine l_nil ?_
      refine n_then ?_
      refine wp_seq ?_
      refine k_true (by kernel_rfl) ?_
      refine wp_skip ?_
      refine n_then ?_
      refine wp_seq ?_
      refine wp_block ?_
      refine wp_seq ?_
      refine k_list ?_
      refine l_cons (ev_run (v := (.pointer (some ((ad6).add (i * 8))))) (w1 := w5) rfl rfl (run_ixa (sz := 8) (q := i) (ad := ad6) (len := x.f5.length) (cap := c6) (k := .i64) (z := ((i : Nat) : Int)) rfl (by kernel_rfl) (by kernel_rfl) rfl (by kernel_rfl) (by first | rfl | omega) (by first | omega | decide)) ?_)
      refine l_cons (ev_run (v := (.agg #[(.int .i64 p.f0), (.int .i64 p.f1.f0), (.int .i64 p.f1.f1), (.int .i64 p.f2.f0), (.int .i64 p.f2.f1), (.slice Ap5 p.f2.f2.length cp5), (.slice Ap6 p.f2.f3.length cp6), (.slice Ap7 p.f3.length cp7)])) (w1 := w5) rfl rfl (run_ld rfl (by kernel_rfl) (At.hp hpA H5 (fun h => h)) (by kernel_rfl)) ?_)
      refine l_cons (ev_new (cs := [(.int .i64 0), (.int .i64 0), (.int .i64 0), (.int .i64 0), (.int .i64 0), (.slice none 0 0), (.slice none 0 0), (.slice none 0 0)]) (t := 45) rfl rfl H5 (by kernel_rfl) ?_)
      intro g2 w6 H6 hg2 hbw6
      refine l_cons (ev_store (i := 0) rfl rfl rfl H6 (k := 0) rfl (by kernel_rfl) (.agg #[(.int .i64 p.f0), (.int .i64 p.f1.f0), (.int .i64 p.f1.f1), (.int .i64 p.f2.f0), (.int .i64 p.f2.f1), (.slice Ap5 p.f2.f2.length cp5), (.slice Ap6 p.f2.f3.length cp6), (.slice Ap7 p.f3.length cp7)]) (by kernel_rfl) [(.int .i64 p.f0), (.int .i64 p.f1.f0), (.int .i64 p.f1.f1), (.int .i64 p.f2.f0), (.int .i64 p.f2.f1), (.slice Ap5 p.f2.f2.length cp5), (.slice Ap6 p.f2.f3.length cp6), (.slice Ap7 p.f3.length cp7)] (by kernel_rfl) (by kernel_rfl) (by kernel_rfl) (by kernel_rfl) [(.int .i64 p.f0), (.int .i64 p.f1.f0), (.int .i64 p.f1.f1), (.int .i64 p.f2.f0), (.int .i64 p.f2.f1), (.slice Ap5 p.f2.f2.length cp5), (.slice Ap6 p.f2.f3.length cp6), (.slice Ap7 p.f3.length cp7)] (by kernel_rfl) ?_)
      intro w7 H7 hcw7
      refine l_nil ?_
      refine n_then ?_
      refine k_list ?_
      refine l_cons (ev_run (v := (.int .i64 b)) (w1 := w7) rfl rfl (by kernel_rfl) ?_)
      refine l_cons (ev_run (v := (.pointer (some (⟨g2, 0, none⟩)))) (w1 := w7) rfl rfl (by kernel_rfl) ?_)
      refine l_cons (ev_run (v := (.int .i64 p.f0)) (w1 := w7) rfl rfl (run_ld rfl (by kernel_rfl) (At.blk (H7.get 0 rfl) 0) (by kernel_rfl)) ?_)
      refine l_cons (ev_eq (v := (.int .i64 (if (p.f0 : Int) > b then p.f0 else b))) (v' := (.int .i64 (max (b : Int) p.f0))) (w1 := w7) rfl rfl (by kernel_rfl) (vmax _ _ _) ?_)
      refine l_cons (ev_run (v := (.int .i64 (max (b : Int) p.f0))) (w1 := w7) rfl rfl (by kernel_rfl) ?_)
      refine l_nil ?_
      refine n_in ?_
      refine n_then ?_
      refine k_list ?_
      refine l_cons (ev_eq (v := (.int .i64 (IntKind.i64.wrap (((i : Nat) : Int) + 1)))) (v' := (.int .i64 ((((i : Nat) : Int) + 1)))) (w1 := w7) rfl rfl (by kernel_rfl) (wr64 (by omega) (by omega)) ?_)
      refine l_cons (ev_run (v := (.int .i64 ((((i : Nat) : Int) + 1)))) (w1 := w7) rfl rfl (by kernel_rfl) ?_)
      refine l_nil ?_
      refine n_then ?_
      exact k_round (i + 1, max b p.f0) ⟨(by first | rfl | kernel_rfl), (by first | rfl | kernel_rfl), (by first | rfl | kernel_rfl), (by first | rfl | kernel_rfl), (by first | rfl | kernel_rfl), (by first | rfl | kernel_rfl), (by first | rfl | kernel_rfl), trivial⟩ ⟨(by omega), (by rw [foldl_take _ _ _ _ hlt2 z45, ← hp, ← hb]), H7.sel [] (by decide)⟩ (by first | omega | (simp; omega))
    · skip
      refine wp_seq ?_
      refine k_list ?_
      refine l_cons (ev_eq (v := (.bool (decide ((((i : Nat) : Int) : Int) < ((x.f5.length : Nat) : Int))))) (v' := (.bool false)) (w1 := w5) rfl rfl (by kernel_rfl) (bf (by first | assumption | omega)) ?_)
      refine l_nil ?_
      refine n_then ?_
      refine wp_seq ?_
      refine k_false (by kernel_rfl) ?_
      refine wp_exit ?_
      refine e_then ?_
      refine e_then ?_
      refine e_in ?_
      refine n_in ?_
      refine n_then ?_
      refine k_list ?_
      refine l_cons (ev_eq (v := (.int .i64 (IntKind.i64.wrap (((j : Nat) : Int) + 1)))) (v' := (.int .i64 ((((j : Nat) : Int) + 1)))) (w1 := w5) rfl rfl (by kernel_rfl) (wr64 (by omega) (by omega)) ?_)
      refine l_cons (ev_run (v := (.int .i64 ((((j : Nat) : Int) + 1)))) (w1 := w5) rfl rfl (by kernel_rfl) ?_)
      refine l_nil ?_
      refine n_then ?_
      exact k_round (j + 1, b) ⟨(by first | rfl | kernel_rfl), (by first | rfl | kernel_rfl), (by first | rfl | kernel_rfl), (by first | rfl | kernel_rfl), trivial⟩ ⟨(by omega), (by rw [foldl_take _ _ _ _ hlt z30, ← hx, ← hb0, hb, List.take_of_length_le (by omega)]), H5⟩ (by first | omega | (simp; omega))
  · skip
    refine wp_seq ?_
    refine k_list ?_
    refine l_cons (ev_eq (v := (.bool (decide ((((j : Nat) : Int) : Int) < ((l.length : Nat) : Int))))) (v' := (.bool false)) (w1 := w2) rfl rfl (by kernel_rfl) (bf (by first | assumption | omega)) ?_)
    refine l_nil ?_
    refine n_then ?_
    refine wp_seq ?_
    refine k_false (by kernel_rfl) ?_
    refine wp_exit ?_
    refine e_then ?_
    refine e_then ?_
    refine e_in ?_
    refine n_then ?_
    refine wp_seq ?_
    refine k_list ?_
    refine l_cons (ev_run (v := (.int .i64 b0)) (w1 := w2) rfl rfl (by kernel_rfl) ?_)
    refine l_cons (ev_run (v := (.int .i64 b0)) (w1 := w2) rfl rfl (by kernel_rfl) ?_)
    refine l_nil ?_
    refine n_then ?_
    refine wp_ret ?_
    refine b_ret (v := (.int .i64 b0)) (resS rfl (.tmp (by kernel_rfl) .nil)) ?_
    exact ⟨(by rw [hb0, List.take_of_length_le (show l.length ≤ j from hge)]; rfl), H2.to_below⟩

set_option maxHeartbeats 1000000 in
theorem catenaryref18_Low_c (A : Option Addr) (c : Nat) (l : List S30) (w : World) (hC : Kd.C k30 w A l.length l) :
    Calls Try.prog 8 #[.slice A l.length c] w fun e w' => e = .returned (.int .i64 (lowOf l)) ∧ Below w.heap.size w w' := by
  have H := Hp.start (fun _ => False) w
  have hlen := C_len hC
  refine k_enter (args := [(.slice A l.length c)]) Try.func8 rfl Try.ntmps8 (Nat.le_of_ble_eq_true rfl) ?_
  refine wp_seq ?_
  refine k_list ?_
  refine l_cons (ev_run (v := (.int .i64 0)) (w1 := w) rfl rfl (by kernel_rfl) ?_)
  refine l_nil ?_
  refine n_then ?_
  refine wp_seq ?_
  refine k_list ?_
  refine l_cons (ev_run (v := (.int .i64 0)) (w1 := w) rfl rfl (by kernel_rfl) ?_)
  refine l_nil ?_
  refine n_then ?_
  refine wp_seq ?_
  refine wp_seq ?_
  refine k_list ?_
  refine l_cons (ev_run (v := (.slice A l.length c)) (w1 := w) rfl rfl (by kernel_rfl) ?_)
  refine l_cons (ev_run (v := (.int .i64 (((l.length : Nat) : Int)))) (w1 := w) rfl rfl (by kernel_rfl) ?_)
  refine l_cons (ev_run (v := (.int .i64 0)) (w1 := w) rfl rfl (by kernel_rfl) ?_)
  refine l_nil ?_
  refine n_then ?_
  refine wp_block ?_
  refine k_loop (σ := Nat × Int) (fun x_ => match x_ with | (j, b) => [(6, (.slice A l.length c)), (7, (.int .i64 (((l.length : Nat) : Int)))), (8, (.int .i64 (((j : Nat) : Int)))), (3, (.int .i64 b))]) (fun x_ w' => match x_ with | (j, b) => (j ≤ l.length) ∧ (b = (l.take j).foldl (fun b r => max b r.f2) 0) ∧ Hp (fun _ => False) w w' []) (fun x_ => match x_ with | (j, b) => l.length - j) (0, 0) ⟨(by first | rfl | kernel_rfl), (by first | rfl | kernel_rfl), (by first | rfl | kernel_rfl), (by first | rfl | kernel_rfl), trivial⟩ ⟨(by omega), rfl, H⟩ ?_
  rintro L1 ⟨j, b⟩ w1 ⟨hj, hb, H1⟩
  change Code.wp _ _ _ (Fr _ _ [(6, (.slice A l.length c)), (7, (.int .i64 (((l.length : Nat) : Int)))), (8, (.int .i64 (((j : Nat) : Int)))), (3, (.int .i64 b))]) _
  rcases Nat.lt_or_ge j l.length with hlt | hge
  · skip
    obtain ⟨ad, rfl⟩ := C_some hC (by omega) z30
    obtain ⟨x, A4, c4, A5, c5, A6, c6, A7, c7, hx, hxA, l4, g4, l5, g5, l6, g6, l7, g7⟩ := elem30 hC j hlt
    refine wp_seq ?_
    refine k_list ?_
    refine l_cons (ev_eq (v := (.bool (decide ((((j : Nat) : Int) : Int) < ((l.length : Nat) : Int))))) (v' := (.bool true)) (w1 := w1) rfl rfl (by kernel_rfl) (bt (by first | assumption | omega)) ?_)
    refine l_nil ?_
    refine n_then ?_
    refine wp_seq ?_
    refine k_true (by kernel_rfl) ?_
    refine wp_skip ?_
    refine n_then ?_
    refine wp_seq ?_
    refine wp_block ?_
    refine wp_seq ?_
    refine k_list ?_
    refine l_cons (ev_run (v := (.pointer (some ((ad).add (j * 8))))) (w1 := w1) rfl rfl (run_ixa (sz := 8) (q := j) (ad := ad) (len := l.length) (cap := c) (k := .i64) (z := ((j : Nat) : Int)) rfl (by kernel_rfl) (by kernel_rfl) rfl (by kernel_rfl) (by first | rfl | omega) (by first | omega | decide)) ?_)
    refine l_cons (ev_run (v := (.agg #[(.int .i64 x.f0.f0), (.int .i64 x.f0.f1), (.int .i64 x.f1), (.int .i64 x.f2), (.slice A4 x.f3.length c4), (.slice A5 x.f4.length c5), (.slice A6 x.f5.length c6), (.slice A7 x.f6.length c7)])) (w1 := w1) rfl rfl (run_ld rfl (by kernel_rfl) (At.hp hxA H1 (fun h => h)) (by kernel_rfl)) ?_)
    refine l_cons (ev_new (cs := [(.int .i64 0), (.int .i64 0), (.int .i64 0), (.int .i64 0), (.slice none 0 0), (.slice none 0 0), (.slice none 0 0), (.slice none 0 0)]) (t := 30) rfl rfl H1 (by kernel_rfl) ?_)
    intro g1 w2 H2 hg1 hbw2
    refine l_cons (ev_store (i := 0) rfl rfl rfl H2 (k := 0) rfl (by kernel_rfl) (.agg #[(.int .i64 x.f0.f0), (.int .i64 x.f0.f1), (.int .i64 x.f1), (.int .i64 x.f2), (.slice A4 x.f3.length c4), (.slice A5 x.f4.length c5), (.slice A6 x.f5.length c6), (.slice A7 x.f6.length c7)]) (by kernel_rfl) [(.int .i64 x.f0.f0), (.int .i64 x.f0.f1), (.int .i64 x.f1), (.int .i64 x.f2), (.slice A4 x.f3.length c4), (.slice A5 x.f4.length c5), (.slice A6 x.f5.length c6), (.slice A7 x.f6.length c7)] (by kernel_rfl) (by kernel_rfl) (by kernel_rfl) (by kernel_rfl) [(.int .i64 x.f0.f0), (.int .i64 x.f0.f1), (.int .i64 x.f1), (.int .i64 x.f2), (.slice A4 x.f3.length c4), (.slice A5 x.f4.length c5), (.slice A6 x.f5.length c6), (.slice A7 x.f6.length c7)] (by kernel_rfl) ?_)
    intro w3 H3 hcw3
    refine l_nil ?_
    refine n_then ?_
    refine wp_seq ?_
    refine k_list ?_
    refine l_cons (ev_run (v := (.pointer (some (⟨g1, 3, none⟩)))) (w1 := w3) rfl rfl (by kernel_rfl) ?_)
    refine l_cons (ev_run (v := (.int .i64 x.f2)) (w1 := w3) rfl rfl (run_ld rfl (by kernel_rfl) (At.blk (H3.get 0 rfl) 3) (by kernel_rfl)) ?_)
    refine l_cons (ev_run (v := (.int .i64 b)) (w1 := w3) rfl rfl (by kernel_rfl) ?_)
    by_cases hc1 : (x.f2 : Int) > b
    · skip
      refine l_cons (ev_eq (v := (.bool (decide ((x.f2 : Int) > b)))) (v' := (.bool true)) (w1 := w3) rfl rfl (by kernel_rfl) (bt (by first | assumption | omega)) ?_)
      refine l_nil ?_
      refine n_then ?_
      refine k_true (by kernel_rfl) ?_
      refine k_list ?_
      refine l_cons (ev_run (v := (.pointer (some (⟨g1, 3, none⟩)))) (w1 := w3) rfl rfl (by kernel_rfl) ?_)
      refine l_cons (ev_run (v := (.int .i64 x.f2)) (w1 := w3) rfl rfl (run_ld rfl (by kernel_rfl) (At.blk (H3.get 0 rfl) 3) (by kernel_rfl)) ?_)
      refine l_cons (ev_run (v := (.int .i64 x.f2)) (w1 := w3) rfl rfl (by kernel_rfl) ?_)
      refine l_nil ?_
      refine n_in ?_
      refine n_then ?_
      refine k_list ?_
      refine l_cons (ev_eq (v := (.int .i64 (IntKind.i64.wrap (((j : Nat) : Int) + 1)))) (v' := (.int .i64 ((((j : Nat) : Int) + 1)))) (w1 := w3) rfl rfl (by kernel_rfl) (wr64 (by omega) (by omega)) ?_)
      refine l_cons (ev_run (v := (.int .i64 ((((j : Nat) : Int) + 1)))) (w1 := w3) rfl rfl (by kernel_rfl) ?_)
      refine l_nil ?_
      refine n_then ?_
      exact k_round (j + 1, x.f2) ⟨(by first | rfl | kernel_rfl), (by first | rfl | kernel_rfl), (by first | rfl | kernel_rfl), (by first | rfl | kernel_rfl), trivial⟩ ⟨(by omega), (by rw [foldl_take _ _ _ _ hlt z30, ← hx, ← hb]; exact max_t (by assumption)), H3.sel [] (by decide)⟩ (by first | omega | (simp; omega))
    · skip
      refine l_cons (ev_eq (v := (.bool (decide ((x.f2 : Int) > b)))) (v' := (.bool false)) (w1 := w3) rfl rfl (by kernel_rfl) (bf (by first | assumption | omega)) ?_)
      refine l_nil ?_
      refine n_then ?_
      refine k_false (by kernel_rfl) ?_
      refine wp_skip ?_
      refine n_in ?_
      refine n_then ?_
      refine k_list ?_
      refine l_cons (ev_eq (v := (.int .i64 (IntKind.i64.wrap (((j : Nat) : Int) + 1)))) (v' := (.int .i64 ((((j : Nat) : Int) + 1)))) (w1 := w3) rfl rfl (by kernel_rfl) (wr64 (by omega) (by omega)) ?_)
      refine l_cons (ev_run (v := (.int .i64 ((((j : Nat) : Int) + 1)))) (w1 := w3) rfl rfl (by kernel_rfl) ?_)
      refine l_nil ?_
      refine n_then ?_
      exact k_round (j + 1, b) ⟨(by first | rfl | kernel_rfl), (by first | rfl | kernel_rfl), (by first | rfl | kernel_rfl), (by first | rfl | kernel_rfl), trivial⟩ ⟨(by omega), (by rw [foldl_take _ _ _ _ hlt z30, ← hx, ← hb]; exact max_f (by assumption)), H3.sel [] (by decide)⟩ (by first | omega | (simp; omega))
  · skip
    refine wp_seq ?_
    refine k_list ?_
    refine l_cons (ev_eq (v := (.bool (decide ((((j : Nat) : Int) : Int) < ((l.length : Nat) : Int))))) (v' := (.bool false)) (w1 := w1) rfl rfl (by kernel_rfl) (bf (by first | assumption | omega)) ?_)
    refine l_nil ?_
    refine n_then ?_
    refine wp_seq ?_
    refine k_false (by kernel_rfl) ?_
    refine wp_exit ?_
    refine e_then ?_
    refine e_then ?_
    refine e_in ?_
    refine n_then ?_
    refine wp_seq ?_
    refine k_list ?_
    refine l_cons (ev_run (v := (.int .i64 b)) (w1 := w1) rfl rfl (by kernel_rfl) ?_)
    refine l_cons (ev_run (v := (.int .i64 b)) (w1 := w1) rfl rfl (by kernel_rfl) ?_)
    refine l_nil ?_
    refine n_then ?_
    refine wp_ret ?_
    refine b_ret (v := (.int .i64 b)) (resS rfl (.tmp (by kernel_rfl) .nil)) ?_
    exact ⟨(by rw [lowOf, ← List.take_of_length_le hge, ← hb]), H1.to_below⟩

set_option maxHeartbeats 1000000 in
theorem catenaryref18_High_c (A : Option Addr) (c : Nat) (l : List S30) (w : World) (hC : Kd.C k30 w A l.length l) :
    Calls Try.prog 10 #[.slice A l.length c] w fun e w' => e = .returned (.int .i64 (highOf l)) ∧ Below w.heap.size w w' := by
  have H := Hp.start (fun _ => False) w
  have hlen := C_len hC
  refine k_enter (args := [(.slice A l.length c)]) Try.func10 rfl Try.ntmps10 (Nat.le_of_ble_eq_true rfl) ?_
  refine wp_seq ?_
  refine k_list ?_
  refine l_cons (ev_run (v := (.int .i64 0)) (w1 := w) rfl rfl (by kernel_rfl) ?_)
  refine l_nil ?_
  refine n_then ?_
  refine wp_seq ?_
  refine k_list ?_
  refine l_cons (ev_run (v := (.slice A l.length c)) (w1 := w) rfl rfl (by kernel_rfl) ?_)
  refine l_cons (ev_call rfl rfl (f := 8) (args := #[(.slice A l.length c)]) (by kernel_rfl) (catenaryref18_Low_c A c l _ (C_to hC H)) ?_)
  rintro e w1 ⟨rfl, hb_⟩
  refine ⟨_, rfl, ?_⟩
  have H1 := H.below hb_
  refine l_cons (ev_run (v := (.int .i64 (lowOf l))) (w1 := w1) rfl rfl (by kernel_rfl) ?_)
  refine l_nil ?_
  refine n_then ?_
  refine wp_seq ?_
  refine wp_seq ?_
  refine k_list ?_
  refine l_cons (ev_run (v := (.slice A l.length c)) (w1 := w1) rfl rfl (by kernel_rfl) ?_)
  refine l_cons (ev_run (v := (.int .i64 (((l.length : Nat) : Int)))) (w1 := w1) rfl rfl (by kernel_rfl) ?_)
  refine l_cons (ev_run (v := (.int .i64 0)) (w1 := w1) rfl rfl (by kernel_rfl) ?_)
  refine l_nil ?_
  refine n_then ?_
  refine wp_block ?_
  refine k_loop (σ := Nat × Int) (fun x_ => match x_ with | (j, b0) => [(10, (.slice A l.length c)), (11, (.int .i64 (((l.length : Nat) : Int)))), (12, (.int .i64 (((j : Nat) : Int)))), (3, (.int .i64 b0))]) (fun x_ w' => match x_ with | (j, b0) => (j ≤ l.length) ∧ (b0 = (l.take j).foldl (fun b r => r.f5.foldl (fun b p => max b p.f0) b) (lowOf l)) ∧ Hp (fun _ => False) w w' []) (fun x_ => match x_ with | (j, b0) => l.length - j) (0, lowOf l) ⟨(by first | rfl | kernel_rfl), (by first | rfl | kernel_rfl), (by first | rfl | kernel_rfl), (by first | rfl | kernel_rfl), trivial⟩ ⟨(by omega), rfl, H1⟩ ?_
  rintro L1 ⟨j, b0⟩ w2 ⟨hj, hb0, H2⟩
  change Code.wp _ _ _ (Fr _ _ [(10, (.slice A l.length c)), (11, (.int .i64 (((l.length : Nat) : Int)))), (12, (.int .i64 (((j : Nat) : Int)))), (3, (.int .i64 b0))]) _
  rcases Nat.lt_or_ge j l.length with hlt | hge
  · skip
    obtain ⟨ad, rfl⟩ := C_some hC (by omega) z30
    obtain ⟨x, A4, c4, A5, c5, A6, c6, A7, c7, hx, hxA, l4, g4, l5, g5, l6, g6, l7, g7⟩ := elem30 hC j hlt
    refine wp_seq ?_
    refine k_list ?_
    refine l_cons (ev_eq (v := (.bool (decide ((((j : Nat) : Int) : Int) < ((l.length : Nat) : Int))))) (v' := (.bool true)) (w1 := w2) rfl rfl (by kernel_rfl) (bt (by first | assumption | omega)) ?_)
    refine l_nil ?_
    refine n_then ?_
    refine wp_seq ?_
    refine k_true (by kernel_rfl) ?_
    refine wp_skip ?_
    refine n_then ?_
    refine wp_seq ?_
    refine wp_block ?_
    refine wp_seq ?_
    refine k_list ?_
    refine l_cons (ev_run (v := (.pointer (some ((ad).add (j * 8))))) (w1 := w2) rfl rfl (run_ixa (sz := 8) (q := j) (ad := ad) (len := l.length) (cap := c) (k := .i64) (z := ((j : Nat) : Int)) rfl (by kernel_rfl) (by kernel_rfl) rfl (by kernel_rfl) (by first | rfl | omega) (by first | omega | decide)) ?_)
    refine l_cons (ev_run (v := (.agg #[(.int .i64 x.f0.f0), (.int .i64 x.f0.f1), (.int .i64 x.f1), (.int .i64 x.f2), (.slice A4 x.f3.length c4), (.slice A5 x.f4.length c5), (.slice A6 x.f5.length c6), (.slice A7 x.f6.length c7)])) (w1 := w2) rfl rfl (run_ld rfl (by kernel_rfl) (At.hp hxA H2 (fun h => h)) (by kernel_rfl)) ?_)
    refine l_cons (ev_new (cs := [(.int .i64 0), (.int .i64 0), (.int .i64 0), (.int .i64 0), (.slice none 0 0), (.slice none 0 0), (.slice none 0 0), (.slice none 0 0)]) (t := 30) rfl rfl H2 (by kernel_rfl) ?_)
    intro g1 w3 H3 hg1 hbw3
    refine l_cons (ev_store (i := 0) rfl rfl rfl H3 (k := 0) rfl (by kernel_rfl) (.agg #[(.int .i64 x.f0.f0), (.int .i64 x.f0.f1), (.int .i64 x.f1), (.int .i64 x.f2), (.slice A4 x.f3.length c4), (.slice A5 x.f4.length c5), (.slice A6 x.f5.length c6), (.slice A7 x.f6.length c7)]) (by kernel_rfl) [(.int .i64 x.f0.f0), (.int .i64 x.f0.f1), (.int .i64 x.f1), (.int .i64 x.f2), (.slice A4 x.f3.length c4), (.slice A5 x.f4.length c5), (.slice A6 x.f5.length c6), (.slice A7 x.f6.length c7)] (by kernel_rfl) (by kernel_rfl) (by kernel_rfl) (by kernel_rfl) [(.int .i64 x.f0.f0), (.int .i64 x.f0.f1), (.int .i64 x.f1), (.int .i64 x.f2), (.slice A4 x.f3.length c4), (.slice A5 x.f4.length c5), (.slice A6 x.f5.length c6), (.slice A7 x.f6.length c7)] (by kernel_rfl) ?_)
    intro w4 H4 hcw4
    refine l_nil ?_
    refine n_then ?_
    refine wp_seq ?_
    refine k_list ?_
    refine l_cons (ev_run (v := (.pointer (some (⟨g1, 6, none⟩)))) (w1 := w4) rfl rfl (by kernel_rfl) ?_)
    refine l_cons (ev_run (v := (.slice A6 x.f5.length c6)) (w1 := w4) rfl rfl (run_ld rfl (by kernel_rfl) (At.blk (H4.get 0 rfl) 6) (by kernel_rfl)) ?_)
    refine l_cons (ev_run (v := (.int .i64 (((x.f5.length : Nat) : Int)))) (w1 := w4) rfl rfl (by kernel_rfl) ?_)
    refine l_cons (ev_run (v := (.int .i64 0)) (w1 := w4) rfl rfl (by kernel_rfl) ?_)
    refine l_nil ?_
    refine n_then ?_
    refine wp_block ?_
    refine k_loop (σ := Nat × Int) (fun x_ => match x_ with | (i, b) => [(10, (.slice (some (ad)) l.length c)), (11, (.int .i64 (((l.length : Nat) : Int)))), (12, (.int .i64 (((j : Nat) : Int)))), (17, (.slice A6 x.f5.length c6)), (18, (.int .i64 (((x.f5.length : Nat) : Int)))), (19, (.int .i64 (((i : Nat) : Int)))), (3, (.int .i64 b))]) (fun x_ w' => match x_ with | (i, b) => (i ≤ x.f5.length) ∧ (b = (x.f5.take i).foldl (fun b p => max b p.f0) b0) ∧ Hp (fun _ => False) w w' []) (fun x_ => match x_ with | (i, b) => x.f5.length - i) (0, b0) ⟨(by first | rfl | kernel_rfl), (by first | rfl | kernel_rfl), (by first | rfl | kernel_rfl), (by first | rfl | kernel_rfl), (by first | rfl | kernel_rfl), (by first | rfl | kernel_rfl), (by first | rfl | kernel_rfl), trivial⟩ ⟨(by omega), rfl, H4.sel [] (by decide)⟩ ?_
    rintro L2 ⟨i, b⟩ w5 ⟨hi, hb, H5⟩
    change Code.wp _ _ _ (Fr _ _ [(10, (.slice (some (ad)) l.length c)), (11, (.int .i64 (((l.length : Nat) : Int)))), (12, (.int .i64 (((j : Nat) : Int)))), (17, (.slice A6 x.f5.length c6)), (18, (.int .i64 (((x.f5.length : Nat) : Int)))), (19, (.int .i64 (((i : Nat) : Int)))), (3, (.int .i64 b))]) _
    have m6 := C_len g6
    rcases Nat.lt_or_ge i x.f5.length with hlt2 | hge2
    · skip
      obtain ⟨ad6, rfl⟩ := C_some g6 (by omega) z45
      obtain ⟨p, Ap5, cp5, Ap6, cp6, Ap7, cp7, hp, hpA, lp5, gp5, lp6, gp6, lp7, gp7⟩ := elem45 g6 i hlt2
      refine wp_seq ?_
      refine k_list ?_
      refine l_cons (ev_eq (v := (.bool (decide ((((i : Nat) : Int) : Int) < ((x.f5.length : Nat) : Int))))) (v' := (.bool true)) (w1 := w5) rfl rfl (by kernel_rfl) (bt (by first | assumption | omega)) ?_)
      refine l_nil ?_
      refine n_then ?_
      refine wp_seq ?_
      refine k_true (by kernel_rfl) ?_
      refine wp_skip ?_
      refine n_then ?_
      refine wp_seq ?_
      refine wp_block ?_
      refine wp_seq ?_
      refine k_list ?_
      refine l_cons (ev_run (v := (.pointer (some ((ad6).add (i * 8))))) (w1 := w5) rfl rfl (run_ixa (sz := 8) (q := i) (ad := ad6) (len := x.f5.length) (cap := c6) (k := .i64) (z := ((i : Nat) : Int)) rfl (by kernel_rfl) (by kernel_rfl) rfl (by kernel_rfl) (by first | rfl | omega) (by first | omega | decide)) ?_)
      refine l_cons (ev_run (v := (.agg #[(.int .i64 p.f0), (.int .i64 p.f1.f0), (.int .i64 p.f1.f1), (.int .i64 p.f2.f0), (.int .i64 p.f2.f1), (.slice Ap5 p.f2.f2.length cp5), (.slice Ap6 p.f2.f3.length cp6), (.slice Ap7 p.f3.length cp7)])) (w1 := w5) rfl rfl (run_ld rfl (by kernel_rfl) (At.hp hpA H5 (fun h => h)) (by kernel_rfl)) ?_)
      refine l_cons (ev_new (cs := [(.int .i64 0), (.int .i64 0), (.int .i64 0), (.int .i64 0), (.int .i64 0), (.slice none 0 0), (.slice none 0 0), (.slice none 0 0)]) (t := 45) rfl rfl H5 (by kernel_rfl) ?_)
      intro g2 w6 H6 hg2 hbw6
      refine l_cons (ev_store (i := 0) rfl rfl rfl H6 (k := 0) rfl (by kernel_rfl) (.agg #[(.int .i64 p.f0), (.int .i64 p.f1.f0), (.int .i64 p.f1.f1), (.int .i64 p.f2.f0), (.int .i64 p.f2.f1), (.slice Ap5 p.f2.f2.length cp5), (.slice Ap6 p.f2.f3.length cp6), (.slice Ap7 p.f3.length cp7)]) (by kernel_rfl) [(.int .i64 p.f0), (.int .i64 p.f1.f0), (.int .i64 p.f1.f1), (.int .i64 p.f2.f0), (.int .i64 p.f2.f1), (.slice Ap5 p.f2.f2.length cp5), (.slice Ap6 p.f2.f3.length cp6), (.slice Ap7 p.f3.length cp7)] (by kernel_rfl) (by kernel_rfl) (by kernel_rfl) (by kernel_rfl) [(.int .i64 p.f0), (.int .i64 p.f1.f0), (.int .i64 p.f1.f1), (.int .i64 p.f2.f0), (.int .i64 p.f2.f1), (.slice Ap5 p.f2.f2.length cp5), (.slice Ap6 p.f2.f3.length cp6), (.slice Ap7 p.f3.length cp7)] (by kernel_rfl) ?_)
      intro w7 H7 hcw7
      refine l_nil ?_
      refine n_then ?_
      refine wp_seq ?_
      refine k_list ?_
      refine l_cons (ev_run (v := (.pointer (some (⟨g2, 0, none⟩)))) (w1 := w7) rfl rfl (by kernel_rfl) ?_)
      refine l_cons (ev_run (v := (.int .i64 p.f0)) (w1 := w7) rfl rfl (run_ld rfl (by kernel_rfl) (At.blk (H7.get 0 rfl) 0) (by kernel_rfl)) ?_)
      refine l_cons (ev_run (v := (.int .i64 b)) (w1 := w7) rfl rfl (by kernel_rfl) ?_)
      by_cases hc1 : (p.f0 : Int) > b
      · skip
        refine l_cons (ev_eq (v := (.bool (decide ((p.f0 : Int) > b)))) (v' := (.bool true)) (w1 := w7) rfl rfl (by kernel_rfl) (bt (by first | assumption | omega)) ?_)
        refine l_nil ?_
        refine n_then ?_
        refine k_true (by kernel_rfl) ?_
        refine k_list ?_
        refine l_cons (ev_run (v := (.pointer (some (⟨g2, 0, none⟩)))) (w1 := w7) rfl rfl (by kernel_rfl) ?_)
        refine l_cons (ev_run (v := (.int .i64 p.f0)) (w1 := w7) rfl rfl (run_ld rfl (by kernel_rfl) (At.blk (H7.get 0 rfl) 0) (by kernel_rfl)) ?_)
        refine l_cons (ev_run (v := (.int .i64 p.f0)) (w1 := w7) rfl rfl (by kernel_rfl) ?_)
        refine l_nil ?_
        refine n_in ?_
        refine n_then ?_
        refine k_list ?_
        refine l_cons (ev_eq (v := (.int .i64 (IntKind.i64.wrap (((i : Nat) : Int) + 1)))) (v' := (.int .i64 ((((i : Nat) : Int) + 1)))) (w1 := w7) rfl rfl (by kernel_rfl) (wr64 (by omega) (by omega)) ?_)
        refine l_cons (ev_run (v := (.int .i64 ((((i : Nat) : Int) + 1)))) (w1 := w7) rfl rfl (by kernel_rfl) ?_)
        refine l_nil ?_
        refine n_then ?_
        exact k_round (i + 1, p.f0) ⟨(by first | rfl | kernel_rfl), (by first | rfl | kernel_rfl), (by first | rfl | kernel_rfl), (by first | rfl | kernel_rfl), (by first | rfl | kernel_rfl), (by first | rfl | kernel_rfl), (by first | rfl | kernel_rfl), trivial⟩ ⟨(by omega), (by rw [foldl_take _ _ _ _ hlt2 z45, ← hp, ← hb]; exact max_t (by assumption)), H7.sel [] (by decide)⟩ (by first | omega | (simp; omega))
      · skip
        refine l_cons (ev_eq (v := (.bool (decide ((p.f0 : Int) > b)))) (v' := (.bool false)) (w1 := w7) rfl rfl (by kernel_rfl) (bf (by first | assumption | omega)) ?_)
        refine l_nil ?_
        refine n_then ?_
        refine k_false (by kernel_rfl) ?_
        refine wp_skip ?_
        refine n_in ?_
        refine n_then ?_
        refine k_list ?_
        refine l_cons (ev_eq (v := (.int .i64 (IntKind.i64.wrap (((i : Nat) : Int) + 1)))) (v' := (.int .i64 ((((i : Nat) : Int) + 1)))) (w1 := w7) rfl rfl (by kernel_rfl) (wr64 (by omega) (by omega)) ?_)
        refine l_cons (ev_run (v := (.int .i64 ((((i : Nat) : Int) + 1)))) (w1 := w7) rfl rfl (by kernel_rfl) ?_)
        refine l_nil ?_
        refine n_then ?_
        exact k_round (i + 1, b) ⟨(by first | rfl | kernel_rfl), (by first | rfl | kernel_rfl), (by first | rfl | kernel_rfl), (by first | rfl | kernel_rfl), (by first | rfl | kernel_rfl), (by first | rfl | kernel_rfl), (by first | rfl | kernel_rfl), trivial⟩ ⟨(by omega), (by rw [foldl_take _ _ _ _ hlt2 z45, ← hp, ← hb]; exact max_f (by assumption)), H7.sel [] (by decide)⟩ (by first | omega | (simp; omega))
    · skip
      refine wp_seq ?_
      refine k_list ?_
      refine l_cons (ev_eq (v := (.bool (decide ((((i : Nat) : Int) : Int) < ((x.f5.length : Nat) : Int))))) (v' := (.bool false)) (w1 := w5) rfl rfl (by kernel_rfl) (bf (by first | assumption | omega)) ?_)
      refine l_nil ?_
      refine n_then ?_
      refine wp_seq ?_
      refine k_false (by kernel_rfl) ?_
      refine wp_exit ?_
      refine e_then ?_
      refine e_then ?_
      refine e_in ?_
      refine n_in ?_
      refine n_then ?_
      refine k_list ?_
      refine l_cons (ev_eq (v := (.int .i64 (IntKind.i64.wrap (((j : Nat) : Int) + 1)))) (v' := (.int .i64 ((((j : Nat) : Int) + 1)))) (w1 := w5) rfl rfl (by kernel_rfl) (wr64 (by omega) (by omega)) ?_)
      refine l_cons (ev_run (v := (.int .i64 ((((j : Nat) : Int) + 1)))) (w1 := w5) rfl rfl (by kernel_rfl) ?_)
      refine l_nil ?_
      refine n_then ?_
      exact k_round (j + 1, b) ⟨(by first | rfl | kernel_rfl), (by first | rfl | kernel_rfl), (by first | rfl | kernel_rfl), (by first | rfl | kernel_rfl), trivial⟩ ⟨(by omega), (by rw [foldl_take _ _ _ _ hlt z30, ← hx, ← hb0, hb, List.take_of_length_le (by omega)]), H5⟩ (by first | omega | (simp; omega))
  · skip
    refine wp_seq ?_
    refine k_list ?_
    refine l_cons (ev_eq (v := (.bool (decide ((((j : Nat) : Int) : Int) < ((l.length : Nat) : Int))))) (v' := (.bool false)) (w1 := w2) rfl rfl (by kernel_rfl) (bf (by first | assumption | omega)) ?_)
    refine l_nil ?_
    refine n_then ?_
    refine wp_seq ?_
    refine k_false (by kernel_rfl) ?_
    refine wp_exit ?_
    refine e_then ?_
    refine e_then ?_
    refine e_in ?_
    refine n_then ?_
    refine wp_seq ?_
    refine k_list ?_
    refine l_cons (ev_run (v := (.int .i64 b0)) (w1 := w2) rfl rfl (by kernel_rfl) ?_)
    refine l_cons (ev_run (v := (.int .i64 b0)) (w1 := w2) rfl rfl (by kernel_rfl) ?_)
    refine l_nil ?_
    refine n_then ?_
    refine wp_ret ?_
    refine b_ret (v := (.int .i64 b0)) (resS rfl (.tmp (by kernel_rfl) .nil)) ?_
    exact ⟨(by rw [hb0, List.take_of_length_le (show l.length ≤ j from hge)]; rfl), H2.to_below⟩
end Go.Proofs.Ytpnelfefchdhcaa
