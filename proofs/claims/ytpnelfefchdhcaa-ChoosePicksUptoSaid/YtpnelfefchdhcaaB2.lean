/- choose.best: a pointer to the prep of the highest ballot, or none. -/
import Derived.Test.YtpnelfefchdhcaaB1
namespace Go.Proofs.Ytpnelfefchdhcaa
open Go.RowKit Go.Proofs.YtpnelfefchdhcaaW.PrintWords Go.Proofs.YtpnelfefchdhcaaW.PrintLast Go.Proofs.YtpnelfefchdhcaaW.PrintMore
open Go.Proofs.Ytpnelfefchdhcaa.PChoosePicks
set_option linter.unusedVariables false
set_option linter.unusedSimpArgs false
set_option maxRecDepth 100000

/-- v leads, in W, to b. -/
def PtrTo (W : World) : Option Addr → Option S45 → Prop
  | none, none => True
  | some ad, some p => ∃ A5 c5 A6 c6 A7 c7, At W ad [(.int .i64 p.f0), (.int .i64 p.f1.f0), (.int .i64 p.f1.f1), (.int .i64 p.f2.f0), (.int .i64 p.f2.f1), (.slice A5 p.f2.f2.length c5), (.slice A6 p.f2.f3.length c6), (.slice A7 p.f3.length c7)] ∧ p.f2.f2.length ≤ c5 ∧ Kd.C (Kd.int .u8) W A5 p.f2.f2.length p.f2.f2 ∧ p.f2.f3.length ≤ c6 ∧ Kd.C (Kd.int .u8) W A6 p.f2.f3.length p.f2.f3 ∧ p.f3.length ≤ c7 ∧ Kd.C k57 W A7 p.f3.length p.f3
  | _, _ => False
theorem ptr_none {W : World} {b : Option S45} (h : PtrTo W none b) : b = none := by cases b with | none => rfl | some p => exact h.elim
theorem ptr_some {W : World} {q : Addr} {b : Option S45} (h : PtrTo W (some q) b) : ∃ p A5 c5 A6 c6 A7 c7, b = some p ∧ At W q [(.int .i64 p.f0), (.int .i64 p.f1.f0), (.int .i64 p.f1.f1), (.int .i64 p.f2.f0), (.int .i64 p.f2.f1), (.slice A5 p.f2.f2.length c5), (.slice A6 p.f2.f3.length c6), (.slice A7 p.f3.length c7)] ∧ p.f2.f2.length ≤ c5 ∧ Kd.C (Kd.int .u8) W A5 p.f2.f2.length p.f2.f2 ∧ p.f2.f3.length ≤ c6 ∧ Kd.C (Kd.int .u8) W A6 p.f2.f3.length p.f2.f3 ∧ p.f3.length ≤ c7 ∧ Kd.C k57 W A7 p.f3.length p.f3 := by
  cases b with
  | none => exact h.elim
  | some p => obtain ⟨A5, c5, A6, c6, A7, c7, h⟩ := h; exact ⟨p, A5, c5, A6, c6, A7, c7, rfl, h⟩
theorem cases3 (i n : Nat) (v : Option Addr) : (i < n ∧ v = none) ∨ (i < n ∧ ∃ q, v = some q) ∨ n ≤ i := by
  rcases Nat.lt_or_ge i n with h | h
  · cases v with
    | none => exact .inl ⟨h, rfl⟩
    | some q => exact .inr (.inl ⟨h, q, rfl⟩)
  · exact .inr (.inr h)
theorem betr_f {slot : Int} {b : Option S45} {p : S45} (h : ¬ p.f0 = slot) : b = betr slot b p := by simp [betr, h]
theorem betr_nt {slot : Int} {p : S45} (h : p.f0 = slot) : some p = betr slot none p := by simp [betr, h]
theorem betr_st {slot : Int} {p q : S45} (h : p.f0 = slot) (h2 : cmpB p.f1 q.f1 > 0) : some p = betr slot (some q) p := by simp [betr, h, h2]
theorem betr_sf {slot : Int} {p q : S45} (h2 : ¬ cmpB p.f1 q.f1 > 0) : some q = betr slot (some q) p := by
  unfold betr
  rw [if_neg]
  rintro ⟨_, h⟩
  exact h2 (h q rfl)

set_option maxHeartbeats 1000000 in
theorem best_calls (slot : Int) (A : Option Addr) (c : Nat) (l : List S30) (w0 w : World) (hC : Kd.C k30 w0 A l.length l) (hw0 : Below w0.heap.size w0 w) :
    Calls Try.prog 21 #[.int .i64 slot, .slice A l.length c] w fun e w' => ∃ v, e = .returned (.pointer v) ∧ PtrTo w0 v (bestIn slot l) ∧ Below w.heap.size w w' := by
  have H := Hp.start (fun _ => False) w
  have hlen := C_len hC
  refine k_enter (args := [(.int .i64 slot), (.slice A l.length c)]) Try.func21 rfl Try.ntmps21 (Nat.le_of_ble_eq_true rfl) ?_
  refine wp_seq ?_
  refine k_list ?_
  refine l_cons (ev_run (v := (.pointer none)) (w1 := w) rfl rfl (by kernel_rfl) ?_)
  refine l_nil ?_
  refine n_then ?_
  refine wp_seq ?_
  refine k_list ?_
  refine l_cons (ev_run (v := (.pointer none)) (w1 := w) rfl rfl (by kernel_rfl) ?_)
  refine l_nil ?_
  refine n_then ?_
  refine wp_seq ?_
  refine wp_seq ?_
  refine k_list ?_
  refine l_cons (ev_run (v := (.slice A l.length c)) (w1 := w) rfl rfl (by kernel_rfl) ?_)
  refine l_cons (ev_run (v := (.int .i64 (((l.length : Nat) : Int)))) (w1 := w) rfl rfl (by kernel_rfl) ?_)
  refine l_cons (ev_run (v := (.int .i64 0)) (w1 := w) rfl rfl (by kernel_rfl) ?_)
  refine l_nil ?_
  refine n_then ?_
  refine wp_block ?_
  refine k_loop (σ := Nat × Option Addr × Option S45) (fun x_ => match x_ with | (j, v0, b0) => [(0, (.int .i64 slot)), (10, (.slice A l.length c)), (11, (.int .i64 (((l.length : Nat) : Int)))), (12, (.int .i64 (((j : Nat) : Int)))), (5, (.pointer v0))]) (fun x_ w' => match x_ with | (j, v0, b0) => (j ≤ l.length) ∧ (b0 = (l.take j).foldl (fun b r => r.f5.foldl (betr slot) b) none) ∧ (PtrTo w0 v0 b0) ∧ Hp (fun _ => False) w w' []) (fun x_ => match x_ with | (j, v0, b0) => l.length - j) (0, none, none) ⟨(by first | rfl | kernel_rfl), (by first | rfl | kernel_rfl), (by first | rfl | kernel_rfl), (by first | rfl | kernel_rfl), (by first | rfl | kernel_rfl), trivial⟩ ⟨(by omega), rfl, trivial, H⟩ ?_
  rintro L1 ⟨j, v0, b0⟩ w1 ⟨hj, hb0, hp0, H1⟩
  change Code.wp _ _ _ (Fr _ _ [(0, (.int .i64 slot)), (10, (.slice A l.length c)), (11, (.int .i64 (((l.length : Nat) : Int)))), (12, (.int .i64 (((j : Nat) : Int)))), (5, (.pointer v0))]) _
  rcases Nat.lt_or_ge j l.length with hlt | hge
  · skip
    obtain ⟨ad, rfl⟩ := C_some hC (by omega) z30
    obtain ⟨x, A4, c4, A5, c5, A6, c6, A7, c7, hx, hA, l4, g4, l5, g5, l6, g6, l7, g7⟩ := elem30 hC j hlt
    refine wp_seq ?_
    refine k_list ?_
    refine l_cons (ev_eq (v := (.bool (decide ((((j : Nat) : Int) : Int) < ((l.length : Nat) : Int))))) (v' := (.bool true)) (w1 := w1) rfl rfl (by kernel_rfl) (bt (by first | assumption | omega)) ?_)
    refine l_nil ?_
    refine n_then ?_
    refine wp_seq ?_
    refine k_true (by kernel_rfl) ?_
    refine wp_skip ?_
    refine n_then ?_
    refine wp_seq ?_
    refine wp_block ?_
    refine wp_seq ?_
    refine k_list ?_
    refine l_cons (ev_run (v := (.pointer (some ((ad).add (j * 8))))) (w1 := w1) rfl rfl (run_ixa (sz := 8) (q := j) (ad := ad) (len := l.length) (cap := c) (k := .i64) (z := ((j : Nat) : Int)) rfl (by kernel_rfl) (by kernel_rfl) rfl (by kernel_rfl) (by first | rfl | omega) (by first | omega | decide)) ?_)
    refine l_cons (ev_run (v := (.agg #[(.int .i64 x.f0.f0), (.int .i64 x.f0.f1), (.int .i64 x.f1), (.int .i64 x.f2), (.slice A4 x.f3.length c4), (.slice A5 x.f4.length c5), (.slice A6 x.f5.length c6), (.slice A7 x.f6.length c7)])) (w1 := w1) rfl rfl (run_ld rfl (by kernel_rfl) (At.hp (At.below hA hw0) H1 (fun h => h)) (by kernel_rfl)) ?_)
    refine l_cons (ev_new (cs := [(.int .i64 0), (.int .i64 0), (.int .i64 0), (.int .i64 0), (.slice none 0 0), (.slice none 0 0), (.slice none 0 0), (.slice none 0 0)]) (t := 30) rfl rfl H1 (by kernel_rfl) ?_)
    intro g1 w2 H2 hg1 hbw2
    refine l_cons (ev_store (i := 0) rfl rfl rfl H2 (k := 0) rfl (by kernel_rfl) (.agg #[(.int .i64 x.f0.f0), (.int .i64 x.f0.f1), (.int .i64 x.f1), (.int .i64 x.f2), (.slice A4 x.f3.length c4), (.slice A5 x.f4.length c5), (.slice A6 x.f5.length c6), (.slice A7 x.f6.length c7)]) (by kernel_rfl) [(.int .i64 x.f0.f0), (.int .i64 x.f0.f1), (.int .i64 x.f1), (.int .i64 x.f2), (.slice A4 x.f3.length c4), (.slice A5 x.f4.length c5), (.slice A6 x.f5.length c6), (.slice A7 x.f6.length c7)] (by kernel_rfl) (by kernel_rfl) (by kernel_rfl) (by kernel_rfl) [(.int .i64 x.f0.f0), (.int .i64 x.f0.f1), (.int .i64 x.f1), (.int .i64 x.f2), (.slice A4 x.f3.length c4), (.slice A5 x.f4.length c5), (.slice A6 x.f5.length c6), (.slice A7 x.f6.length c7)] (by kernel_rfl) ?_)
    intro w3 H3 hcw3
    refine l_nil ?_
    refine n_then ?_
    refine wp_seq ?_
    refine k_list ?_
    refine l_cons (ev_run (v := (.pointer (some (⟨g1, 6, none⟩)))) (w1 := w3) rfl rfl (by kernel_rfl) ?_)
    refine l_cons (ev_run (v := (.slice A6 x.f5.length c6)) (w1 := w3) rfl rfl (run_ld rfl (by kernel_rfl) (At.blk (H3.get 0 rfl) 6) (by kernel_rfl)) ?_)
    refine l_cons (ev_run (v := (.int .i64 (((x.f5.length : Nat) : Int)))) (w1 := w3) rfl rfl (by kernel_rfl) ?_)
    refine l_cons (ev_run (v := (.int .i64 0)) (w1 := w3) rfl rfl (by kernel_rfl) ?_)
    refine l_nil ?_
    refine n_then ?_
    refine wp_block ?_
    refine k_loop (σ := Nat × Option Addr × Option S45) (fun x_ => match x_ with | (i, v, b) => [(0, (.int .i64 slot)), (10, (.slice (some (ad)) l.length c)), (11, (.int .i64 (((l.length : Nat) : Int)))), (12, (.int .i64 (((j : Nat) : Int)))), (7, (.pointer (some (⟨g1, 0, none⟩)))), (17, (.slice A6 x.f5.length c6)), (18, (.int .i64 (((x.f5.length : Nat) : Int)))), (19, (.int .i64 (((i : Nat) : Int)))), (5, (.pointer v))]) (fun x_ w' => match x_ with | (i, v, b) => (i ≤ x.f5.length) ∧ (b = (x.f5.take i).foldl (betr slot) b0) ∧ (PtrTo w0 v b) ∧ Hp (fun _ => False) w w' [blk g1 [(.int .i64 x.f0.f0), (.int .i64 x.f0.f1), (.int .i64 x.f1), (.int .i64 x.f2), (.slice A4 x.f3.length c4), (.slice A5 x.f4.length c5), (.slice A6 x.f5.length c6), (.slice A7 x.f6.length c7)] 30]) (fun x_ => match x_ with | (i, v, b) => x.f5.length - i) (0, v0, b0) ⟨(by first | rfl | kernel_rfl), (by first | rfl | kernel_rfl), (by first | rfl | kernel_rfl), (by first | rfl | kernel_rfl), (by first | rfl | kernel_rfl), (by first | rfl | kernel_rfl), (by first | rfl | kernel_rfl), (by first | rfl | kernel_rfl), (by first | rfl | kernel_rfl), trivial⟩ ⟨(by omega), rfl, hp0, H3⟩ ?_
    rintro L2 ⟨i, v, b⟩ w4 ⟨hi, hb, hp, H4⟩
    change Code.wp _ _ _ (Fr _ _ [(0, (.int .i64 slot)), (10, (.slice (some (ad)) l.length c)), (11, (.int .i64 (((l.length : Nat) : Int)))), (12, (.int .i64 (((j : Nat) : Int)))), (7, (.pointer (some (⟨g1, 0, none⟩)))), (17, (.slice A6 x.f5.length c6)), (18, (.int .i64 (((x.f5.length : Nat) : Int)))), (19, (.int .i64 (((i : Nat) : Int)))), (5, (.pointer v))]) _
    rcases cases3 i x.f5.length v with ⟨hlt2, rfl⟩ | ⟨hlt2, q, rfl⟩ | hge2
    · skip
      have m6 := C_len g6; obtain ⟨ad6, rfl⟩ := C_some g6 (by omega) z45
      obtain ⟨p, Ap5, cp5, Ap6, cp6, Ap7, cp7, hpx, hpA, lp5, gp5, lp6, gp6, lp7, gp7⟩ := elem45 g6 i hlt2
      obtain rfl := ptr_none hp
      refine wp_seq ?_
      refine k_list ?_
      refine l_cons (ev_eq (v := (.bool (decide ((((i : Nat) : Int) : Int) < ((x.f5.length : Nat) : Int))))) (v' := (.bool true)) (w1 := w4) rfl rfl (by kernel_rfl) (bt (by first | assumption | omega)) ?_)
      refine l_nil ?_
      refine n_then ?_
      refine wp_seq ?_
      refine k_true (by kernel_rfl) ?_
      refine wp_skip ?_
      refine n_then ?_
      refine wp_seq ?_
      refine wp_block ?_
      refine wp_seq ?_
      refine k_list ?_
      refine l_cons (ev_run (v := (.int .i64 (((i : Nat) : Int)))) (w1 := w4) rfl rfl (by kernel_rfl) ?_)
      refine l_cons (ev_run (v := (.pointer (some ((ad6).add (i * 8))))) (w1 := w4) rfl rfl (run_ixa (sz := 8) (q := i) (ad := ad6) (len := x.f5.length) (cap := c6) (k := .i64) (z := ((i : Nat) : Int)) rfl (by kernel_rfl) (by kernel_rfl) rfl (by kernel_rfl) (by first | rfl | omega) (by first | omega | decide)) ?_)
      refine l_cons (ev_run (v := (.agg #[(.int .i64 p.f0), (.int .i64 p.f1.f0), (.int .i64 p.f1.f1), (.int .i64 p.f2.f0), (.int .i64 p.f2.f1), (.slice Ap5 p.f2.f2.length cp5), (.slice Ap6 p.f2.f3.length cp6), (.slice Ap7 p.f3.length cp7)])) (w1 := w4) rfl rfl (run_ld rfl (by kernel_rfl) (At.hp (At.below hpA hw0) H4 (fun h => h)) (by kernel_rfl)) ?_)
      refine l_cons (ev_new (cs := [(.int .i64 0), (.int .i64 0), (.int .i64 0), (.int .i64 0), (.int .i64 0), (.slice none 0 0), (.slice none 0 0), (.slice none 0 0)]) (t := 45) rfl rfl H4 (by kernel_rfl) ?_)
      intro g2 w5 H5 hg2 hbw5
      refine l_cons (ev_run (v := (.int .i64 (((i : Nat) : Int)))) (w1 := w5) rfl rfl (by kernel_rfl) ?_)
      refine l_cons (ev_store (i := 0) rfl rfl rfl H5 (k := 0) rfl (by kernel_rfl) (.agg #[(.int .i64 p.f0), (.int .i64 p.f1.f0), (.int .i64 p.f1.f1), (.int .i64 p.f2.f0), (.int .i64 p.f2.f1), (.slice Ap5 p.f2.f2.length cp5), (.slice Ap6 p.f2.f3.length cp6), (.slice Ap7 p.f3.length cp7)]) (by kernel_rfl) [(.int .i64 p.f0), (.int .i64 p.f1.f0), (.int .i64 p.f1.f1), (.int .i64 p.f2.f0), (.int .i64 p.f2.f1), (.slice Ap5 p.f2.f2.length cp5), (.slice Ap6 p.f2.f3.length cp6), (.slice Ap7 p.f3.length cp7)] (by kernel_rfl) (by kernel_rfl) (by kernel_rfl) (by kernel_rfl) [(.int .i64 p.f0), (.int .i64 p.f1.f0), (.int .i64 p.f1.f1), (.int .i64 p.f2.f0), (.int .i64 p.f2.f1), (.slice Ap5 p.f2.f2.length cp5), (.slice Ap6 p.f2.f3.length cp6), (.slice Ap7 p.f3.length cp7)] (by kernel_rfl) ?_)
      intro w6 H6 hcw6
      refine l_nil ?_
      refine n_then ?_
      refine wp_seq ?_
      refine r_start (m := 18) (fun j => false) (fun w' => Hp (fun _ => False) w w' [blk g2 [(.int .i64 p.f0), (.int .i64 p.f1.f0), (.int .i64 p.f1.f1), (.int .i64 p.f2.f0), (.int .i64 p.f2.f1), (.slice Ap5 p.f2.f2.length cp5), (.slice Ap6 p.f2.f3.length cp6), (.slice Ap7 p.f3.length cp7)] 45, blk g1 [(.int .i64 x.f0.f0), (.int .i64 x.f0.f1), (.int .i64 x.f1), (.int .i64 x.f2), (.slice A4 x.f3.length c4), (.slice A5 x.f4.length c5), (.slice (some (ad6)) x.f5.length c6), (.slice A7 x.f6.length c7)] 30]) (by kernel_rfl) rfl (by kernel_rfl) (fun _ _ _ _ _ h => h) ?_
      have H7 := H6.drew
      refine r_take (i := 0) (v := (.pointer (some (⟨g2, 0, none⟩)))) rfl (by kernel_rfl) (by kernel_rfl) (by kernel_rfl) rfl H7 (fun _ _ => by kernel_rfl) ?_
      refine r_take (i := 1) (v := (.int .i64 p.f0)) rfl (by kernel_rfl) (by kernel_rfl) (by kernel_rfl) rfl H7 (fun w_ hs_ => (run_ld rfl (by kernel_rfl) (At.blk (hs_.get 0 rfl) 0) (by kernel_rfl))) ?_
      refine r_take (i := 2) (v := (.int .i64 slot)) rfl (by kernel_rfl) (by kernel_rfl) (by kernel_rfl) rfl H7 (fun _ _ => by kernel_rfl) ?_
      by_cases hc1 : (p.f0 : Int) = slot
      · skip
        refine r_take_eq (i := 3) (v := (.bool ((p.f0 : Int) == slot))) (v' := (.bool true)) rfl (by kernel_rfl) (by kernel_rfl) (by kernel_rfl) rfl H7 (fun _ _ => by kernel_rfl) (beqt (by first | assumption | omega)) ?_
        refine r_take (i := 4) (v := (.bool true)) rfl (by kernel_rfl) (by kernel_rfl) (by kernel_rfl) rfl H7 (fun _ _ => by kernel_rfl) ?_
        refine r_take (i := 5) (v := (.pointer none)) rfl (by kernel_rfl) (by kernel_rfl) (by kernel_rfl) rfl H7 (fun _ _ => by kernel_rfl) ?_
        refine r_take (i := 6) (v := (.bool true)) rfl (by kernel_rfl) (by kernel_rfl) (by kernel_rfl) rfl H7 (fun _ _ => by kernel_rfl) ?_
        refine r_take (i := 7) (v := (.bool true)) rfl (by kernel_rfl) (by kernel_rfl) (by kernel_rfl) rfl H7 (fun _ _ => by kernel_rfl) ?_
        refine r_pass (i := 8) rfl (by kernel_rfl) (by kernel_rfl) (by kernel_rfl) rfl H7 ?_
        refine r_pass (i := 9) rfl (by kernel_rfl) (by kernel_rfl) (by kernel_rfl) rfl H7 ?_
        refine r_pass (i := 10) rfl (by kernel_rfl) (by kernel_rfl) (by kernel_rfl) rfl H7 ?_
        refine r_pass (i := 11) rfl (by kernel_rfl) (by kernel_rfl) (by kernel_rfl) rfl H7 ?_
        refine r_pass (i := 12) rfl (by kernel_rfl) (by kernel_rfl) (by kernel_rfl) rfl H7 ?_
        refine r_pass (i := 13) rfl (by kernel_rfl) (by kernel_rfl) (by kernel_rfl) rfl H7 ?_
        refine r_pass (i := 14) rfl (by kernel_rfl) (by kernel_rfl) (by kernel_rfl) rfl H7 ?_
        refine r_pass (i := 15) rfl (by kernel_rfl) (by kernel_rfl) (by kernel_rfl) rfl H7 ?_
        refine r_take (i := 16) (v := (.bool true)) rfl (by kernel_rfl) (by kernel_rfl) (by kernel_rfl) rfl H7 (fun _ _ => by kernel_rfl) ?_
        refine r_take (i := 17) (v := (.bool true)) rfl (by kernel_rfl) (by kernel_rfl) (by kernel_rfl) rfl H7 (fun _ _ => by kernel_rfl) ?_
        refine r_done (by kernel_rfl) ?_
        refine n_then ?_
        refine k_true (by kernel_rfl) ?_
        refine k_list ?_
        refine l_cons (ev_run (v := (.pointer (some (⟨g1, 6, none⟩)))) (w1 := w6.drew) rfl rfl (by kernel_rfl) ?_)
        refine l_cons (ev_run (v := (.slice (some (ad6)) x.f5.length c6)) (w1 := w6.drew) rfl rfl (run_ld rfl (by kernel_rfl) (At.blk (H7.get 1 rfl) 6) (by kernel_rfl)) ?_)
        refine l_cons (ev_run (v := (.int .i64 (((i : Nat) : Int)))) (w1 := w6.drew) rfl rfl (by kernel_rfl) ?_)
        refine l_cons (ev_run (v := (.pointer (some ((ad6).add (i * 8))))) (w1 := w6.drew) rfl rfl (run_ixa (sz := 8) (q := i) (ad := ad6) (len := x.f5.length) (cap := c6) (k := .i64) (z := ((i : Nat) : Int)) rfl (by kernel_rfl) (by kernel_rfl) rfl (by kernel_rfl) (by first | rfl | omega) (by first | omega | decide)) ?_)
        refine l_cons (ev_run (v := (.pointer (some ((ad6).add (i * 8))))) (w1 := w6.drew) rfl rfl (by kernel_rfl) ?_)
        refine l_nil ?_
        refine n_in ?_
        refine n_then ?_
        refine k_list ?_
        refine l_cons (ev_eq (v := (.int .i64 (IntKind.i64.wrap (((i : Nat) : Int) + 1)))) (v' := (.int .i64 ((((i : Nat) : Int) + 1)))) (w1 := w6.drew) rfl rfl (by kernel_rfl) (wr64 (by omega) (by omega)) ?_)
        refine l_cons (ev_run (v := (.int .i64 ((((i : Nat) : Int) + 1)))) (w1 := w6.drew) rfl rfl (by kernel_rfl) ?_)
        refine l_nil ?_
        refine n_then ?_
        exact k_round (i + 1, some ((ad6).add (i * 8)), some p) ⟨(by first | rfl | kernel_rfl), (by first | rfl | kernel_rfl), (by first | rfl | kernel_rfl), (by first | rfl | kernel_rfl), (by first | rfl | kernel_rfl), (by first | rfl | kernel_rfl), (by first | rfl | kernel_rfl), (by first | rfl | kernel_rfl), (by first | rfl | kernel_rfl), trivial⟩ ⟨(by omega), (by rw [foldl_take _ _ _ _ hlt2 z45, ← hpx, ← hb]; exact betr_nt (by assumption)), ⟨_, _, _, _, _, _, hpA, lp5, gp5, lp6, gp6, lp7, gp7⟩, H7.sel [1] (by decide)⟩ (by first | omega | (simp; omega))
      · skip
        refine r_take_eq (i := 3) (v := (.bool ((p.f0 : Int) == slot))) (v' := (.bool false)) rfl (by kernel_rfl) (by kernel_rfl) (by kernel_rfl) rfl H7 (fun _ _ => by kernel_rfl) (beqf (by first | assumption | omega)) ?_
        refine r_take (i := 4) (v := (.bool false)) rfl (by kernel_rfl) (by kernel_rfl) (by kernel_rfl) rfl H7 (fun _ _ => by kernel_rfl) ?_
        refine r_pass (i := 5) rfl (by kernel_rfl) (by kernel_rfl) (by kernel_rfl) rfl H7 ?_
        refine r_pass (i := 6) rfl (by kernel_rfl) (by kernel_rfl) (by kernel_rfl) rfl H7 ?_
        refine r_pass (i := 7) rfl (by kernel_rfl) (by kernel_rfl) (by kernel_rfl) rfl H7 ?_
        refine r_pass (i := 8) rfl (by kernel_rfl) (by kernel_rfl) (by kernel_rfl) rfl H7 ?_
        refine r_pass (i := 9) rfl (by kernel_rfl) (by kernel_rfl) (by kernel_rfl) rfl H7 ?_
        refine r_pass (i := 10) rfl (by kernel_rfl) (by kernel_rfl) (by kernel_rfl) rfl H7 ?_
        refine r_pass (i := 11) rfl (by kernel_rfl) (by kernel_rfl) (by kernel_rfl) rfl H7 ?_
        refine r_pass (i := 12) rfl (by kernel_rfl) (by kernel_rfl) (by kernel_rfl) rfl H7 ?_
        refine r_pass (i := 13) rfl (by kernel_rfl) (by kernel_rfl) (by kernel_rfl) rfl H7 ?_
        refine r_pass (i := 14) rfl (by kernel_rfl) (by kernel_rfl) (by kernel_rfl) rfl H7 ?_
        refine r_pass (i := 15) rfl (by kernel_rfl) (by kernel_rfl) (by kernel_rfl) rfl H7 ?_
        refine r_pass (i := 16) rfl (by kernel_rfl) (by kernel_rfl) (by kernel_rfl) rfl H7 ?_
        refine r_take (i := 17) (v := (.bool false)) rfl (by kernel_rfl) (by kernel_rfl) (by kernel_rfl) rfl H7 (fun _ _ => by kernel_rfl) ?_
        refine r_done (by kernel_rfl) ?_
        refine n_then ?_
        refine k_false (by kernel_rfl) ?_
        refine wp_skip ?_
        refine n_in ?_
        refine n_then ?_
        refine k_list ?_
        refine l_cons (ev_eq (v := (.int .i64 (IntKind.i64.wrap (((i : Nat) : Int) + 1)))) (v' := (.int .i64 ((((i : Nat) : Int) + 1)))) (w1 := w6.drew) rfl rfl (by kernel_rfl) (wr64 (by omega) (by omega)) ?_)
        refine l_cons (ev_run (v := (.int .i64 ((((i : Nat) : Int) + 1)))) (w1 := w6.drew) rfl rfl (by kernel_rfl) ?_)
        refine l_nil ?_
        refine n_then ?_
        exact k_round (i + 1, none, none) ⟨(by first | rfl | kernel_rfl), (by first | rfl | kernel_rfl), (by first | rfl | kernel_rfl), (by first | rfl | kernel_rfl), (by first | rfl | kernel_rfl), (by first | rfl | kernel_rfl), (by first | rfl | kernel_rfl), (by first | rfl | kernel_rfl), (by first | rfl | kernel_rfl), trivial⟩ ⟨(by omega), (by rw [foldl_take _ _ _ _ hlt2 z45, ← hpx, ← hb]; exact betr_f (by assumption)), hp, H7.sel [1] (by decide)⟩ (by first | omega | (simp; omega))
    · skip
      have m6 := C_len g6; obtain ⟨ad6, rfl⟩ := C_some g6 (by omega) z45
      obtain ⟨p, Ap5, cp5, Ap6, cp6, Ap7, cp7, hpx, hpA, lp5, gp5, lp6, gp6, lp7, gp7⟩ := elem45 g6 i hlt2
      obtain ⟨p0, Aq5, cq5, Aq6, cq6, Aq7, cq7, rfl, hqA, lq5, gq5, lq6, gq6, lq7, gq7⟩ := ptr_some hp
      refine wp_seq ?_
      refine k_list ?_
      refine l_cons (ev_eq (v := (.bool (decide ((((i : Nat) : Int) : Int) < ((x.f5.length : Nat) : Int))))) (v' := (.bool true)) (w1 := w4) rfl rfl (by kernel_rfl) (bt (by first | assumption | omega)) ?_)
      refine l_nil ?_
      refine n_then ?_
      refine wp_seq ?_
      refine k_true (by kernel_rfl) ?_
      refine wp_skip ?_
      refine n_then ?_
      refine wp_seq ?_
      refine wp_block ?_
      refine wp_seq ?_
      refine k_list ?_
      refine l_cons (ev_run (v := (.int .i64 (((i : Nat) : Int)))) (w1 := w4) rfl rfl (by kernel_rfl) ?_)
      refine l_cons (ev_run (v := (.pointer (some ((ad6).add (i * 8))))) (w1 := w4) rfl rfl (run_ixa (sz := 8) (q := i) (ad := ad6) (len := x.f5.length) (cap := c6) (k := .i64) (z := ((i : Nat) : Int)) rfl (by kernel_rfl) (by kernel_rfl) rfl (by kernel_rfl) (by first | rfl | omega) (by first | omega | decide)) ?_)
      refine l_cons (ev_run (v := (.agg #[(.int .i64 p.f0), (.int .i64 p.f1.f0), (.int .i64 p.f1.f1), (.int .i64 p.f2.f0), (.int .i64 p.f2.f1), (.slice Ap5 p.f2.f2.length cp5), (.slice Ap6 p.f2.f3.length cp6), (.slice Ap7 p.f3.length cp7)])) (w1 := w4) rfl rfl (run_ld rfl (by kernel_rfl) (At.hp (At.below hpA hw0) H4 (fun h => h)) (by kernel_rfl)) ?_)
      refine l_cons (ev_new (cs := [(.int .i64 0), (.int .i64 0), (.int .i64 0), (.int .i64 0), (.int .i64 0), (.slice none 0 0), (.slice none 0 0), (.slice none 0 0)]) (t := 45) rfl rfl H4 (by kernel_rfl) ?_)
      intro g3 w7 H8 hg3 hbw7
      refine l_cons (ev_run (v := (.int .i64 (((i : Nat) : Int)))) (w1 := w7) rfl rfl (by kernel_rfl) ?_)
      refine l_cons (ev_store (i := 0) rfl rfl rfl H8 (k := 0) rfl (by kernel_rfl) (.agg #[(.int .i64 p.f0), (.int .i64 p.f1.f0), (.int .i64 p.f1.f1), (.int .i64 p.f2.f0), (.int .i64 p.f2.f1), (.slice Ap5 p.f2.f2.length cp5), (.slice Ap6 p.f2.f3.length cp6), (.slice Ap7 p.f3.length cp7)]) (by kernel_rfl) [(.int .i64 p.f0), (.int .i64 p.f1.f0), (.int .i64 p.f1.f1), (.int .i64 p.f2.f0), (.int .i64 p.f2.f1), (.slice Ap5 p.f2.f2.length cp5), (.slice Ap6 p.f2.f3.length cp6), (.slice Ap7 p.f3.length cp7)] (by kernel_rfl) (by kernel_rfl) (by kernel_rfl) (by kernel_rfl) [(.int .i64 p.f0), (.int .i64 p.f1.f0), (.int .i64 p.f1.f1), (.int .i64 p.f2.f0), (.int .i64 p.f2.f1), (.slice Ap5 p.f2.f2.length cp5), (.slice Ap6 p.f2.f3.length cp6), (.slice Ap7 p.f3.length cp7)] (by kernel_rfl) ?_)
      intro w8 H9 hcw8
      refine l_nil ?_
      refine n_then ?_
      refine wp_seq ?_
      refine r_start (m := 18) (fun j => false) (fun w' => Hp (fun _ => False) w w' [blk g3 [(.int .i64 p.f0), (.int .i64 p.f1.f0), (.int .i64 p.f1.f1), (.int .i64 p.f2.f0), (.int .i64 p.f2.f1), (.slice Ap5 p.f2.f2.length cp5), (.slice Ap6 p.f2.f3.length cp6), (.slice Ap7 p.f3.length cp7)] 45, blk g1 [(.int .i64 x.f0.f0), (.int .i64 x.f0.f1), (.int .i64 x.f1), (.int .i64 x.f2), (.slice A4 x.f3.length c4), (.slice A5 x.f4.length c5), (.slice (some (ad6)) x.f5.length c6), (.slice A7 x.f6.length c7)] 30]) (by kernel_rfl) rfl (by kernel_rfl) (fun _ _ _ _ _ h => h) ?_
      have H10 := H9.drew
      refine r_take (i := 0) (v := (.pointer (some (⟨g3, 0, none⟩)))) rfl (by kernel_rfl) (by kernel_rfl) (by kernel_rfl) rfl H10 (fun _ _ => by kernel_rfl) ?_
      refine r_take (i := 1) (v := (.int .i64 p.f0)) rfl (by kernel_rfl) (by kernel_rfl) (by kernel_rfl) rfl H10 (fun w_ hs_ => (run_ld rfl (by kernel_rfl) (At.blk (hs_.get 0 rfl) 0) (by kernel_rfl))) ?_
      refine r_take (i := 2) (v := (.int .i64 slot)) rfl (by kernel_rfl) (by kernel_rfl) (by kernel_rfl) rfl H10 (fun _ _ => by kernel_rfl) ?_
      by_cases hc2 : (p.f0 : Int) = slot
      · skip
        refine r_take_eq (i := 3) (v := (.bool ((p.f0 : Int) == slot))) (v' := (.bool true)) rfl (by kernel_rfl) (by kernel_rfl) (by kernel_rfl) rfl H10 (fun _ _ => by kernel_rfl) (beqt (by first | assumption | omega)) ?_
        refine r_take (i := 4) (v := (.bool true)) rfl (by kernel_rfl) (by kernel_rfl) (by kernel_rfl) rfl H10 (fun _ _ => by kernel_rfl) ?_
        refine r_take (i := 5) (v := (.pointer (some (q)))) rfl (by kernel_rfl) (by kernel_rfl) (by kernel_rfl) rfl H10 (fun _ _ => by kernel_rfl) ?_
        refine r_take (i := 6) (v := (.bool false)) rfl (by kernel_rfl) (by kernel_rfl) (by kernel_rfl) rfl H10 (fun _ _ => by kernel_rfl) ?_
        refine r_take (i := 7) (v := (.bool false)) rfl (by kernel_rfl) (by kernel_rfl) (by kernel_rfl) rfl H10 (fun _ _ => by kernel_rfl) ?_
        refine r_take (i := 8) (v := (.pointer (some (⟨g3, 1, none⟩)))) rfl (by kernel_rfl) (by kernel_rfl) (by kernel_rfl) rfl H10 (fun _ _ => by kernel_rfl) ?_
        refine r_take (i := 9) (v := (.agg #[(.int .i64 p.f1.f0), (.int .i64 p.f1.f1)])) rfl (by kernel_rfl) (by kernel_rfl) (by kernel_rfl) rfl H10 (fun w_ hs_ => (run_ld rfl (by kernel_rfl) (At.blk (hs_.get 0 rfl) 1) (by kernel_rfl))) ?_
        refine r_take (i := 10) (v := (.pointer (some (q)))) rfl (by kernel_rfl) (by kernel_rfl) (by kernel_rfl) rfl H10 (fun _ _ => by kernel_rfl) ?_
        refine r_take (i := 11) (v := (.pointer (some (q)))) rfl (by kernel_rfl) (by kernel_rfl) (by kernel_rfl) rfl H10 (fun _ _ => by kernel_rfl) ?_
        refine r_take (i := 12) (v := (.pointer (some ((q).add 1)))) rfl (by kernel_rfl) (by kernel_rfl) (by kernel_rfl) rfl H10 (fun _ _ => by kernel_rfl) ?_
        refine r_take (i := 13) (v := (.agg #[(.int .i64 p0.f1.f0), (.int .i64 p0.f1.f1)])) rfl (by kernel_rfl) (by kernel_rfl) (by kernel_rfl) rfl H10 (fun w_ hs_ => (run_ld rfl (by kernel_rfl) (At.field (At.hp (At.below hqA hw0) hs_ (fun h => h)) 1) (by kernel_rfl))) ?_
        refine r_one (i := 14) (by kernel_rfl) rfl (ev_call (by kernel_rfl) rfl (f := 17) (args := #[(.agg #[(.int .i64 p.f1.f0), (.int .i64 p.f1.f1)]), (.agg #[(.int .i64 p0.f1.f0), (.int .i64 p0.f1.f1)])]) (by kernel_rfl) (compare_c p.f1 p0.f1 _) ?_)
        rintro e w9 ⟨rfl, hb_⟩
        refine ⟨_, rfl, ?_⟩
        have H11 := H10.below hb_
        refine ⟨fun _ => H11, ?_⟩
        by_cases hc3 : (cmpB p.f1 p0.f1 : Int) > 0
        · skip
          refine r_take_eq (i := 15) (v := (.bool (decide ((cmpB p.f1 p0.f1 : Int) > 0)))) (v' := (.bool true)) rfl (by kernel_rfl) (by kernel_rfl) (by kernel_rfl) rfl H11 (fun _ _ => by kernel_rfl) (bt (by first | assumption | omega)) ?_
          refine r_take (i := 16) (v := (.bool true)) rfl (by kernel_rfl) (by kernel_rfl) (by kernel_rfl) rfl H11 (fun _ _ => by kernel_rfl) ?_
          refine r_take (i := 17) (v := (.bool true)) rfl (by kernel_rfl) (by kernel_rfl) (by kernel_rfl) rfl H11 (fun _ _ => by kernel_rfl) ?_
          refine r_done (by kernel_rfl) ?_
          refine n_then ?_
          refine k_true (by kernel_rfl) ?_
          refine k_list ?_
          refine l_cons (ev_run (v := (.pointer (some (⟨g1, 6, none⟩)))) (w1 := w9) rfl rfl (by kernel_rfl) ?_)
          refine l_cons (ev_run (v := (.slice (some (ad6)) x.f5.length c6)) (w1 := w9) rfl rfl (run_ld rfl (by kernel_rfl) (At.blk (H11.get 1 rfl) 6) (by kernel_rfl)) ?_)
          refine l_cons (ev_run (v := (.int .i64 (((i : Nat) : Int)))) (w1 := w9) rfl rfl (by kernel_rfl) ?_)
          refine l_cons (ev_run (v := (.pointer (some ((ad6).add (i * 8))))) (w1 := w9) rfl rfl (run_ixa (sz := 8) (q := i) (ad := ad6) (len := x.f5.length) (cap := c6) (k := .i64) (z := ((i : Nat) : Int)) rfl (by kernel_rfl) (by kernel_rfl) rfl (by kernel_rfl) (by first | rfl | omega) (by first | omega | decide)) ?_)
          refine l_cons (ev_run (v := (.pointer (some ((ad6).add (i * 8))))) (w1 := w9) rfl rfl (by kernel_rfl) ?_)
          refine l_nil ?_
          refine n_in ?_
          refine n_then ?_
          refine k_list ?_
          refine l_cons (ev_eq (v := (.int .i64 (IntKind.i64.wrap (((i : Nat) : Int) + 1)))) (v' := (.int .i64 ((((i : Nat) : Int) + 1)))) (w1 := w9) rfl rfl (by kernel_rfl) (wr64 (by omega) (by omega)) ?_)
          refine l_cons (ev_run (v := (.int .i64 ((((i : Nat) : Int) + 1)))) (w1 := w9) rfl rfl (by kernel_rfl) ?_)
          refine l_nil ?_
          refine n_then ?_
          exact k_round (i + 1, some ((ad6).add (i * 8)), some p) ⟨(by first | rfl | kernel_rfl), (by first | rfl | kernel_rfl), (by first | rfl | kernel_rfl), (by first | rfl | kernel_rfl), (by first | rfl | kernel_rfl), (by first | rfl | kernel_rfl), (by first | rfl | kernel_rfl), (by first | rfl | kernel_rfl), (by first | rfl | kernel_rfl), trivial⟩ ⟨(by omega), (by rw [foldl_take _ _ _ _ hlt2 z45, ← hpx, ← hb]; exact betr_st (by assumption) (by assumption)), ⟨_, _, _, _, _, _, hpA, lp5, gp5, lp6, gp6, lp7, gp7⟩, H11.sel [1] (by decide)⟩ (by first | omega | (simp; omega))
        · skip
          refine r_take_eq (i := 15) (v := (.bool (decide ((cmpB p.f1 p0.f1 : Int) > 0)))) (v' := (.bool false)) rfl (by kernel_rfl) (by kernel_rfl) (by kernel_rfl) rfl H11 (fun _ _ => by kernel_rfl) (bf (by first | assumption | omega)) ?_
          refine r_take (i := 16) (v := (.bool false)) rfl (by kernel_rfl) (by kernel_rfl) (by kernel_rfl) rfl H11 (fun _ _ => by kernel_rfl) ?_
          refine r_take (i := 17) (v := (.bool false)) rfl (by kernel_rfl) (by kernel_rfl) (by kernel_rfl) rfl H11 (fun _ _ => by kernel_rfl) ?_
          refine r_done (by kernel_rfl) ?_
          refine n_then ?_
          refine k_false (by kernel_rfl) ?_
          refine wp_skip ?_
          refine n_in ?_
          refine n_then ?_
          refine k_list ?_
          refine l_cons (ev_eq (v := (.int .i64 (IntKind.i64.wrap (((i : Nat) : Int) + 1)))) (v' := (.int .i64 ((((i : Nat) : Int) + 1)))) (w1 := w9) rfl rfl (by kernel_rfl) (wr64 (by omega) (by omega)) ?_)
          refine l_cons (ev_run (v := (.int .i64 ((((i : Nat) : Int) + 1)))) (w1 := w9) rfl rfl (by kernel_rfl) ?_)
          refine l_nil ?_
          refine n_then ?_
          exact k_round (i + 1, some q, some p0) ⟨(by first | rfl | kernel_rfl), (by first | rfl | kernel_rfl), (by first | rfl | kernel_rfl), (by first | rfl | kernel_rfl), (by first | rfl | kernel_rfl), (by first | rfl | kernel_rfl), (by first | rfl | kernel_rfl), (by first | rfl | kernel_rfl), (by first | rfl | kernel_rfl), trivial⟩ ⟨(by omega), (by rw [foldl_take _ _ _ _ hlt2 z45, ← hpx, ← hb]; exact betr_sf (by assumption)), hp, H11.sel [1] (by decide)⟩ (by first | omega | (simp; omega))
      · skip
        refine r_take_eq (i := 3) (v := (.bool ((p.f0 : Int) == slot))) (v' := (.bool false)) rfl (by kernel_rfl) (by kernel_rfl) (by kernel_rfl) rfl H10 (fun _ _ => by kernel_rfl) (beqf (by first | assumption | omega)) ?_
        refine r_take (i := 4) (v := (.bool false)) rfl (by kernel_rfl) (by kernel_rfl) (by kernel_rfl) rfl H10 (fun _ _ => by kernel_rfl) ?_
        refine r_pass (i := 5) rfl (by kernel_rfl) (by kernel_rfl) (by kernel_rfl) rfl H10 ?_
        refine r_pass (i := 6) rfl (by kernel_rfl) (by kernel_rfl) (by kernel_rfl) rfl H10 ?_
        refine r_pass (i := 7) rfl (by kernel_rfl) (by kernel_rfl) (by kernel_rfl) rfl H10 ?_
        refine r_pass (i := 8) rfl (by kernel_rfl) (by kernel_rfl) (by kernel_rfl) rfl H10 ?_
        refine r_pass (i := 9) rfl (by kernel_rfl) (by kernel_rfl) (by kernel_rfl) rfl H10 ?_
        refine r_pass (i := 10) rfl (by kernel_rfl) (by kernel_rfl) (by kernel_rfl) rfl H10 ?_
        refine r_pass (i := 11) rfl (by kernel_rfl) (by kernel_rfl) (by kernel_rfl) rfl H10 ?_
        refine r_pass (i := 12) rfl (by kernel_rfl) (by kernel_rfl) (by kernel_rfl) rfl H10 ?_
        refine r_pass (i := 13) rfl (by kernel_rfl) (by kernel_rfl) (by kernel_rfl) rfl H10 ?_
        refine r_pass (i := 14) rfl (by kernel_rfl) (by kernel_rfl) (by kernel_rfl) rfl H10 ?_
        refine r_pass (i := 15) rfl (by kernel_rfl) (by kernel_rfl) (by kernel_rfl) rfl H10 ?_
        refine r_pass (i := 16) rfl (by kernel_rfl) (by kernel_rfl) (by kernel_rfl) rfl H10 ?_
        refine r_take (i := 17) (v := (.bool false)) rfl (by kernel_rfl) (by kernel_rfl) (by kernel_rfl) rfl H10 (fun _ _ => by kernel_rfl) ?_
        refine r_done (by kernel_rfl) ?_
        refine n_then ?_
        refine k_false (by kernel_rfl) ?_
        refine wp_skip ?_
        refine n_in ?_
        refine n_then ?_
        refine k_list ?_
        refine l_cons (ev_eq (v := (.int .i64 (IntKind.i64.wrap (((i : Nat) : Int) + 1)))) (v' := (.int .i64 ((((i : Nat) : Int) + 1)))) (w1 := w8.drew) rfl rfl (by kernel_rfl) (wr64 (by omega) (by omega)) ?_)
        refine l_cons (ev_run (v := (.int .i64 ((((i : Nat) : Int) + 1)))) (w1 := w8.drew) rfl rfl (by kernel_rfl) ?_)
        refine l_nil ?_
        refine n_then ?_
        exact k_round (i + 1, some q, some p0) ⟨(by first | rfl | kernel_rfl), (by first | rfl | kernel_rfl), (by first | rfl | kernel_rfl), (by first | rfl | kernel_rfl), (by first | rfl | kernel_rfl), (by first | rfl | kernel_rfl), (by first | rfl | kernel_rfl), (by first | rfl | kernel_rfl), (by first | rfl | kernel_rfl), trivial⟩ ⟨(by omega), (by rw [foldl_take _ _ _ _ hlt2 z45, ← hpx, ← hb]; exact betr_f (by assumption)), hp, H10.sel [1] (by decide)⟩ (by first | omega | (simp; omega))
    · skip
      refine wp_seq ?_
      refine k_list ?_
      refine l_cons (ev_eq (v := (.bool (decide ((((i : Nat) : Int) : Int) < ((x.f5.length : Nat) : Int))))) (v' := (.bool false)) (w1 := w4) rfl rfl (by kernel_rfl) (bf (by first | assumption | omega)) ?_)
      refine l_nil ?_
      refine n_then ?_
      refine wp_seq ?_
      refine k_false (by kernel_rfl) ?_
      refine wp_exit ?_
      refine e_then ?_
      refine e_then ?_
      refine e_in ?_
      refine n_in ?_
      refine n_then ?_
      refine k_list ?_
      refine l_cons (ev_eq (v := (.int .i64 (IntKind.i64.wrap (((j : Nat) : Int) + 1)))) (v' := (.int .i64 ((((j : Nat) : Int) + 1)))) (w1 := w4) rfl rfl (by kernel_rfl) (wr64 (by omega) (by omega)) ?_)
      refine l_cons (ev_run (v := (.int .i64 ((((j : Nat) : Int) + 1)))) (w1 := w4) rfl rfl (by kernel_rfl) ?_)
      refine l_nil ?_
      refine n_then ?_
      exact k_round (j + 1, v, b) ⟨(by first | rfl | kernel_rfl), (by first | rfl | kernel_rfl), (by first | rfl | kernel_rfl), (by first | rfl | kernel_rfl), (by first | rfl | kernel_rfl), trivial⟩ ⟨(by omega), (by rw [foldl_take _ _ _ _ hlt z30, ← hx, ← hb0, hb, List.take_of_length_le (by omega)]), hp, H4.sel [] (by decide)⟩ (by first | omega | (simp; omega))
  · skip
    refine wp_seq ?_
    refine k_list ?_
    refine l_cons (ev_eq (v := (.bool (decide ((((j : Nat) : Int) : Int) < ((l.length : Nat) : Int))))) (v' := (.bool false)) (w1 := w1) rfl rfl (by kernel_rfl) (bf (by first | assumption | omega)) ?_)
    refine l_nil ?_
    refine n_then ?_
    refine wp_seq ?_
    refine k_false (by kernel_rfl) ?_
    refine wp_exit ?_
    refine e_then ?_
    refine e_then ?_
    refine e_in ?_
    refine n_then ?_
    refine wp_seq ?_
    refine k_list ?_
    refine l_cons (ev_run (v := (.pointer v0)) (w1 := w1) rfl rfl (by kernel_rfl) ?_)
    refine l_cons (ev_run (v := (.pointer v0)) (w1 := w1) rfl rfl (by kernel_rfl) ?_)
    refine l_nil ?_
    refine n_then ?_
    refine wp_ret ?_
    refine b_ret (v := (.pointer v0)) (resS rfl (.tmp (by kernel_rfl) .nil)) ?_
    exact ⟨_, rfl, (by rw [bestIn, ← List.take_of_length_le hge, ← hb0]; exact hp0), H1.to_below⟩
end Go.Proofs.Ytpnelfefchdhcaa
