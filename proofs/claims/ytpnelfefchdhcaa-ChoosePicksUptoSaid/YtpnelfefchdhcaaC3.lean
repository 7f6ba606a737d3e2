/- SameVotes and SameReport of what is alike. -/
import Derived.Test.YtpnelfefchdhcaaC2
namespace Go.Proofs.Ytpnelfefchdhcaa
open Go.RowKit Go.Proofs.YtpnelfefchdhcaaW.PrintWords Go.Proofs.YtpnelfefchdhcaaW.PrintLast Go.Proofs.YtpnelfefchdhcaaW.PrintMore
open Go.Proofs.Ytpnelfefchdhcaa.PChoosePicks
set_option linter.unusedVariables false
set_option linter.unusedSimpArgs false
set_option maxRecDepth 100000

section
variable {P : Program} {n : Nat} {L : Nat → Value} {ps : List (Nat × Value)} {w : World} {o : Oper}
/-- '!=' of structs. -/
theorem run_neqS {t t2 : TypeId} {x y : Operand} {xs ys : Array Value} {r : Bool} (ho : o.op = .binOp .neq t x y t2) (hx : evF n L ps x = .agg xs) (hy : evF n L ps y = .agg ys) (hg : P.eqGuardType P.depth t = false) (he : (Op.equalIn Op.maxDepth t (.agg xs) (.agg ys)).run P w = .ok r w) :
    (execOp (evF n L ps) o).run P w = .ok (.value (.bool (!r))) w := by
  unfold execOp
  simp [ho, hx, hy, eqGuard, binOp, Op.equal, Sem.run_bind, hg, he, run_program]
end
theorem eq25 (a b c d : Int) (w : World) : (Op.equalIn Op.maxDepth 25 (.agg #[.int .i64 a, .int .i64 b]) (.agg #[.int .i64 c, .int .i64 d])).run Try.prog w = .ok (a == c && b == d) w :=
  eqA_of Try.underlying25 (by kernel_rfl) (eqf_cons (a := .int .i64 a) (b := .int .i64 c) (by kernel_rfl) (by kernel_rfl) (by kernel_rfl) (by kernel_rfl) (eqf_last (a := .int .i64 b) (b := .int .i64 d) (by kernel_rfl) (by kernel_rfl) (by kernel_rfl) (by kernel_rfl)))
theorem votes_eq (l : List S57) (hl : l.length ≤ 9223372036854775807) : ∀ (d k j : Nat), j + d = l.length → d < k → catenaryref05_SameVotes.l0 k l l (l.length : Int) (j : Int) = some true := by
  intro d
  induction d with
  | zero =>
    intro k j hj hk
    obtain ⟨k, rfl⟩ : ∃ m, k = m + 1 := ⟨k - 1, by omega⟩
    simp only [catenaryref05_SameVotes.l0]
    rw [if_neg (by omega)]
  | succ d ih =>
    intro k j hj hk
    obtain ⟨k, rfl⟩ : ∃ m, k = m + 1 := ⟨k - 1, by omega⟩
    have hs : ∀ xs : List Int, catenaryref01_Same.f xs xs = some true := fun xs => by simp [catenaryref01_Same.f]
    simp only [catenaryref05_SameVotes.l0, hs, Option.bind_some, if_true]
    rw [if_pos (by omega), if_pos (by omega), if_pos (by omega), if_pos (by omega), wr1 (by omega)]
    exact ih k (j + 1) (by omega) (by omega)
/-- Equal votes. -/
theorem samevotes_c (A0 : Option Addr) (c0 : Nat) (A1 : Option Addr) (c1 : Nat) (l : List S57) (w : World) (h0 : Kd.C k57 w A0 l.length l) (hc0 : l.length ≤ c0) (h1 : Kd.C k57 w A1 l.length l) (hc1 : l.length ≤ c1) :
    Calls Try.prog 24 #[.slice A0 l.length c0, .slice A1 l.length c1] w fun e w' => e = .returned (.bool true) ∧ Below w.heap.size w w' :=
  (catenaryref05_SameVotes.calls (l.length + 1) A0 c0 l A1 c1 l true w h0 hc0 h1 hc1 (by
    rw [catenaryref05_SameVotes.f, if_pos rfl]
    exact votes_eq l (C_len h0) l.length _ 0 (by omega) (by omega))).mono fun e w' h => ⟨h.1, h.2.below⟩
theorem same01_c (A0 : Option Addr) (c0 : Nat) (A1 : Option Addr) (c1 : Nat) (l : List Int) (w : World) (h0 : Kd.C B8 w A0 l.length l) (hc0 : l.length ≤ c0) (h1 : Kd.C B8 w A1 l.length l) (hc1 : l.length ≤ c1) :
    Calls Try.prog 20 #[.slice A0 l.length c0, .slice A1 l.length c1] w fun e w' => e = .returned (.bool true) ∧ Below w.heap.size w w' :=
  (catenaryref01_Same.calls A0 c0 l A1 c1 l true w h0 hc0 h1 hc1 (by simp [catenaryref01_Same.f])).mono fun e w' h => ⟨h.1, h.2.below⟩
theorem samereq1_c (a : S36) {A2 A3 B2 B3 : Option Addr} {c2 c3 d2 d3 : Nat} (w : World) (ha : RqC w a A2 c2 A3 c3) (hb : RqC w a B2 d2 B3 d3) :
    Calls Try.prog 11 #[.agg #[.int .i64 a.f0, .int .i64 a.f1, .slice A2 a.f2.length c2, .slice A3 a.f3.length c3], .agg #[.int .i64 a.f0, .int .i64 a.f1, .slice B2 a.f2.length d2, .slice B3 a.f3.length d3]] w fun e w' => e = .returned (.bool true) ∧ Below w.heap.size w w' := by
  have h := samereq_c a a w ha hb
  rw [sreq_self] at h
  exact h
set_option maxHeartbeats 2000000 in
theorem samerep_c (x : S30) {A4 A5 A6 A7 B4 B5 B6 B7 : Option Addr} {c4 c5 c6 c7 d4 d5 d6 d7 : Nat} (w : World) (hr : x.f3.length ≤ c4 ∧ Kd.C (Kd.int .u8) w A4 x.f3.length x.f3 ∧ x.f4.length ≤ c5 ∧ Kd.C k57 w A5 x.f4.length x.f4 ∧ x.f5.length ≤ c6 ∧ Kd.C k45 w A6 x.f5.length x.f5 ∧ x.f6.length ≤ c7 ∧ Kd.C (Kd.int .u8) w A7 x.f6.length x.f6) (hs : x.f3.length ≤ d4 ∧ Kd.C (Kd.int .u8) w B4 x.f3.length x.f3 ∧ x.f4.length ≤ d5 ∧ Kd.C k57 w B5 x.f4.length x.f4 ∧ x.f5.length ≤ d6 ∧ Kd.C k45 w B6 x.f5.length x.f5 ∧ x.f6.length ≤ d7 ∧ Kd.C (Kd.int .u8) w B7 x.f6.length x.f6) :
    Calls Try.prog 16 #[.agg #[(.int .i64 x.f0.f0), (.int .i64 x.f0.f1), (.int .i64 x.f1), (.int .i64 x.f2), (.slice A4 x.f3.length c4), (.slice A5 x.f4.length c5), (.slice A6 x.f5.length c6), (.slice A7 x.f6.length c7)], .agg #[(.int .i64 x.f0.f0), (.int .i64 x.f0.f1), (.int .i64 x.f1), (.int .i64 x.f2), (.slice B4 x.f3.length d4), (.slice B5 x.f4.length d5), (.slice B6 x.f5.length d6), (.slice B7 x.f6.length d7)]] w fun e w' => e = .returned (.bool true) ∧ Below w.heap.size w w' := by
  obtain ⟨l4, g4, l5, g5, l6, g6, l7, g7⟩ := hr
  obtain ⟨m4, n4, m5, n5, m6, n6, m7, n7⟩ := hs
  have H := Hp.start (fun _ => False) w
  have hlen := C_len g6
  refine k_enter (args := [(.agg #[(.int .i64 x.f0.f0), (.int .i64 x.f0.f1), (.int .i64 x.f1), (.int .i64 x.f2), (.slice A4 x.f3.length c4), (.slice A5 x.f4.length c5), (.slice A6 x.f5.length c6), (.slice A7 x.f6.length c7)]), (.agg #[(.int .i64 x.f0.f0), (.int .i64 x.f0.f1), (.int .i64 x.f1), (.int .i64 x.f2), (.slice B4 x.f3.length d4), (.slice B5 x.f4.length d5), (.slice B6 x.f5.length d6), (.slice B7 x.f6.length d7)])]) Try.func16 rfl Try.ntmps16 (Nat.le_of_ble_eq_true rfl) ?_
  refine wp_seq ?_
  refine k_list ?_
  refine l_cons (ev_new (cs := [(.int .i64 x.f0.f0), (.int .i64 x.f0.f1), (.int .i64 x.f1), (.int .i64 x.f2), (.slice A4 x.f3.length c4), (.slice A5 x.f4.length c5), (.slice A6 x.f5.length c6), (.slice A7 x.f6.length c7)]) (t := 30) rfl rfl H (by kernel_rfl) ?_)
  intro g1 w1 H1 hg1 hbw1
  refine l_cons (ev_new (cs := [(.int .i64 x.f0.f0), (.int .i64 x.f0.f1), (.int .i64 x.f1), (.int .i64 x.f2), (.slice B4 x.f3.length d4), (.slice B5 x.f4.length d5), (.slice B6 x.f5.length d6), (.slice B7 x.f6.length d7)]) (t := 30) rfl rfl H1 (by kernel_rfl) ?_)
  intro g2 w2 H2 hg2 hbw2
  refine l_cons (ev_run (v := (.bool false)) (w1 := w2) rfl rfl (by kernel_rfl) ?_)
  refine l_nil ?_
  refine n_then ?_
  refine wp_seq ?_
  refine wp_seq ?_
  refine k_list ?_
  refine l_cons (ev_run (v := (.pointer (some (⟨g1, 0, none⟩)))) (w1 := w2) rfl rfl (by kernel_rfl) ?_)
  refine l_cons (ev_run (v := (.agg #[(.int .i64 x.f0.f0), (.int .i64 x.f0.f1)])) (w1 := w2) rfl rfl (run_ld rfl (by kernel_rfl) (At.blk (H2.get 1 rfl) 0) (by kernel_rfl)) ?_)
  refine l_cons (ev_run (v := (.pointer (some (⟨g2, 0, none⟩)))) (w1 := w2) rfl rfl (by kernel_rfl) ?_)
  refine l_cons (ev_run (v := (.agg #[(.int .i64 x.f0.f0), (.int .i64 x.f0.f1)])) (w1 := w2) rfl rfl (run_ld rfl (by kernel_rfl) (At.blk (H2.get 0 rfl) 0) (by kernel_rfl)) ?_)
  refine l_cons (ev_eq (v := (.bool (!(x.f0.f0 == x.f0.f0 && x.f0.f1 == x.f0.f1)))) (v' := (.bool false)) (w1 := w2) rfl rfl (run_neqS rfl (by kernel_rfl) (by kernel_rfl) (by kernel_rfl) (eq25 _ _ _ _ _)) (by simp) ?_)
  refine l_cons (ev_run (v := (.bool false)) (w1 := w2) rfl rfl (by kernel_rfl) ?_)
  refine l_cons (ev_run (v := (.pointer (some (⟨g1, 2, none⟩)))) (w1 := w2) (by kernel_rfl) rfl (by kernel_rfl) ?_)
  refine l_cons (ev_run (v := (.int .i64 x.f1)) (w1 := w2) (by kernel_rfl) rfl (run_ld rfl (by kernel_rfl) (At.blk (H2.get 1 rfl) 2) (by kernel_rfl)) ?_)
  refine l_cons (ev_run (v := (.pointer (some (⟨g2, 2, none⟩)))) (w1 := w2) (by kernel_rfl) rfl (by kernel_rfl) ?_)
  refine l_cons (ev_run (v := (.int .i64 x.f1)) (w1 := w2) (by kernel_rfl) rfl (run_ld rfl (by kernel_rfl) (At.blk (H2.get 0 rfl) 2) (by kernel_rfl)) ?_)
  refine l_cons (ev_eq (v := (.bool ((x.f1 : Int) != x.f1))) (v' := (.bool false)) (w1 := w2) (by kernel_rfl) rfl (by kernel_rfl) (bnef rfl) ?_)
  refine l_cons (ev_run (v := (.bool false)) (w1 := w2) rfl rfl (by kernel_rfl) ?_)
  refine l_cons (ev_run (v := (.bool false)) (w1 := w2) rfl rfl (by kernel_rfl) ?_)
  refine l_cons (ev_run (v := (.pointer (some (⟨g1, 3, none⟩)))) (w1 := w2) (by kernel_rfl) rfl (by kernel_rfl) ?_)
  refine l_cons (ev_run (v := (.int .i64 x.f2)) (w1 := w2) (by kernel_rfl) rfl (run_ld rfl (by kernel_rfl) (At.blk (H2.get 1 rfl) 3) (by kernel_rfl)) ?_)
  refine l_cons (ev_run (v := (.pointer (some (⟨g2, 3, none⟩)))) (w1 := w2) (by kernel_rfl) rfl (by kernel_rfl) ?_)
  refine l_cons (ev_run (v := (.int .i64 x.f2)) (w1 := w2) (by kernel_rfl) rfl (run_ld rfl (by kernel_rfl) (At.blk (H2.get 0 rfl) 3) (by kernel_rfl)) ?_)
  refine l_cons (ev_eq (v := (.bool ((x.f2 : Int) != x.f2))) (v' := (.bool false)) (w1 := w2) (by kernel_rfl) rfl (by kernel_rfl) (bnef rfl) ?_)
  refine l_cons (ev_run (v := (.bool false)) (w1 := w2) rfl rfl (by kernel_rfl) ?_)
  refine l_cons (ev_run (v := (.bool false)) (w1 := w2) rfl rfl (by kernel_rfl) ?_)
  refine l_cons (ev_run (v := (.pointer (some (⟨g1, 4, none⟩)))) (w1 := w2) (by kernel_rfl) rfl (by kernel_rfl) ?_)
  refine l_cons (ev_run (v := (.slice A4 x.f3.length c4)) (w1 := w2) (by kernel_rfl) rfl (run_ld rfl (by kernel_rfl) (At.blk (H2.get 1 rfl) 4) (by kernel_rfl)) ?_)
  refine l_cons (ev_run (v := (.pointer (some (⟨g2, 4, none⟩)))) (w1 := w2) (by kernel_rfl) rfl (by kernel_rfl) ?_)
  refine l_cons (ev_run (v := (.slice B4 x.f3.length d4)) (w1 := w2) (by kernel_rfl) rfl (run_ld rfl (by kernel_rfl) (At.blk (H2.get 0 rfl) 4) (by kernel_rfl)) ?_)
  refine l_cons (ev_call (by kernel_rfl) rfl (f := 20) (args := #[(.slice A4 x.f3.length c4), (.slice B4 x.f3.length d4)]) (by kernel_rfl) (same01_c _ _ _ _ x.f3 _ (C_to g4 H2) l4 (C_to n4 H2) m4) ?_)
  rintro e w3 ⟨rfl, hb_⟩
  refine ⟨_, rfl, ?_⟩
  have H3 := H2.below hb_
  refine l_cons (ev_run (v := (.bool false)) (w1 := w3) (by kernel_rfl) rfl (by kernel_rfl) ?_)
  refine l_cons (ev_run (v := (.bool false)) (w1 := w3) rfl rfl (by kernel_rfl) ?_)
  refine l_cons (ev_run (v := (.bool false)) (w1 := w3) rfl rfl (by kernel_rfl) ?_)
  refine l_cons (ev_run (v := (.pointer (some (⟨g1, 5, none⟩)))) (w1 := w3) (by kernel_rfl) rfl (by kernel_rfl) ?_)
  refine l_cons (ev_run (v := (.slice A5 x.f4.length c5)) (w1 := w3) (by kernel_rfl) rfl (run_ld rfl (by kernel_rfl) (At.blk (H3.get 1 rfl) 5) (by kernel_rfl)) ?_)
  refine l_cons (ev_run (v := (.pointer (some (⟨g2, 5, none⟩)))) (w1 := w3) (by kernel_rfl) rfl (by kernel_rfl) ?_)
  refine l_cons (ev_run (v := (.slice B5 x.f4.length d5)) (w1 := w3) (by kernel_rfl) rfl (run_ld rfl (by kernel_rfl) (At.blk (H3.get 0 rfl) 5) (by kernel_rfl)) ?_)
  refine l_cons (ev_call (by kernel_rfl) rfl (f := 24) (args := #[(.slice A5 x.f4.length c5), (.slice B5 x.f4.length d5)]) (by kernel_rfl) (samevotes_c _ _ _ _ x.f4 _ (C_to g5 H3) l5 (C_to n5 H3) m5) ?_)
  rintro e w4 ⟨rfl, hb_⟩
  refine ⟨_, rfl, ?_⟩
  have H4 := H3.below hb_
  refine l_cons (ev_run (v := (.bool false)) (w1 := w4) (by kernel_rfl) rfl (by kernel_rfl) ?_)
  refine l_cons (ev_run (v := (.bool false)) (w1 := w4) rfl rfl (by kernel_rfl) ?_)
  refine l_cons (ev_run (v := (.bool false)) (w1 := w4) rfl rfl (by kernel_rfl) ?_)
  refine l_cons (ev_run (v := (.pointer (some (⟨g1, 6, none⟩)))) (w1 := w4) (by kernel_rfl) rfl (by kernel_rfl) ?_)
  refine l_cons (ev_run (v := (.slice A6 x.f5.length c6)) (w1 := w4) (by kernel_rfl) rfl (run_ld rfl (by kernel_rfl) (At.blk (H4.get 1 rfl) 6) (by kernel_rfl)) ?_)
  refine l_cons (ev_run (v := (.int .i64 (((x.f5.length : Nat) : Int)))) (w1 := w4) (by kernel_rfl) rfl (by kernel_rfl) ?_)
  refine l_cons (ev_run (v := (.pointer (some (⟨g2, 6, none⟩)))) (w1 := w4) (by kernel_rfl) rfl (by kernel_rfl) ?_)
  refine l_cons (ev_run (v := (.slice B6 x.f5.length d6)) (w1 := w4) (by kernel_rfl) rfl (run_ld rfl (by kernel_rfl) (At.blk (H4.get 0 rfl) 6) (by kernel_rfl)) ?_)
  refine l_cons (ev_run (v := (.int .i64 (((x.f5.length : Nat) : Int)))) (w1 := w4) (by kernel_rfl) rfl (by kernel_rfl) ?_)
  refine l_cons (ev_eq (v := (.bool ((((x.f5.length : Nat) : Int) : Int) != ((x.f5.length : Nat) : Int)))) (v' := (.bool false)) (w1 := w4) (by kernel_rfl) rfl (by kernel_rfl) (bnef rfl) ?_)
  refine l_cons (ev_run (v := (.bool false)) (w1 := w4) rfl rfl (by kernel_rfl) ?_)
  refine l_cons (ev_run (v := (.bool false)) (w1 := w4) rfl rfl (by kernel_rfl) ?_)
  refine l_cons (ev_run (v := (.pointer (some (⟨g1, 7, none⟩)))) (w1 := w4) (by kernel_rfl) rfl (by kernel_rfl) ?_)
  refine l_cons (ev_run (v := (.slice A7 x.f6.length c7)) (w1 := w4) (by kernel_rfl) rfl (run_ld rfl (by kernel_rfl) (At.blk (H4.get 1 rfl) 7) (by kernel_rfl)) ?_)
  refine l_cons (ev_run (v := (.pointer (some (⟨g2, 7, none⟩)))) (w1 := w4) (by kernel_rfl) rfl (by kernel_rfl) ?_)
  refine l_cons (ev_run (v := (.slice B7 x.f6.length d7)) (w1 := w4) (by kernel_rfl) rfl (run_ld rfl (by kernel_rfl) (At.blk (H4.get 0 rfl) 7) (by kernel_rfl)) ?_)
  refine l_cons (ev_call (by kernel_rfl) rfl (f := 20) (args := #[(.slice A7 x.f6.length c7), (.slice B7 x.f6.length d7)]) (by kernel_rfl) (same01_c _ _ _ _ x.f6 _ (C_to g7 H4) l7 (C_to n7 H4) m7) ?_)
  rintro e w5 ⟨rfl, hb_⟩
  refine ⟨_, rfl, ?_⟩
  have H5 := H4.below hb_
  refine l_cons (ev_run (v := (.bool false)) (w1 := w5) (by kernel_rfl) rfl (by kernel_rfl) ?_)
  refine l_cons (ev_run (v := (.bool false)) (w1 := w5) rfl rfl (by kernel_rfl) ?_)
  refine l_nil ?_
  refine n_then ?_
  refine k_false (by kernel_rfl) ?_
  refine wp_skip ?_
  refine n_then ?_
  refine wp_seq ?_
  refine wp_seq ?_
  refine k_list ?_
  refine l_cons (ev_run (v := (.pointer (some (⟨g1, 6, none⟩)))) (w1 := w5) rfl rfl (by kernel_rfl) ?_)
  refine l_cons (ev_run (v := (.slice A6 x.f5.length c6)) (w1 := w5) rfl rfl (run_ld rfl (by kernel_rfl) (At.blk (H5.get 1 rfl) 6) (by kernel_rfl)) ?_)
  refine l_cons (ev_run (v := (.int .i64 (((x.f5.length : Nat) : Int)))) (w1 := w5) rfl rfl (by kernel_rfl) ?_)
  refine l_cons (ev_run (v := (.int .i64 0)) (w1 := w5) rfl rfl (by kernel_rfl) ?_)
  refine l_nil ?_
  refine n_then ?_
  refine wp_block ?_
  refine k_loop (σ := Nat) (fun j => [(2, (.pointer (some (⟨g1, 0, none⟩)))), (3, (.pointer (some (⟨g2, 0, none⟩)))), (61, (.slice A6 x.f5.length c6)), (62, (.int .i64 (((x.f5.length : Nat) : Int)))), (63, (.int .i64 (((j : Nat) : Int))))]) (fun j w' => (j ≤ x.f5.length) ∧ Hp (fun _ => False) w w' [blk g1 [(.int .i64 x.f0.f0), (.int .i64 x.f0.f1), (.int .i64 x.f1), (.int .i64 x.f2), (.slice A4 x.f3.length c4), (.slice A5 x.f4.length c5), (.slice A6 x.f5.length c6), (.slice A7 x.f6.length c7)] 30, blk g2 [(.int .i64 x.f0.f0), (.int .i64 x.f0.f1), (.int .i64 x.f1), (.int .i64 x.f2), (.slice B4 x.f3.length d4), (.slice B5 x.f4.length d5), (.slice B6 x.f5.length d6), (.slice B7 x.f6.length d7)] 30]) (fun j => x.f5.length - j) 0 ⟨(by first | rfl | kernel_rfl), (by first | rfl | kernel_rfl), (by first | rfl | kernel_rfl), (by first | rfl | kernel_rfl), (by first | rfl | kernel_rfl), trivial⟩ ⟨(by omega), H5.sel [1, 0] (by decide)⟩ ?_
  rintro L1 j w6 ⟨hj, H6⟩
  change Code.wp _ _ _ (Fr _ _ [(2, (.pointer (some (⟨g1, 0, none⟩)))), (3, (.pointer (some (⟨g2, 0, none⟩)))), (61, (.slice A6 x.f5.length c6)), (62, (.int .i64 (((x.f5.length : Nat) : Int)))), (63, (.int .i64 (((j : Nat) : Int))))]) _
  rcases Nat.lt_or_ge j x.f5.length with hlt | hge
  · skip
    obtain ⟨ad, rfl⟩ := C_some g6 (by omega) z45
    obtain ⟨p, Ap5, cp5, Ap6, cp6, Ap7, cp7, hp, hpA, lp5, gp5, lp6, gp6, lp7, gp7⟩ := elem45 g6 j hlt
    obtain ⟨bd, rfl⟩ := C_some n6 (by omega) z45
    obtain ⟨y, Ay5, cy5, Ay6, cy6, Ay7, cy7, hy, hyA, ly5, gy5, ly6, gy6, ly7, gy7⟩ := elem45 n6 j hlt
    have hyy := hp.trans hy.symm
    subst hyy
    refine wp_seq ?_
    refine k_list ?_
    refine l_cons (ev_eq (v := (.bool (decide ((((j : Nat) : Int) : Int) < ((x.f5.length : Nat) : Int))))) (v' := (.bool true)) (w1 := w6) rfl rfl (by kernel_rfl) (bt (by first | assumption | omega)) ?_)
    refine l_nil ?_
    refine n_then ?_
    refine wp_seq ?_
    refine k_true (by kernel_rfl) ?_
    refine wp_skip ?_
    refine n_then ?_
    refine wp_seq ?_
    refine wp_block ?_
    refine wp_seq ?_
    refine k_list ?_
    refine l_cons (ev_run (v := (.int .i64 (((j : Nat) : Int)))) (w1 := w6) rfl rfl (by kernel_rfl) ?_)
    refine l_cons (ev_run (v := (.pointer (some ((ad).add (j * 8))))) (w1 := w6) rfl rfl (run_ixa (sz := 8) (q := j) (ad := ad) (len := x.f5.length) (cap := c6) (k := .i64) (z := ((j : Nat) : Int)) rfl (by kernel_rfl) (by kernel_rfl) rfl (by kernel_rfl) (by first | rfl | omega) (by first | omega | decide)) ?_)
    refine l_cons (ev_run (v := (.agg #[(.int .i64 p.f0), (.int .i64 p.f1.f0), (.int .i64 p.f1.f1), (.int .i64 p.f2.f0), (.int .i64 p.f2.f1), (.slice Ap5 p.f2.f2.length cp5), (.slice Ap6 p.f2.f3.length cp6), (.slice Ap7 p.f3.length cp7)])) (w1 := w6) rfl rfl (run_ld rfl (by kernel_rfl) (At.hp hpA H6 (fun h => h)) (by kernel_rfl)) ?_)
    refine l_cons (ev_new (cs := [(.int .i64 0), (.int .i64 0), (.int .i64 0), (.int .i64 0), (.int .i64 0), (.slice none 0 0), (.slice none 0 0), (.slice none 0 0)]) (t := 45) rfl rfl H6 (by kernel_rfl) ?_)
    intro g3 w7 H7 hg3 hbw7
    refine l_cons (ev_run (v := (.int .i64 (((j : Nat) : Int)))) (w1 := w7) rfl rfl (by kernel_rfl) ?_)
    refine l_cons (ev_store (i := 0) rfl rfl rfl H7 (k := 0) rfl (by kernel_rfl) (.agg #[(.int .i64 p.f0), (.int .i64 p.f1.f0), (.int .i64 p.f1.f1), (.int .i64 p.f2.f0), (.int .i64 p.f2.f1), (.slice Ap5 p.f2.f2.length cp5), (.slice Ap6 p.f2.f3.length cp6), (.slice Ap7 p.f3.length cp7)]) (by kernel_rfl) [(.int .i64 p.f0), (.int .i64 p.f1.f0), (.int .i64 p.f1.f1), (.int .i64 p.f2.f0), (.int .i64 p.f2.f1), (.slice Ap5 p.f2.f2.length cp5), (.slice Ap6 p.f2.f3.length cp6), (.slice Ap7 p.f3.length cp7)] (by kernel_rfl) (by kernel_rfl) (by kernel_rfl) (by kernel_rfl) [(.int .i64 p.f0), (.int .i64 p.f1.f0), (.int .i64 p.f1.f1), (.int .i64 p.f2.f0), (.int .i64 p.f2.f1), (.slice Ap5 p.f2.f2.length cp5), (.slice Ap6 p.f2.f3.length cp6), (.slice Ap7 p.f3.length cp7)] (by kernel_rfl) ?_)
    intro w8 H8 hcw8
    refine l_nil ?_
    refine n_then ?_
    refine wp_seq ?_
    refine k_list ?_
    refine l_cons (ev_run (v := (.pointer (some (⟨g2, 6, none⟩)))) (w1 := w8) rfl rfl (by kernel_rfl) ?_)
    refine l_cons (ev_run (v := (.slice (some (bd)) x.f5.length d6)) (w1 := w8) rfl rfl (run_ld rfl (by kernel_rfl) (At.blk (H8.get 2 rfl) 6) (by kernel_rfl)) ?_)
    refine l_cons (ev_run (v := (.int .i64 (((j : Nat) : Int)))) (w1 := w8) rfl rfl (by kernel_rfl) ?_)
    refine l_cons (ev_run (v := (.pointer (some ((bd).add (j * 8))))) (w1 := w8) rfl rfl (run_ixa (sz := 8) (q := j) (ad := bd) (len := x.f5.length) (cap := d6) (k := .i64) (z := ((j : Nat) : Int)) rfl (by kernel_rfl) (by kernel_rfl) rfl (by kernel_rfl) (by first | rfl | omega) (by first | omega | decide)) ?_)
    refine l_cons (ev_run (v := (.agg #[(.int .i64 p.f0), (.int .i64 p.f1.f0), (.int .i64 p.f1.f1), (.int .i64 p.f2.f0), (.int .i64 p.f2.f1), (.slice Ay5 p.f2.f2.length cy5), (.slice Ay6 p.f2.f3.length cy6), (.slice Ay7 p.f3.length cy7)])) (w1 := w8) rfl rfl (run_ld rfl (by kernel_rfl) (At.hp hyA H8 (fun h => h)) (by kernel_rfl)) ?_)
    refine l_cons (ev_new (cs := [(.int .i64 0), (.int .i64 0), (.int .i64 0), (.int .i64 0), (.int .i64 0), (.slice none 0 0), (.slice none 0 0), (.slice none 0 0)]) (t := 45) rfl rfl H8 (by kernel_rfl) ?_)
    intro g4 w9 H9 hg4 hbw9
    refine l_cons (ev_store (i := 0) rfl rfl rfl H9 (k := 0) rfl (by kernel_rfl) (.agg #[(.int .i64 p.f0), (.int .i64 p.f1.f0), (.int .i64 p.f1.f1), (.int .i64 p.f2.f0), (.int .i64 p.f2.f1), (.slice Ay5 p.f2.f2.length cy5), (.slice Ay6 p.f2.f3.length cy6), (.slice Ay7 p.f3.length cy7)]) (by kernel_rfl) [(.int .i64 p.f0), (.int .i64 p.f1.f0), (.int .i64 p.f1.f1), (.int .i64 p.f2.f0), (.int .i64 p.f2.f1), (.slice Ay5 p.f2.f2.length cy5), (.slice Ay6 p.f2.f3.length cy6), (.slice Ay7 p.f3.length cy7)] (by kernel_rfl) (by kernel_rfl) (by kernel_rfl) (by kernel_rfl) [(.int .i64 p.f0), (.int .i64 p.f1.f0), (.int .i64 p.f1.f1), (.int .i64 p.f2.f0), (.int .i64 p.f2.f1), (.slice Ay5 p.f2.f2.length cy5), (.slice Ay6 p.f2.f3.length cy6), (.slice Ay7 p.f3.length cy7)] (by kernel_rfl) ?_)
    intro w10 H10 hcw10
    refine l_nil ?_
    refine n_then ?_
    refine wp_seq ?_
    refine k_list ?_
    refine l_cons (ev_run (v := (.pointer (some (⟨g3, 0, none⟩)))) (w1 := w10) rfl rfl (by kernel_rfl) ?_)
    refine l_cons (ev_run (v := (.int .i64 p.f0)) (w1 := w10) rfl rfl (run_ld rfl (by kernel_rfl) (At.blk (H10.get 1 rfl) 0) (by kernel_rfl)) ?_)
    refine l_cons (ev_run (v := (.pointer (some (⟨g4, 0, none⟩)))) (w1 := w10) rfl rfl (by kernel_rfl) ?_)
    refine l_cons (ev_run (v := (.int .i64 p.f0)) (w1 := w10) rfl rfl (run_ld rfl (by kernel_rfl) (At.blk (H10.get 0 rfl) 0) (by kernel_rfl)) ?_)
    refine l_cons (ev_eq (v := (.bool ((p.f0 : Int) != p.f0))) (v' := (.bool false)) (w1 := w10) rfl rfl (by kernel_rfl) (bnef rfl) ?_)
    refine l_cons (ev_run (v := (.bool false)) (w1 := w10) rfl rfl (by kernel_rfl) ?_)
    refine l_cons (ev_run (v := (.pointer (some (⟨g3, 1, none⟩)))) (w1 := w10) (by kernel_rfl) rfl (by kernel_rfl) ?_)
    refine l_cons (ev_run (v := (.agg #[(.int .i64 p.f1.f0), (.int .i64 p.f1.f1)])) (w1 := w10) (by kernel_rfl) rfl (run_ld rfl (by kernel_rfl) (At.blk (H10.get 1 rfl) 1) (by kernel_rfl)) ?_)
    refine l_cons (ev_run (v := (.pointer (some (⟨g4, 1, none⟩)))) (w1 := w10) (by kernel_rfl) rfl (by kernel_rfl) ?_)
    refine l_cons (ev_run (v := (.agg #[(.int .i64 p.f1.f0), (.int .i64 p.f1.f1)])) (w1 := w10) (by kernel_rfl) rfl (run_ld rfl (by kernel_rfl) (At.blk (H10.get 0 rfl) 1) (by kernel_rfl)) ?_)
    refine l_cons (ev_eq (v := (.bool (!(p.f1.f0 == p.f1.f0 && p.f1.f1 == p.f1.f1)))) (v' := (.bool false)) (w1 := w10) (by kernel_rfl) rfl (run_neqS rfl (by kernel_rfl) (by kernel_rfl) (by kernel_rfl) (eq25 _ _ _ _ _)) (by simp) ?_)
    refine l_cons (ev_run (v := (.bool false)) (w1 := w10) rfl rfl (by kernel_rfl) ?_)
    refine l_cons (ev_run (v := (.bool false)) (w1 := w10) rfl rfl (by kernel_rfl) ?_)
    refine l_cons (ev_run (v := (.pointer (some (⟨g3, 3, none⟩)))) (w1 := w10) (by kernel_rfl) rfl (by kernel_rfl) ?_)
    refine l_cons (ev_run (v := (.agg #[(.int .i64 p.f2.f0), (.int .i64 p.f2.f1), (.slice Ap5 p.f2.f2.length cp5), (.slice Ap6 p.f2.f3.length cp6)])) (w1 := w10) (by kernel_rfl) rfl (run_ld rfl (by kernel_rfl) (At.blk (H10.get 1 rfl) 3) (by kernel_rfl)) ?_)
    refine l_cons (ev_run (v := (.pointer (some (⟨g4, 3, none⟩)))) (w1 := w10) (by kernel_rfl) rfl (by kernel_rfl) ?_)
    refine l_cons (ev_run (v := (.agg #[(.int .i64 p.f2.f0), (.int .i64 p.f2.f1), (.slice Ay5 p.f2.f2.length cy5), (.slice Ay6 p.f2.f3.length cy6)])) (w1 := w10) (by kernel_rfl) rfl (run_ld rfl (by kernel_rfl) (At.blk (H10.get 0 rfl) 3) (by kernel_rfl)) ?_)
    refine l_cons (ev_call (by kernel_rfl) rfl (f := 11) (args := #[(.agg #[(.int .i64 p.f2.f0), (.int .i64 p.f2.f1), (.slice Ap5 p.f2.f2.length cp5), (.slice Ap6 p.f2.f3.length cp6)]), (.agg #[(.int .i64 p.f2.f0), (.int .i64 p.f2.f1), (.slice Ay5 p.f2.f2.length cy5), (.slice Ay6 p.f2.f3.length cy6)])]) (by kernel_rfl) (samereq1_c p.f2 _ ⟨lp5, C_to gp5 H10, lp6, C_to gp6 H10⟩ ⟨ly5, C_to gy5 H10, ly6, C_to gy6 H10⟩) ?_)
    rintro e w11 ⟨rfl, hb_⟩
    refine ⟨_, rfl, ?_⟩
    have H11 := H10.below hb_
    refine l_cons (ev_run (v := (.bool false)) (w1 := w11) (by kernel_rfl) rfl (by kernel_rfl) ?_)
    refine l_cons (ev_run (v := (.bool false)) (w1 := w11) rfl rfl (by kernel_rfl) ?_)
    refine l_cons (ev_run (v := (.bool false)) (w1 := w11) rfl rfl (by kernel_rfl) ?_)
    refine l_cons (ev_run (v := (.pointer (some (⟨g3, 7, none⟩)))) (w1 := w11) (by kernel_rfl) rfl (by kernel_rfl) ?_)
    refine l_cons (ev_run (v := (.slice Ap7 p.f3.length cp7)) (w1 := w11) (by kernel_rfl) rfl (run_ld rfl (by kernel_rfl) (At.blk (H11.get 1 rfl) 7) (by kernel_rfl)) ?_)
    refine l_cons (ev_run (v := (.pointer (some (⟨g4, 7, none⟩)))) (w1 := w11) (by kernel_rfl) rfl (by kernel_rfl) ?_)
    refine l_cons (ev_run (v := (.slice Ay7 p.f3.length cy7)) (w1 := w11) (by kernel_rfl) rfl (run_ld rfl (by kernel_rfl) (At.blk (H11.get 0 rfl) 7) (by kernel_rfl)) ?_)
    refine l_cons (ev_call (by kernel_rfl) rfl (f := 24) (args := #[(.slice Ap7 p.f3.length cp7), (.slice Ay7 p.f3.length cy7)]) (by kernel_rfl) (samevotes_c _ _ _ _ p.f3 _ (C_to gp7 H11) lp7 (C_to gy7 H11) ly7) ?_)
    rintro e w12 ⟨rfl, hb_⟩
    refine ⟨_, rfl, ?_⟩
    have H12 := H11.below hb_
    refine l_cons (ev_run (v := (.bool false)) (w1 := w12) (by kernel_rfl) rfl (by kernel_rfl) ?_)
    refine l_cons (ev_run (v := (.bool false)) (w1 := w12) rfl rfl (by kernel_rfl) ?_)
    refine l_nil ?_
    refine n_then ?_
    refine k_false (by kernel_rfl) ?_
    refine wp_skip ?_
    refine n_in ?_
    refine n_then ?_
    refine k_list ?_
    refine l_cons (ev_eq (v := (.int .i64 (IntKind.i64.wrap (((j : Nat) : Int) + 1)))) (v' := (.int .i64 ((((j : Nat) : Int) + 1)))) (w1 := w12) rfl rfl (by kernel_rfl) (wr64 (by omega) (by omega)) ?_)
    refine l_cons (ev_run (v := (.int .i64 ((((j : Nat) : Int) + 1)))) (w1 := w12) rfl rfl (by kernel_rfl) ?_)
    refine l_nil ?_
    refine n_then ?_
    exact k_round (j + 1) ⟨(by first | rfl | kernel_rfl), (by first | rfl | kernel_rfl), (by first | rfl | kernel_rfl), (by first | rfl | kernel_rfl), (by first | rfl | kernel_rfl), trivial⟩ ⟨(by omega), H12.sel [2, 3] (by decide)⟩ (by first | omega | (simp; omega))
  · skip
    refine wp_seq ?_
    refine k_list ?_
    refine l_cons (ev_eq (v := (.bool (decide ((((j : Nat) : Int) : Int) < ((x.f5.length : Nat) : Int))))) (v' := (.bool false)) (w1 := w6) rfl rfl (by kernel_rfl) (bf (by first | assumption | omega)) ?_)
    refine l_nil ?_
    refine n_then ?_
    refine wp_seq ?_
    refine k_false (by kernel_rfl) ?_
    refine wp_exit ?_
    refine e_then ?_
    refine e_then ?_
    refine e_in ?_
    refine n_then ?_
    refine wp_seq ?_
    refine k_list ?_
    refine l_cons (ev_run (v := (.bool true)) (w1 := w6) rfl rfl (by kernel_rfl) ?_)
    refine l_nil ?_
    refine n_then ?_
    refine wp_ret ?_
    refine b_ret (v := (.bool true)) (resS rfl (.tmp (by kernel_rfl) .nil)) ?_
    exact ⟨rfl, H6.to_below⟩
end Go.Proofs.Ytpnelfefchdhcaa
