/- The chapter's example is alive; VoteNames: the walk of the law. -/
import Derived.Test.YtokpdecpmcbcpaaV13
namespace Go.Proofs.Ytokpdecpmcbcpaa
open Go.RowKit Go.Proofs.YtokpdecpmcbcpaaW.PrintWords Go.Proofs.YtokpdecpmcbcpaaW.PrintLast Go.Proofs.YtokpdecpmcbcpaaW.PrintMore
open Go.Proofs.Ytokpdecpmcbcpaa.PVoteMakes
set_option linter.unusedVariables false
set_option linter.unusedSimpArgs false
set_option maxRecDepth 100000

theorem same8_self (a : List Int) : same8 a a = true := by simp [same8]
theorem alive_ne : same8 (sigB 4 (parts 2 1 0 3 [120])) (sigB 4 (parts 2 2 0 3 [120])) = false := by decide +kernel
theorem sigB_length (k : Nat) (l : List (List Int)) : (sigB k l).length = 32 := shaF_length _
theorem by32 {A : Option Addr} {c : Nat} {xs : List Int} {w : World} (hx : xs.length = 32) (h : (byR A 32 c xs).ok w) : Kd.C B8 w A xs.length xs ∧ xs.length ≤ c := by
  have h2 : (byR A xs.length c xs).ok w := by rw [hx]; exact h
  exact ⟨byR_C h2, byR_le h2⟩
set_option maxHeartbeats 1000000 in
theorem alive_c (w : World) : Calls Try.prog 7 #[] w fun e w' => e = .returned (.bool true) ∧ Below w.heap.size w w' := by
  have H := Hp.start (fun _ => False) w
  refine k_enter (args := []) Try.func7 rfl Try.ntmps7 (Nat.le_of_ble_eq_true rfl) ?_
  refine wp_seq ?_
  refine k_list ?_
  refine l_cons (ev_run (v := (.bool false)) (w1 := w) rfl rfl (by kernel_rfl) ?_)
  refine l_nil ?_
  refine n_then ?_
  refine wp_seq ?_
  refine k_list ?_
  refine l_cons (ev_run (v := (.agg #[(.int .i64 1), (.int .i64 0)])) (w1 := w) rfl rfl (by kernel_rfl) ?_)
  refine l_cons (ev_newRow (cs := [(.int .u8 120)]) (t := 5) (len := 1) rfl rfl H (by kernel_rfl) ?_)
  intro g1 w1 H1 hg1 hbw1
  refine l_cons (ev_conv (k := 0) (e := 5) (m := 1) (c := 1) [120] rfl rfl rfl (by kernel_rfl) Try.underlying24 Try.underlying5 H1 rfl rfl rfl (by decide) (by decide) ?_)
  intro w2 H2 hcw2
  refine l_cons (ev_call rfl rfl (f := 8) (args := #[(.int .i64 2), (.agg #[(.int .i64 1), (.int .i64 0)]), (.int .i64 3), (.slice (some (⟨g1, 0, none⟩)) 1 1), (.int .i64 4)]) (by kernel_rfl) (make_c 2 1 0 3 _ _ [120] 4 (by decide) _ (slR_C (H2.get 0 rfl)) (H2.get 0 rfl).1.1 (by decide)) ?_)
  rintro e w3 ⟨Am, cm, rfl, hH_⟩
  refine ⟨_, rfl, ?_⟩
  have H3 := H2.join hH_
  have hb_ := hH_.to_below
  refine l_cons (ev_new (cs := [(.int .i64 0), (.slice none 0 0)]) (t := 26) rfl rfl H3 (by kernel_rfl) ?_)
  intro g2 w4 H4 hg2 hbw4
  refine l_cons (ev_store (i := 0) rfl rfl rfl H4 (k := 0) rfl (by kernel_rfl) (.agg #[(.int .i64 4), (.slice Am 32 cm)]) (by kernel_rfl) [(.int .i64 4), (.slice Am 32 cm)] (by kernel_rfl) (by kernel_rfl) (by kernel_rfl) (by kernel_rfl) [(.int .i64 4), (.slice Am 32 cm)] (by kernel_rfl) ?_)
  intro w5 H5 hcw5
  refine l_nil ?_
  refine n_then ?_
  refine wp_seq ?_
  refine k_list ?_
  refine l_cons (ev_run (v := (.pointer (some (⟨g2, 0, none⟩)))) (w1 := w5) rfl rfl (by kernel_rfl) ?_)
  refine l_cons (ev_run (v := (.int .i64 4)) (w1 := w5) rfl rfl (run_ld rfl (by kernel_rfl) (At.blk (H5.get 0 rfl) 0) (by kernel_rfl)) ?_)
  refine l_cons (ev_run (v := (.bool true)) (w1 := w5) rfl rfl (by kernel_rfl) ?_)
  refine l_cons (ev_run (v := (.bool true)) (w1 := w5) rfl rfl (by kernel_rfl) ?_)
  refine l_cons (ev_run (v := (.pointer (some (⟨g2, 1, none⟩)))) (w1 := w5) (by kernel_rfl) rfl (by kernel_rfl) ?_)
  refine l_cons (ev_run (v := (.slice Am 32 cm)) (w1 := w5) (by kernel_rfl) rfl (run_ld rfl (by kernel_rfl) (At.blk (H5.get 0 rfl) 1) (by kernel_rfl)) ?_)
  refine l_cons (ev_run (v := (.int .i64 32)) (w1 := w5) (by kernel_rfl) rfl (by kernel_rfl) ?_)
  refine l_cons (ev_run (v := (.bool true)) (w1 := w5) (by kernel_rfl) rfl (by kernel_rfl) ?_)
  refine l_cons (ev_run (v := (.bool true)) (w1 := w5) rfl rfl (by kernel_rfl) ?_)
  refine l_cons (ev_run (v := (.bool true)) (w1 := w5) rfl rfl (by kernel_rfl) ?_)
  refine l_cons (ev_run (v := (.agg #[(.int .i64 1), (.int .i64 0)])) (w1 := w5) (by kernel_rfl) rfl (by kernel_rfl) ?_)
  refine l_cons (ev_newRow (cs := [(.int .u8 120)]) (t := 5) (len := 1) (by kernel_rfl) rfl H5 (by kernel_rfl) ?_)
  intro g3 w6 H6 hg3 hbw6
  refine l_cons (ev_conv (k := 0) (e := 5) (m := 1) (c := 1) [120] (by kernel_rfl) rfl rfl (by kernel_rfl) Try.underlying24 Try.underlying5 H6 rfl rfl rfl (by decide) (by decide) ?_)
  intro w7 H7 hcw7
  refine l_cons (ev_run (v := (.agg #[(.int .i64 4), (.slice Am 32 cm)])) (w1 := w7) (by kernel_rfl) rfl (run_ld rfl (by kernel_rfl) (At.blk (H7.get 1 rfl) 0) (by kernel_rfl)) ?_)
  refine l_cons (ev_call (by kernel_rfl) rfl (f := 9) (args := #[(.int .i64 2), (.agg #[(.int .i64 1), (.int .i64 0)]), (.int .i64 3), (.slice (some (⟨g3, 0, none⟩)) 1 1), (.agg #[(.int .i64 4), (.slice Am 32 cm)])]) (by kernel_rfl) ((vright_c 2 1 0 3 _ _ [120] 4 (by decide) Am cm (sigB 4 (parts 2 1 0 3 [120])) _ (slR_C (H7.get 0 rfl)) (H7.get 0 rfl).1.1 (by decide) (by32 (sigB_length _ _) (H7.get 2 rfl)).1 (by32 (sigB_length _ _) (H7.get 2 rfl)).2).mono (fun e w' h => (show e = .returned (.bool true) ∧ _ from by rw [same8_self] at h; exact h))) ?_)
  rintro e w8 ⟨rfl, hb_⟩
  refine ⟨_, rfl, ?_⟩
  have H8 := H7.below hb_
  refine l_cons (ev_run (v := (.bool true)) (w1 := w8) rfl rfl (by kernel_rfl) ?_)
  refine l_cons (ev_run (v := (.bool true)) (w1 := w8) rfl rfl (by kernel_rfl) ?_)
  refine l_cons (ev_run (v := (.agg #[(.int .i64 2), (.int .i64 0)])) (w1 := w8) (by kernel_rfl) rfl (by kernel_rfl) ?_)
  refine l_cons (ev_newRow (cs := [(.int .u8 120)]) (t := 5) (len := 1) (by kernel_rfl) rfl H8 (by kernel_rfl) ?_)
  intro g4 w9 H9 hg4 hbw9
  refine l_cons (ev_conv (k := 0) (e := 5) (m := 1) (c := 1) [120] (by kernel_rfl) rfl rfl (by kernel_rfl) Try.underlying24 Try.underlying5 H9 rfl rfl rfl (by decide) (by decide) ?_)
  intro w10 H10 hcw10
  refine l_cons (ev_run (v := (.agg #[(.int .i64 4), (.slice Am 32 cm)])) (w1 := w10) (by kernel_rfl) rfl (run_ld rfl (by kernel_rfl) (At.blk (H10.get 2 rfl) 0) (by kernel_rfl)) ?_)
  refine l_cons (ev_call (by kernel_rfl) rfl (f := 9) (args := #[(.int .i64 2), (.agg #[(.int .i64 2), (.int .i64 0)]), (.int .i64 3), (.slice (some (⟨g4, 0, none⟩)) 1 1), (.agg #[(.int .i64 4), (.slice Am 32 cm)])]) (by kernel_rfl) ((vright_c 2 2 0 3 _ _ [120] 4 (by decide) Am cm (sigB 4 (parts 2 1 0 3 [120])) _ (slR_C (H10.get 0 rfl)) (H10.get 0 rfl).1.1 (by decide) (by32 (sigB_length _ _) (H10.get 3 rfl)).1 (by32 (sigB_length _ _) (H10.get 3 rfl)).2).mono (fun e w' h => (show e = .returned (.bool false) ∧ _ from by rw [alive_ne] at h; exact h))) ?_)
  rintro e w11 ⟨rfl, hb_⟩
  refine ⟨_, rfl, ?_⟩
  have H11 := H10.below hb_
  refine l_cons (ev_run (v := (.bool true)) (w1 := w11) (by kernel_rfl) rfl (by kernel_rfl) ?_)
  refine l_cons (ev_run (v := (.bool true)) (w1 := w11) rfl rfl (by kernel_rfl) ?_)
  refine l_cons (ev_run (v := (.bool true)) (w1 := w11) rfl rfl (by kernel_rfl) ?_)
  refine l_nil ?_
  refine n_then ?_
  refine wp_ret ?_
  refine b_ret (v := (.bool true)) (resS rfl (.tmp (by kernel_rfl) .nil)) ?_
  exact ⟨rfl, H11.to_below⟩

theorem names_c (w : World) : Calls Try.prog 3 #[] w fun e w' => e = .returned (.bool true) ∧ Below w.heap.size w w' := by
  have H := Hp.start (fun _ => False) w
  refine k_enter (args := []) Try.func3 rfl Try.ntmps3 (Nat.le_of_ble_eq_true rfl) ?_
  refine wp_seq ?_
  refine k_list ?_
  refine l_cons (ev_run (v := (.bool false)) (w1 := w) rfl rfl (by kernel_rfl) ?_)
  refine l_nil ?_
  refine n_then ?_
  refine wp_seq ?_
  refine k_list ?_
  refine l_cons (ev_call rfl rfl (f := 7) (args := #[]) (by kernel_rfl) (alive_c _) ?_)
  rintro e w1 ⟨rfl, hb_⟩
  refine ⟨_, rfl, ?_⟩
  have H1 := H.below hb_
  refine l_cons (ev_run (v := (.bool true)) (w1 := w1) rfl rfl (by kernel_rfl) ?_)
  refine l_cons (ev_run (v := (.bool true)) (w1 := w1) rfl rfl (by kernel_rfl) ?_)
  refine l_cons (ev_run (v := (.bool true)) (w1 := w1) rfl rfl (by kernel_rfl) ?_)
  refine l_cons (ev_run (v := (.bool true)) (w1 := w1) rfl rfl (by kernel_rfl) ?_)
  refine l_cons (ev_run (v := (.bool true)) (w1 := w1) rfl rfl (by kernel_rfl) ?_)
  refine l_nil ?_
  refine n_then ?_
  refine wp_ret ?_
  refine b_ret (v := (.bool true)) (resS rfl (.tmp (by kernel_rfl) .nil)) ?_
  exact ⟨rfl, H1.to_below⟩
end Go.Proofs.Ytokpdecpmcbcpaa
