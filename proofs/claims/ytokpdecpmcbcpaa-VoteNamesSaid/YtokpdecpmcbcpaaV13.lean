/- Whether a vote is right; the chapter's example is alive; VoteNames: the walk of the law. -/
import Derived.Test.YtokpdecpmcbcpaaV12
namespace Go.Proofs.Ytokpdecpmcbcpaa
open Go.RowKit Go.Proofs.YtokpdecpmcbcpaaW.PrintWords Go.Proofs.YtokpdecpmcbcpaaW.PrintLast Go.Proofs.YtokpdecpmcbcpaaW.PrintMore
open Go.Proofs.Ytokpdecpmcbcpaa.PVoteMakes
set_option linter.unusedVariables false
set_option linter.unusedSimpArgs false
set_option maxRecDepth 100000

theorem sverify_c (k : Nat) (hk : k ≤ 127) (As : Option Addr) (cs : Nat) (sg : List Int) (A : Option Addr) (c : Nat) (l : List (List Int)) (w : World) (hS : Kd.C B8 w As sg.length sg) (hsc : sg.length ≤ cs) (hC : Kd.C kby w A l.length l) (hl : (packB l).length ≤ 140737488354900) :
    Calls Try.prog 21 #[.agg #[.int .i64 (k : Nat), .string voteS, .slice A l.length c], .slice As sg.length cs] w fun e w' => e = .returned (.bool (same8 sg (sigB k l))) ∧ Below w.heap.size w w' := by
  have H := Hp.start (fun _ => False) w
  refine k_enter (args := [(.agg #[(.int .i64 (((k : Nat) : Int))), (.string voteS), (.slice A l.length c)]), (.slice As sg.length cs)]) Try.func21 rfl Try.ntmps21 (Nat.le_of_ble_eq_true rfl) ?_
  refine wp_seq ?_
  refine k_list ?_
  refine l_cons (ev_new (cs := [(.int .i64 (((k : Nat) : Int))), (.string voteS), (.slice A l.length c)]) (t := 44) rfl rfl H (by kernel_rfl) ?_)
  intro g1 w1 H1 hg1 hbw1
  refine l_cons (ev_run (v := (.bool false)) (w1 := w1) rfl rfl (by kernel_rfl) ?_)
  refine l_nil ?_
  refine n_then ?_
  refine wp_seq ?_
  refine k_list ?_
  refine l_cons (ev_run (v := (.pointer (some (⟨g1, 0, none⟩)))) (w1 := w1) rfl rfl (by kernel_rfl) ?_)
  refine l_cons (ev_run (v := (.int .i64 (((k : Nat) : Int)))) (w1 := w1) rfl rfl (run_ld rfl (by kernel_rfl) (At.blk (H1.get 0 rfl) 0) (by kernel_rfl)) ?_)
  refine l_cons (ev_run (v := (.slice As sg.length cs)) (w1 := w1) rfl rfl (by kernel_rfl) ?_)
  refine l_cons (ev_run (v := (.pointer (some (⟨g1, 1, none⟩)))) (w1 := w1) rfl rfl (by kernel_rfl) ?_)
  refine l_cons (ev_run (v := (.string voteS)) (w1 := w1) rfl rfl (run_ld rfl (by kernel_rfl) (At.blk (H1.get 0 rfl) 1) (by kernel_rfl)) ?_)
  refine l_cons (ev_run (v := (.pointer (some (⟨g1, 2, none⟩)))) (w1 := w1) rfl rfl (by kernel_rfl) ?_)
  refine l_cons (ev_run (v := (.slice A l.length c)) (w1 := w1) rfl rfl (run_ld rfl (by kernel_rfl) (At.blk (H1.get 0 rfl) 2) (by kernel_rfl)) ?_)
  refine l_cons (ev_call rfl rfl (f := 34) (args := #[(.int .i64 (((k : Nat) : Int))), (.slice As sg.length cs), (.string voteS), (.slice A l.length c)]) (by kernel_rfl) (kverify_c k hk As cs sg A c l _ (C_to hS H1) hsc (C_to hC H1) hl) ?_)
  rintro e w2 ⟨rfl, hb_⟩
  refine ⟨_, rfl, ?_⟩
  have H2 := H1.below hb_
  refine l_cons (ev_run (v := (.bool (same8 sg (sigB k l)))) (w1 := w2) rfl rfl (by kernel_rfl) ?_)
  refine l_nil ?_
  refine n_then ?_
  refine wp_ret ?_
  refine b_ret (v := (.bool (same8 sg (sigB k l)))) (resS rfl (.tmp (by kernel_rfl) .nil)) ?_
  exact ⟨rfl, H2.to_below⟩

theorem vright_c (kind v t slot : Int) (A : Option Addr) (c : Nat) (body : List Int) (k : Nat) (hk : k ≤ 15) (As : Option Addr) (cs : Nat) (sg : List Int) (w : World) (hC : Kd.C B8 w A body.length body) (hc : body.length ≤ c) (hl : body.length ≤ 140737488354000) (hS : Kd.C B8 w As sg.length sg) (hsc : sg.length ≤ cs) :
    Calls Try.prog 9 #[.int .i64 kind, .agg #[.int .i64 v, .int .i64 t], .int .i64 slot, .slice A body.length c, .agg #[.int .i64 (k : Nat), .slice As sg.length cs]] w fun e w' => e = .returned (.bool (same8 sg (sigB k (parts kind v t slot body)))) ∧ Below w.heap.size w w' := by
  have H := Hp.start (fun _ => False) w
  have hpl := parts_le kind v t slot body
  refine k_enter (args := [(.int .i64 kind), (.agg #[(.int .i64 v), (.int .i64 t)]), (.int .i64 slot), (.slice A body.length c), (.agg #[(.int .i64 (((k : Nat) : Int))), (.slice As sg.length cs)])]) Try.func9 rfl Try.ntmps9 (Nat.le_of_ble_eq_true rfl) ?_
  refine wp_seq ?_
  refine k_list ?_
  refine l_cons (ev_new (cs := [(.int .i64 v), (.int .i64 t)]) (t := 29) rfl rfl H (by kernel_rfl) ?_)
  intro g1 w1 H1 hg1 hbw1
  refine l_cons (ev_new (cs := [(.int .i64 (((k : Nat) : Int))), (.slice As sg.length cs)]) (t := 26) rfl rfl H1 (by kernel_rfl) ?_)
  intro g2 w2 H2 hg2 hbw2
  refine l_cons (ev_run (v := (.bool false)) (w1 := w2) rfl rfl (by kernel_rfl) ?_)
  refine l_nil ?_
  refine n_then ?_
  refine wp_seq ?_
  refine r_start (m := 11) (fun j => false) (fun w' => Hp (fun _ => False) w w' [blk g2 [(.int .i64 (((k : Nat) : Int))), (.slice As sg.length cs)] 26, blk g1 [(.int .i64 v), (.int .i64 t)] 29]) (by kernel_rfl) rfl (by kernel_rfl) (fun _ _ _ _ _ h => h) ?_
  have H3 := H2.drew
  refine r_take (i := 0) (v := (.int .i64 kind)) rfl (by kernel_rfl) (by kernel_rfl) (by kernel_rfl) rfl H3 (fun _ _ => by kernel_rfl) ?_
  refine r_take (i := 1) (v := (.agg #[(.int .i64 v), (.int .i64 t)])) rfl (by kernel_rfl) (by kernel_rfl) (by kernel_rfl) rfl H3 (fun w_ hs_ => (run_ld rfl (by kernel_rfl) (At.blk (hs_.get 1 rfl) 0) (by kernel_rfl))) ?_
  refine r_take (i := 2) (v := (.int .i64 slot)) rfl (by kernel_rfl) (by kernel_rfl) (by kernel_rfl) rfl H3 (fun _ _ => by kernel_rfl) ?_
  refine r_take (i := 3) (v := (.slice A body.length c)) rfl (by kernel_rfl) (by kernel_rfl) (by kernel_rfl) rfl H3 (fun _ _ => by kernel_rfl) ?_
  refine r_take (i := 4) (v := (.pointer (some (⟨g2, 0, none⟩)))) rfl (by kernel_rfl) (by kernel_rfl) (by kernel_rfl) rfl H3 (fun _ _ => by kernel_rfl) ?_
  refine r_take (i := 5) (v := (.int .i64 (((k : Nat) : Int)))) rfl (by kernel_rfl) (by kernel_rfl) (by kernel_rfl) rfl H3 (fun w_ hs_ => (run_ld rfl (by kernel_rfl) (At.blk (hs_.get 0 rfl) 0) (by kernel_rfl))) ?_
  refine r_take (i := 7) (v := (.pointer (some (⟨g2, 1, none⟩)))) rfl (by kernel_rfl) (by kernel_rfl) (by kernel_rfl) rfl H3 (fun _ _ => by kernel_rfl) ?_
  refine r_take (i := 8) (v := (.slice As sg.length cs)) rfl (by kernel_rfl) (by kernel_rfl) (by kernel_rfl) rfl H3 (fun w_ hs_ => (run_ld rfl (by kernel_rfl) (At.blk (hs_.get 0 rfl) 1) (by kernel_rfl))) ?_
  refine r_one (i := 6) (by kernel_rfl) rfl (ev_call (by kernel_rfl) rfl (f := 19) (args := #[(.int .i64 kind), (.agg #[(.int .i64 v), (.int .i64 t)]), (.int .i64 slot), (.slice A body.length c), (.int .i64 (((k : Nat) : Int)))]) (by kernel_rfl) (voted_k kind v t slot A c body k hk _ (C_to hC H3) hc) ?_)
  rintro e w3 ⟨Ap_, cp_, rfl, hP, hb_⟩
  refine ⟨_, rfl, ?_⟩
  have H4 := H3.below hb_
  refine ⟨fun _ => H4, ?_⟩
  refine r_one (i := 9) (by kernel_rfl) rfl (ev_call (by kernel_rfl) rfl (f := 21) (args := #[(.agg #[(.int .i64 (((k : Nat) : Int))), (.string voteS), (.slice Ap_ 2 cp_)]), (.slice As sg.length cs)]) (by kernel_rfl) (sverify_c k (by omega) As cs sg Ap_ cp_ (parts kind v t slot body) _ (C_to hS H4) hsc hP (by omega)) ?_)
  rintro e w4 ⟨rfl, hb_⟩
  refine ⟨_, rfl, ?_⟩
  have H5 := H4.below hb_
  refine ⟨fun _ => H5, ?_⟩
  refine r_take (i := 10) (v := (.bool (same8 sg (sigB k (parts kind v t slot body))))) rfl (by kernel_rfl) (by kernel_rfl) (by kernel_rfl) rfl H5 (fun _ _ => by kernel_rfl) ?_
  refine r_done (by kernel_rfl) ?_
  refine n_then ?_
  refine wp_ret ?_
  refine b_ret (v := (.bool (same8 sg (sigB k (parts kind v t slot body))))) (resS rfl (.tmp (by kernel_rfl) .nil)) ?_
  exact ⟨rfl, H5.to_below⟩
end Go.Proofs.Ytokpdecpmcbcpaa
