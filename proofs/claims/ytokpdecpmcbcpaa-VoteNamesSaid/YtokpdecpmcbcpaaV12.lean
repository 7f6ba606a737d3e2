/- A vote; whether a vote is right. -/
import Derived.Test.YtokpdecpmcbcpaaV11
namespace Go.Proofs.Ytokpdecpmcbcpaa
open Go.RowKit Go.Proofs.YtokpdecpmcbcpaaW.PrintWords Go.Proofs.YtokpdecpmcbcpaaW.PrintLast Go.Proofs.YtokpdecpmcbcpaaW.PrintMore
open Go.Proofs.Ytokpdecpmcbcpaa.PVoteMakes
set_option linter.unusedVariables false
set_option linter.unusedSimpArgs false
set_option maxRecDepth 100000

theorem rep_in (k : Nat) (hk : k ≤ 15) : repK (k : Int) = (k : Int) := by unfold repK; rw [if_neg (by omega), if_neg (by omega)]
theorem voted_k (kind v t slot : Int) (A : Option Addr) (c : Nat) (body : List Int) (k : Nat) (hk : k ≤ 15) (w : World) (hC : Kd.C B8 w A body.length body) (hc : body.length ≤ c) :
    Calls Try.prog 19 #[.int .i64 kind, .agg #[.int .i64 v, .int .i64 t], .int .i64 slot, .slice A body.length c, .int .i64 (k : Nat)] w fun e w' => ∃ A' c', e = .returned (.agg #[.int .i64 (k : Nat), .string voteS, .slice A' 2 c']) ∧ Kd.C kby w' A' 2 (parts kind v t slot body) ∧ Below w.heap.size w w' := by
  have h := voted_c kind v t slot A c body k w hC hc
  rw [rep_in k hk] at h
  exact h
theorem parts_le (kind v t slot : Int) (body : List Int) : (packB (parts kind v t slot body)).length ≤ body.length + 60 := by
  have h1 := lenB_le (nums4 kind v t slot)
  have h2 := lenB_le body
  have h3 : (nums4 kind v t slot).length = 32 := rfl
  simp only [packB, parts, List.flatMap_cons, List.flatMap_nil, List.length_append, List.length_nil]
  omega
def same8 (a b : List Int) : Bool := (strOfNums a).toList == (strOfNums b).toList
theorem make_c (kind v t slot : Int) (A : Option Addr) (c : Nat) (body : List Int) (k : Nat) (hk : k ≤ 15) (w : World) (hC : Kd.C B8 w A body.length body) (hc : body.length ≤ c) (hl : body.length ≤ 140737488354000) :
    Calls Try.prog 8 #[.int .i64 kind, .agg #[.int .i64 v, .int .i64 t], .int .i64 slot, .slice A body.length c, .int .i64 (k : Nat)] w fun e w' => ∃ A' c', e = .returned (.agg #[.int .i64 (k : Nat), .slice A' 32 c']) ∧ Hp (fun _ => False) w w' [byR A' 32 c' (sigB k (parts kind v t slot body))] := by
  have H := Hp.start (fun _ => False) w
  have hpl := parts_le kind v t slot body
  refine k_enter (args := [(.int .i64 kind), (.agg #[(.int .i64 v), (.int .i64 t)]), (.int .i64 slot), (.slice A body.length c), (.int .i64 (((k : Nat) : Int)))]) Try.func8 rfl Try.ntmps8 (Nat.le_of_ble_eq_true rfl) ?_
  refine wp_seq ?_
  refine k_list ?_
  refine l_cons (ev_new (cs := [(.int .i64 v), (.int .i64 t)]) (t := 29) rfl rfl H (by kernel_rfl) ?_)
  intro g1 w1 H1 hg1 hbw1
  refine l_cons (ev_new (cs := [(.int .i64 0), (.slice none 0 0)]) (t := 26) rfl rfl H1 (by kernel_rfl) ?_)
  intro g2 w2 H2 hg2 hbw2
  refine l_nil ?_
  refine n_then ?_
  refine wp_seq ?_
  refine k_list ?_
  refine l_cons (ev_run (v := (.int .i64 (((k : Nat) : Int)))) (w1 := w2) rfl rfl (by kernel_rfl) ?_)
  refine l_cons (ev_run (v := (.int .i64 kind)) (w1 := w2) rfl rfl (by kernel_rfl) ?_)
  refine l_cons (ev_run (v := (.agg #[(.int .i64 v), (.int .i64 t)])) (w1 := w2) rfl rfl (run_ld rfl (by kernel_rfl) (At.blk (H2.get 1 rfl) 0) (by kernel_rfl)) ?_)
  refine l_cons (ev_run (v := (.int .i64 slot)) (w1 := w2) rfl rfl (by kernel_rfl) ?_)
  refine l_cons (ev_run (v := (.slice A body.length c)) (w1 := w2) rfl rfl (by kernel_rfl) ?_)
  refine l_cons (ev_run (v := (.int .i64 (((k : Nat) : Int)))) (w1 := w2) rfl rfl (by kernel_rfl) ?_)
  refine l_cons (ev_call rfl rfl (f := 19) (args := #[(.int .i64 kind), (.agg #[(.int .i64 v), (.int .i64 t)]), (.int .i64 slot), (.slice A body.length c), (.int .i64 (((k : Nat) : Int)))]) (by kernel_rfl) (voted_k kind v t slot A c body k hk _ (C_to hC H2) hc) ?_)
  rintro e w3 ⟨Ap_, cp_, rfl, hP, hb_⟩
  refine ⟨_, rfl, ?_⟩
  have H3 := H2.below hb_
  refine l_cons (ev_call rfl rfl (f := 20) (args := #[(.agg #[(.int .i64 (((k : Nat) : Int))), (.string voteS), (.slice Ap_ 2 cp_)])]) (by kernel_rfl) (ssign_c k (by omega) Ap_ cp_ (parts kind v t slot body) _ hP (by omega)) ?_)
  rintro e w4 ⟨As_, cs_, rfl, hH_⟩
  refine ⟨_, rfl, ?_⟩
  have H4 := H3.join hH_
  have hb_ := hH_.to_below
  refine l_cons (ev_run (v := (.agg #[(.int .i64 (((k : Nat) : Int))), (.slice As_ 32 cs_)])) (w1 := w4) rfl rfl (by kernel_rfl) ?_)
  refine l_cons (ev_store (i := 0) rfl rfl rfl H4 (k := 1) rfl (by kernel_rfl) (.agg #[(.int .i64 (((k : Nat) : Int))), (.slice As_ 32 cs_)]) (by kernel_rfl) [(.int .i64 (((k : Nat) : Int))), (.slice As_ 32 cs_)] (by kernel_rfl) (by kernel_rfl) (by kernel_rfl) (by kernel_rfl) [(.int .i64 (((k : Nat) : Int))), (.slice As_ 32 cs_)] (by kernel_rfl) ?_)
  intro w5 H5 hcw5
  refine l_nil ?_
  refine n_then ?_
  refine wp_ret ?_
  refine b_ret (v := (.agg #[(.int .i64 (((k : Nat) : Int))), (.slice As_ 32 cs_)])) (resS rfl (.cell (⟨g2, 0, none⟩) [(.int .i64 (((k : Nat) : Int))), (.slice As_ 32 cs_)] (by kernel_rfl) (At.blk (H5.get 1 rfl) 0) (by kernel_rfl) .nil)) ?_
  exact ⟨_, _, rfl, H5.sel [0] (by decide)⟩

theorem kverify_c (k : Nat) (hk : k ≤ 127) (As : Option Addr) (cs : Nat) (sg : List Int) (A : Option Addr) (c : Nat) (l : List (List Int)) (w : World) (hS : Kd.C B8 w As sg.length sg) (hsc : sg.length ≤ cs) (hC : Kd.C kby w A l.length l) (hl : (packB l).length ≤ 140737488354900) :
    Calls Try.prog 34 #[.int .i64 (k : Nat), .slice As sg.length cs, .string voteS, .slice A l.length c] w fun e w' => e = .returned (.bool (same8 sg (sigB k l))) ∧ Below w.heap.size w w' := by
  have H := Hp.start (fun _ => False) w
  have hrk : decide (0 ≤ (k : Int) ∧ (k : Int) ≤ 127) = true := decide_eq_true (by omega)
  refine k_enter (args := [(.int .i64 (((k : Nat) : Int))), (.slice As sg.length cs), (.string voteS), (.slice A l.length c)]) Try.func34 rfl Try.ntmps34 (Nat.le_of_ble_eq_true rfl) ?_
  refine wp_seq ?_
  refine k_list ?_
  refine l_cons (ev_run (v := (.bool false)) (w1 := w) rfl rfl (by kernel_rfl) ?_)
  refine l_nil ?_
  refine n_then ?_
  refine wp_seq ?_
  refine k_list ?_
  refine l_cons (ev_run (v := (.int .i64 (((k : Nat) : Int)))) (w1 := w) rfl rfl (by kernel_rfl) ?_)
  refine l_cons (ev_call rfl rfl (f := 40) (args := #[(.int .i64 (((k : Nat) : Int)))]) (by kernel_rfl) ((right_c ((k : Nat) : Int) _).mono (fun e w' h => (show e = .returned (.bool true) ∧ _ from by rw [hrk] at h; exact h))) ?_)
  rintro e w1 ⟨rfl, hb_⟩
  refine ⟨_, rfl, ?_⟩
  have H1 := H.below hb_
  refine l_cons (ev_run (v := (.bool true)) (w1 := w1) rfl rfl (by kernel_rfl) ?_)
  refine l_cons (ev_run (v := (.slice As sg.length cs)) (w1 := w1) (by kernel_rfl) rfl (by kernel_rfl) ?_)
  refine l_cons (ev_run (v := (.int .i64 (((k : Nat) : Int)))) (w1 := w1) (by kernel_rfl) rfl (by kernel_rfl) ?_)
  refine l_cons (ev_run (v := (.string voteS)) (w1 := w1) (by kernel_rfl) rfl (by kernel_rfl) ?_)
  refine l_cons (ev_run (v := (.slice A l.length c)) (w1 := w1) (by kernel_rfl) rfl (by kernel_rfl) ?_)
  refine l_cons (ev_call (by kernel_rfl) rfl (f := 33) (args := #[(.int .i64 (((k : Nat) : Int))), (.string voteS), (.slice A l.length c)]) (by kernel_rfl) (ksign_c k hk A c l _ (C_to hC H1) hl) ?_)
  rintro e w2 ⟨As_, cs_, rfl, hH_⟩
  refine ⟨_, rfl, ?_⟩
  have H2 := H1.join hH_
  have hb_ := hH_.to_below
  refine l_cons (ev_call (by kernel_rfl) rfl (f := 42) (args := #[(.slice As sg.length cs), (.slice As_ 32 cs_)]) (by kernel_rfl) ((bytes_Equal.calls As cs sg _ _ (sigB k l) _ _ (C_to hS H2) hsc (byR_C (xs := sigB k l) (show (byR As_ (sigB k l).length cs_ (sigB k l)).ok _ from by rw [show (sigB k l).length = 32 from shaF_length _]; exact H2.get 0 rfl)) (by have h := byR_le (H2.get 0 rfl); rw [show (sigB k l).length = 32 from shaF_length _]; exact h) rfl)) ?_)
  rintro e w3 ⟨rfl, hd_⟩
  refine ⟨_, rfl, ?_⟩
  have hb_ := hd_.below
  have H3 := H2.below hb_
  refine l_cons (ev_run (v := (.bool (same8 sg (sigB k l)))) (w1 := w3) rfl rfl (by kernel_rfl) ?_)
  refine l_cons (ev_run (v := (.bool (same8 sg (sigB k l)))) (w1 := w3) rfl rfl (by kernel_rfl) ?_)
  refine l_nil ?_
  refine n_then ?_
  refine wp_ret ?_
  refine b_ret (v := (.bool (same8 sg (sigB k l)))) (resS rfl (.tmp (by kernel_rfl) .nil)) ?_
  exact ⟨rfl, H3.to_below⟩
end Go.Proofs.Ytokpdecpmcbcpaa
