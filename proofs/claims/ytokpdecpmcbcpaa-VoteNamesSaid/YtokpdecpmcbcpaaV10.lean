/- A key's signature, and whether it is one. -/
import Derived.Test.YtokpdecpmcbcpaaV9
namespace Go.Proofs.Ytokpdecpmcbcpaa
open Go.RowKit Go.Proofs.YtokpdecpmcbcpaaW.PrintWords Go.Proofs.YtokpdecpmcbcpaaW.PrintLast Go.Proofs.YtokpdecpmcbcpaaW.PrintMore
open Go.Proofs.Ytokpdecpmcbcpaa.PVoteMakes
set_option linter.unusedVariables false
set_option linter.unusedSimpArgs false
set_option maxRecDepth 100000

theorem textB_le (k : Nat) (l : List (List Int)) : (textB k l).length ≤ (packB l).length + 40 := by have := head_le k; rw [textB, List.length_append]; omega
def sigB (k : Nat) (l : List (List Int)) : List Int := shaF (textB k l)
theorem ksign_c (k : Nat) (hk : k ≤ 127) (A : Option Addr) (c : Nat) (l : List (List Int)) (w : World) (hC : Kd.C kby w A l.length l) (hl : (packB l).length ≤ 140737488354900) :
    Calls Try.prog 33 #[.int .i64 (k : Nat), .string voteS, .slice A l.length c] w fun e w' => ∃ A' c', e = .returned (.slice A' 32 c') ∧ Hp (fun _ => False) w w' [byR A' 32 c' (sigB k l)] := by
  have H := Hp.start (fun _ => False) w
  have htl := textB_le k l
  have hrk : decide (0 ≤ (k : Int) ∧ (k : Int) ≤ 127) = true := decide_eq_true (by omega)
  refine k_enter (args := [(.int .i64 (((k : Nat) : Int))), (.string voteS), (.slice A l.length c)]) Try.func33 rfl Try.ntmps33 (Nat.le_of_ble_eq_true rfl) ?_
  refine wp_seq ?_
  refine k_list ?_
  refine l_cons (ev_run (v := (.slice none 0 0)) (w1 := w) rfl rfl (by kernel_rfl) ?_)
  refine l_nil ?_
  refine n_then ?_
  refine wp_seq ?_
  refine wp_seq ?_
  refine k_list ?_
  refine l_cons (ev_run (v := (.int .i64 (((k : Nat) : Int)))) (w1 := w) rfl rfl (by kernel_rfl) ?_)
  refine l_cons (ev_call rfl rfl (f := 40) (args := #[(.int .i64 (((k : Nat) : Int)))]) (by kernel_rfl) ((right_c ((k : Nat) : Int) _).mono (fun e w' h => (show e = .returned (.bool true) ∧ _ from by rw [hrk] at h; exact h))) ?_)
  rintro e w1 ⟨rfl, hb_⟩
  refine ⟨_, rfl, ?_⟩
  have H1 := H.below hb_
  refine l_cons (ev_run (v := (.bool false)) (w1 := w1) rfl rfl (by kernel_rfl) ?_)
  refine l_nil ?_
  refine n_then ?_
  refine k_false (by kernel_rfl) ?_
  refine wp_skip ?_
  refine n_then ?_
  refine wp_seq ?_
  refine k_list ?_
  refine l_cons (ev_run (v := (.int .i64 (((k : Nat) : Int)))) (w1 := w1) rfl rfl (by kernel_rfl) ?_)
  refine l_cons (ev_run (v := (.string voteS)) (w1 := w1) rfl rfl (by kernel_rfl) ?_)
  refine l_cons (ev_run (v := (.slice A l.length c)) (w1 := w1) rfl rfl (by kernel_rfl) ?_)
  refine l_cons (ev_call rfl rfl (f := 37) (args := #[(.int .i64 (((k : Nat) : Int))), (.string voteS), (.slice A l.length c)]) (by kernel_rfl) (ktext_c k hk A c l _ (C_to hC H1) hl) ?_)
  rintro e w2 ⟨At_, ct_, rfl, hH_⟩
  refine ⟨_, rfl, ?_⟩
  have H2 := H1.join hH_
  have hb_ := hH_.to_below
  refine l_cons (ev_call rfl rfl (f := 41) (args := #[(.slice At_ ((textB k l).length) ct_)]) (by kernel_rfl) (sha_c At_ ct_ (textB k l) _ (byR_C (H2.get 0 rfl)) (by omega)) ?_)
  rintro e w3 ⟨As_, cs_, rfl, hH_⟩
  refine ⟨_, rfl, ?_⟩
  have H3 := H2.join hH_
  have hb_ := hH_.to_below
  refine l_cons (ev_run (v := (.slice As_ 32 cs_)) (w1 := w3) rfl rfl (by kernel_rfl) ?_)
  refine l_nil ?_
  refine n_then ?_
  refine wp_ret ?_
  refine b_ret (v := (.slice As_ 32 cs_)) (resS rfl (.tmp (by kernel_rfl) .nil)) ?_
  exact ⟨_, _, rfl, H3.sel [0] (by decide)⟩

theorem ksign_no (k : Int) (hk : k < 0 ∨ 127 < k) (d : ByteArray) (A : Option Addr) (n c : Nat) (w : World) : Calls Try.prog 33 #[.int .i64 k, .string d, .slice A n c] w fun e w' => e = .returned (.slice none 0 0) ∧ Below w.heap.size w w' := by
  have H := Hp.start (fun _ => False) w
  have hrk : decide (0 ≤ (k : Int) ∧ (k : Int) ≤ 127) = false := decide_eq_false (by omega)
  refine k_enter (args := [(.int .i64 k), (.string d), (.slice A n c)]) Try.func33 rfl Try.ntmps33 (Nat.le_of_ble_eq_true rfl) ?_
  refine wp_seq ?_
  refine k_list ?_
  refine l_cons (ev_run (v := (.slice none 0 0)) (w1 := w) rfl rfl (by kernel_rfl) ?_)
  refine l_nil ?_
  refine n_then ?_
  refine wp_seq ?_
  refine wp_seq ?_
  refine k_list ?_
  refine l_cons (ev_run (v := (.int .i64 k)) (w1 := w) rfl rfl (by kernel_rfl) ?_)
  refine l_cons (ev_call rfl rfl (f := 40) (args := #[(.int .i64 k)]) (by kernel_rfl) ((right_c k _).mono (fun e w' h => (show e = .returned (.bool false) ∧ _ from by rw [hrk] at h; exact h))) ?_)
  rintro e w1 ⟨rfl, hb_⟩
  refine ⟨_, rfl, ?_⟩
  have H1 := H.below hb_
  refine l_cons (ev_run (v := (.bool true)) (w1 := w1) rfl rfl (by kernel_rfl) ?_)
  refine l_nil ?_
  refine n_then ?_
  refine k_true (by kernel_rfl) ?_
  refine wp_seq ?_
  refine k_list ?_
  refine l_cons (ev_run (v := (.slice none 0 0)) (w1 := w1) rfl rfl (by kernel_rfl) ?_)
  refine l_nil ?_
  refine n_then ?_
  refine wp_ret ?_
  refine r_then ?_
  refine b_ret (v := (.slice none 0 0)) (resS rfl (.tmp (by kernel_rfl) .nil)) ?_
  exact ⟨rfl, H1.to_below⟩
end Go.Proofs.Ytokpdecpmcbcpaa
