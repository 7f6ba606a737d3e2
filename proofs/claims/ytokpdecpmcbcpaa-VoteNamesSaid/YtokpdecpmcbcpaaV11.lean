/- What a vote signs. -/
import Derived.Test.YtokpdecpmcbcpaaV10
namespace Go.Proofs.Ytokpdecpmcbcpaa
open Go.RowKit Go.Proofs.YtokpdecpmcbcpaaW.PrintWords Go.Proofs.YtokpdecpmcbcpaaW.PrintLast Go.Proofs.YtokpdecpmcbcpaaW.PrintMore
open Go.Proofs.Ytokpdecpmcbcpaa.PVoteMakes
set_option linter.unusedVariables false
set_option linter.unusedSimpArgs false
set_option maxRecDepth 100000

/-- A number's eight bytes. -/
def nb8 (n : Int) : List Int := [shr .i64 n 0 % 256, shr .i64 n 8 % 256, shr .i64 n 16 % 256, shr .i64 n 24 % 256, shr .i64 n 32 % 256, shr .i64 n 40 % 256, shr .i64 n 48 % 256, shr .i64 n 56 % 256]
def nums4 (a b c d : Int) : List Int := nb8 a ++ nb8 b ++ nb8 c ++ nb8 d
theorem nums_f (a b c d : Int) : vote_nums.f 60 [a, b, c, d] = some (nums4 a b c d) := by kernel_rfl

/-- A replica's key. -/
def repK (i : Int) : Int := if i < 0 then -1 else if i > 15 then -1 else i
theorem rep_f (i : Int) : key_Replica.f i = some (repK i) := by
  unfold key_Replica.f repK; repeat' split
  all_goals rfl
def parts (kind v t slot : Int) (body : List Int) : List (List Int) := [nums4 kind v t slot, body]
theorem voted_c (kind v t slot : Int) (A : Option Addr) (c : Nat) (body : List Int) (signer : Int) (w : World) (hC : Kd.C B8 w A body.length body) (hc : body.length ≤ c) :
    Calls Try.prog 19 #[.int .i64 kind, .agg #[.int .i64 v, .int .i64 t], .int .i64 slot, .slice A body.length c, .int .i64 signer] w fun e w' => ∃ A' c', e = .returned (.agg #[.int .i64 (repK signer), .string voteS, .slice A' 2 c']) ∧ Kd.C kby w' A' 2 (parts kind v t slot body) ∧ Below w.heap.size w w' := by
  refine (vote_voted.calls 60 kind v t slot (fun k => k < w.heap.size) A c body signer (repK signer) voteS (parts kind v t slot body) w (Kd.V_mk hc (Kd.C_F (Kd.heap_int _) hC)) (by
    rw [vote_voted.f, rep_f, Option.bind_some, nums_f, Option.bind_some]; rfl)).mono ?_
  rintro e w' ⟨v2, he, hN, hb⟩
  obtain ⟨A', c', rfl⟩ := Kd.N_slice hN
  exact ⟨A', c', he, (Kd.N_reads' hN).2.2, hb⟩
theorem ssign_c (k : Nat) (hk : k ≤ 127) (A : Option Addr) (c : Nat) (l : List (List Int)) (w : World) (hC : Kd.C kby w A l.length l) (hl : (packB l).length ≤ 140737488354900) :
    Calls Try.prog 20 #[.agg #[.int .i64 (k : Nat), .string voteS, .slice A l.length c]] w fun e w' => ∃ A' c', e = .returned (.slice A' 32 c') ∧ Hp (fun _ => False) w w' [byR A' 32 c' (sigB k l)] := by
  have H := Hp.start (fun _ => False) w
  refine k_enter (args := [(.agg #[(.int .i64 (((k : Nat) : Int))), (.string voteS), (.slice A l.length c)])]) Try.func20 rfl Try.ntmps20 (Nat.le_of_ble_eq_true rfl) ?_
  refine wp_seq ?_
  refine k_list ?_
  refine l_cons (ev_new (cs := [(.int .i64 (((k : Nat) : Int))), (.string voteS), (.slice A l.length c)]) (t := 44) rfl rfl H (by kernel_rfl) ?_)
  intro g1 w1 H1 hg1 hbw1
  refine l_cons (ev_run (v := (.slice none 0 0)) (w1 := w1) rfl rfl (by kernel_rfl) ?_)
  refine l_nil ?_
  refine n_then ?_
  refine wp_seq ?_
  refine k_list ?_
  refine l_cons (ev_run (v := (.pointer (some (⟨g1, 0, none⟩)))) (w1 := w1) rfl rfl (by kernel_rfl) ?_)
  refine l_cons (ev_run (v := (.int .i64 (((k : Nat) : Int)))) (w1 := w1) rfl rfl (run_ld rfl (by kernel_rfl) (At.blk (H1.get 0 rfl) 0) (by kernel_rfl)) ?_)
  refine l_cons (ev_run (v := (.pointer (some (⟨g1, 1, none⟩)))) (w1 := w1) rfl rfl (by kernel_rfl) ?_)
  refine l_cons (ev_run (v := (.string voteS)) (w1 := w1) rfl rfl (run_ld rfl (by kernel_rfl) (At.blk (H1.get 0 rfl) 1) (by kernel_rfl)) ?_)
  refine l_cons (ev_run (v := (.pointer (some (⟨g1, 2, none⟩)))) (w1 := w1) rfl rfl (by kernel_rfl) ?_)
  refine l_cons (ev_run (v := (.slice A l.length c)) (w1 := w1) rfl rfl (run_ld rfl (by kernel_rfl) (At.blk (H1.get 0 rfl) 2) (by kernel_rfl)) ?_)
  refine l_cons (ev_call rfl rfl (f := 33) (args := #[(.int .i64 (((k : Nat) : Int))), (.string voteS), (.slice A l.length c)]) (by kernel_rfl) (ksign_c k hk A c l _ (C_to hC H1) hl) ?_)
  rintro e w2 ⟨As_, cs_, rfl, hH_⟩
  refine ⟨_, rfl, ?_⟩
  have H2 := H1.join hH_
  have hb_ := hH_.to_below
  refine l_cons (ev_run (v := (.slice As_ 32 cs_)) (w1 := w2) rfl rfl (by kernel_rfl) ?_)
  refine l_nil ?_
  refine n_then ?_
  refine wp_ret ?_
  refine b_ret (v := (.slice As_ 32 cs_)) (resS rfl (.tmp (by kernel_rfl) .nil)) ?_
  exact ⟨_, _, rfl, H2.sel [0] (by decide)⟩
end Go.Proofs.Ytokpdecpmcbcpaa
