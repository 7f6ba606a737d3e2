/- A number's bytes; two texts put together. -/
import Derived.Test.YtokpdecpmcbcpaaV4
namespace Go.Proofs.Ytokpdecpmcbcpaa
open Go.RowKit Go.Proofs.YtokpdecpmcbcpaaW.PrintWords Go.Proofs.YtokpdecpmcbcpaaW.PrintLast Go.Proofs.YtokpdecpmcbcpaaW.PrintMore
open Go.Proofs.Ytokpdecpmcbcpaa.PVoteMakes
set_option linter.unusedVariables false
set_option linter.unusedSimpArgs false
set_option maxRecDepth 100000

def viF : Nat → Int → List Int
  | 0, _ => []
  | k + 1, x => if x ≥ 128 then Go.bits .or .u8 (x % 256) 128 :: viF k (x / 128) else [x % 256]
/-- A number's bytes; none if it is too great. -/
def intB (n : Nat) : List Int := if n > 2147483647 then [] else viF 6 n
theorem vi_l0 : ∀ (k : Nat) (x : Int) (acc : List Int), 0 ≤ x → x < 128 ^ (k + 1) → acc.length + k < 1000 → octet_Int.l0 (k + 1) x acc = some (acc ++ viF (k + 1) x, 0)
  | 0, x, acc, h0, h1, h2 => by
    have hx : x < 128 := by simpa using h1
    have hx2 : ¬ x ≥ 128 := by omega
    simp only [octet_Int.l0, viF]
    rw [if_neg hx2, if_neg hx2, if_pos (by omega)]
  | k + 1, x, acc, h0, h1, h2 => by
    rw [octet_Int.l0, viF]
    by_cases hx : x ≥ 128
    · rw [if_pos hx, if_pos hx, if_pos (by omega), vi_l0 k (x / 128) _ (by omega) (by
        rw [Int.pow_succ] at h1
        generalize (128 : Int) ^ (k + 1) = p at h1 ⊢
        omega) (by simp; omega), List.append_assoc]
      rfl
    · rw [if_neg hx, if_neg hx, if_pos (by omega)]
theorem int_f (n : Nat) : octet_Int.f 8 (n : Int) = some (intB n, if n > 2147483647 then 14 else 0) := by
  rw [octet_Int.f, if_neg (by omega)]
  by_cases h : n > 2147483647
  · rw [decide_eq_true (by omega), octet_Int.j0, if_pos rfl, intB, if_pos h, if_pos h]
  · rw [decide_eq_false (by omega), octet_Int.j0, if_neg (by simp), intB, if_neg h, if_neg h]
    have := vi_l0 5 (n : Int) [] (by omega) (by simp; omega) (by simp)
    rw [octet_Int.mono_l 6 |>.2 _ _ _ this]
    rfl
theorem int_c (n : Nat) (w : World) : Calls Try.prog 45 #[.int .i64 (n : Nat)] w fun e w' => ∃ A c er, e = .returned (.tuple #[.slice A (intB n).length c, .int .i64 er]) ∧ Hp (fun _ => False) w w' [byR A (intB n).length c (intB n)] := by
  refine (octet_Int.calls 8 n _ _ w (int_f n)).mono ?_
  rintro e w' ⟨v, he, hr, hb⟩
  obtain ⟨A, c, rfl⟩ := Kd.R_slice hr
  exact ⟨A, c, _, he, (Hp.start _ _).add hb _ (rowR_scalar hr) (fun k hk => (Kd.R_bound hr).1 k hk |>.2.1)⟩
theorem grow_c (n : Nat) (w : World) (hn : n ≤ 140737488355328) : Calls Try.prog 60 #[.slice none 0 0, .int .i64 (n : Nat)] w fun e w' => ∃ A c, e = .returned (.slice A 0 c) ∧ Hp (fun _ => False) w w' [byR A 0 c []] := by
  have H := Hp.start (fun _ => False) w
  refine k_enter (args := [(.slice none 0 0), (.int .i64 (((n : Nat) : Int)))]) Try.func60 rfl Try.ntmps60 (Nat.le_of_ble_eq_true rfl) ?_
  refine wp_seq ?_
  refine k_list ?_
  refine l_cons (ev_run (v := (.slice none 0 0)) (w1 := w) rfl rfl (by kernel_rfl) ?_)
  refine l_nil ?_
  refine n_then ?_
  refine wp_seq ?_
  refine wp_seq ?_
  refine k_list ?_
  refine l_cons (ev_run (v := (.int .i64 (((n : Nat) : Int)))) (w1 := w) rfl rfl (by kernel_rfl) ?_)
  refine l_cons (ev_eq (v := (.bool (decide ((((n : Nat) : Int) : Int) < 0)))) (v' := (.bool false)) (w1 := w) rfl rfl (by kernel_rfl) (bf (by first | assumption | omega)) ?_)
  refine l_nil ?_
  refine n_then ?_
  refine k_false (by kernel_rfl) ?_
  refine wp_skip ?_
  refine n_then ?_
  refine wp_seq ?_
  refine wp_seq ?_
  refine k_list ?_
  refine l_cons (ev_run (v := (.int .i64 (((n : Nat) : Int)))) (w1 := w) rfl rfl (by kernel_rfl) ?_)
  refine l_cons (ev_run (v := (.slice none 0 0)) (w1 := w) rfl rfl (by kernel_rfl) ?_)
  refine l_cons (ev_run (v := (.int .i64 0)) (w1 := w) rfl rfl (by kernel_rfl) ?_)
  refine l_cons (ev_run (v := (.slice none 0 0)) (w1 := w) rfl rfl (by kernel_rfl) ?_)
  refine l_cons (ev_run (v := (.int .i64 0)) (w1 := w) rfl rfl (by kernel_rfl) ?_)
  refine l_cons (ev_eq (v := (.int .i64 (IntKind.i64.wrap (0 - 0)))) (v' := (.int .i64 ((0 : Int)))) (w1 := w) rfl rfl (by kernel_rfl) (wr64 (by omega) (by omega)) ?_)
  refine l_cons (ev_eq (v := (.int .i64 (IntKind.i64.wrap (((n : Nat) : Int) - (0 : Int))))) (v' := (.int .i64 (((n : Nat) : Int)))) (w1 := w) rfl rfl (by kernel_rfl) (wr64 (by omega) (by omega)) ?_)
  refine l_cons (ev_run (v := (.int .i64 (((n : Nat) : Int)))) (w1 := w) rfl rfl (by kernel_rfl) ?_)
  refine l_nil ?_
  refine n_then ?_
  refine wp_seq ?_
  refine k_list ?_
  refine l_cons (ev_run (v := (.int .i64 (((n : Nat) : Int)))) (w1 := w) rfl rfl (by kernel_rfl) ?_)
  by_cases hc1 : (((n : Nat) : Int) : Int) > 0
  · skip
    refine l_cons (ev_eq (v := (.bool (decide ((((n : Nat) : Int) : Int) > 0)))) (v' := (.bool true)) (w1 := w) rfl rfl (by kernel_rfl) (bt (by first | assumption | omega)) ?_)
    refine l_nil ?_
    refine n_then ?_
    refine k_true (by kernel_rfl) ?_
    refine k_list ?_
    refine l_cons (ev_run (v := (.slice none 0 0)) (w1 := w) rfl rfl (by kernel_rfl) ?_)
    refine l_cons (ev_run (v := (.slice none 0 0)) (w1 := w) rfl rfl (by kernel_rfl) ?_)
    refine l_cons (ev_run (v := (.int .i64 0)) (w1 := w) rfl rfl (by kernel_rfl) ?_)
    refine l_cons (ev_run (v := (.slice none 0 0)) (w1 := w) rfl rfl (run_slhi (sz := 1) (q := 0) (len := 0) (e := 5) (k := .i64) rfl (by kernel_rfl) (by kernel_rfl) (by kernel_rfl) (by kernel_rfl) (by first | rfl | omega) (by omega)) ?_)
    refine l_cons (ev_run (v := (.int .i64 (((n : Nat) : Int)))) (w1 := w) rfl rfl (by kernel_rfl) ?_)
    refine l_cons (ev_zeros (e := 5) (bytes := 1) (z := .int .u8 0) (m := n) (k := .i64) (kn := .i64) rfl rfl rfl (by kernel_rfl) (by kernel_rfl) Try.underlying24 Try.underlying3 (by kernel_rfl) rfl (by omega) (by omega) (by omega) H ?_)
    intro gz1 cz1 w1 H1 hge_ hbw1
    refine l_cons (ev_run (v := (.slice none 0 0)) (w1 := w1) rfl rfl (by kernel_rfl) ?_)
    refine l_cons (ev_run (v := (.int .i64 0)) (w1 := w1) rfl rfl (by kernel_rfl) ?_)
    refine l_cons (ev_run (v := (.slice (some (⟨gz1, 0, none⟩)) 0 cz1)) (w1 := w1) rfl rfl (run_slhi (sz := 1) (q := 0) (len := n) (e := 5) (k := .i64) rfl (by kernel_rfl) (by kernel_rfl) (by kernel_rfl) (by kernel_rfl) (by first | rfl | omega) (by omega)) ?_)
    refine l_cons (ev_run (v := (.slice (some (⟨gz1, 0, none⟩)) 0 cz1)) (w1 := w1) rfl rfl (by kernel_rfl) ?_)
    refine l_nil ?_
    refine n_then ?_
    refine wp_seq ?_
    refine k_list ?_
    refine l_cons (ev_run (v := (.slice (some (⟨gz1, 0, none⟩)) 0 cz1)) (w1 := w1) rfl rfl (by kernel_rfl) ?_)
    refine l_cons (ev_run (v := (.slice (some (⟨gz1, 0, none⟩)) 0 cz1)) (w1 := w1) rfl rfl (by kernel_rfl) ?_)
    refine l_nil ?_
    refine n_then ?_
    refine wp_ret ?_
    refine b_ret (v := (.slice (some (⟨gz1, 0, none⟩)) 0 cz1)) (resS rfl (.tmp (by kernel_rfl) .nil)) ?_
    exact ⟨_, _, rfl, H1⟩
  · skip
    refine l_cons (ev_eq (v := (.bool (decide ((((n : Nat) : Int) : Int) > 0)))) (v' := (.bool false)) (w1 := w) rfl rfl (by kernel_rfl) (bf (by first | assumption | omega)) ?_)
    refine l_nil ?_
    refine n_then ?_
    refine k_false (by kernel_rfl) ?_
    refine wp_skip ?_
    refine n_then ?_
    refine wp_seq ?_
    refine k_list ?_
    refine l_cons (ev_run (v := (.slice none 0 0)) (w1 := w) rfl rfl (by kernel_rfl) ?_)
    refine l_cons (ev_run (v := (.slice none 0 0)) (w1 := w) rfl rfl (by kernel_rfl) ?_)
    refine l_nil ?_
    refine n_then ?_
    refine wp_ret ?_
    refine b_ret (v := (.slice none 0 0)) (resS rfl (.tmp (by kernel_rfl) .nil)) ?_
    exact ⟨none, 0, rfl, H.addE _ (rowR_nil _ _ _) (fun k hk => by cases hk)⟩
end Go.Proofs.Ytokpdecpmcbcpaa
