/- What a key signs. -/
import Derived.Test.YtokpdecpmcbcpaaV8
namespace Go.Proofs.Ytokpdecpmcbcpaa
open Go.RowKit Go.Proofs.YtokpdecpmcbcpaaW.PrintWords Go.Proofs.YtokpdecpmcbcpaaW.PrintLast Go.Proofs.YtokpdecpmcbcpaaW.PrintMore
open Go.Proofs.Ytokpdecpmcbcpaa.PVoteMakes
set_option linter.unusedVariables false
set_option linter.unusedSimpArgs false
set_option maxRecDepth 100000

abbrev voteS : ByteArray := ByteArray.mk #[118, 111, 116, 101]
abbrev voteL : List Int := [118, 111, 116, 101]
abbrev signL : List Int := [115, 105, 103, 110]
/-- What key k signs of the texts, in the domain 'vote'. -/
def textB (k : Nat) (l : List (List Int)) : List Int := packB [signL, intB k, voteL] ++ packB l
theorem right_c (k : Int) (w : World) : Calls Try.prog 40 #[.int .i64 k] w fun e w' => e = .returned (.bool (decide (0 ≤ k ∧ k ≤ 127))) ∧ Below w.heap.size w w' :=
  (key_right.calls k _ w (by
    rw [key_right.f]
    by_cases h : k ≥ 0
    · rw [if_pos h]; congr 1; simp [show (0 ≤ k) from h]
    · rw [if_neg h, decide_eq_false (by omega)])).mono fun e w' h => ⟨h.1, h.2.below⟩
theorem head_le (k : Nat) : (packB [signL, intB k, voteL]).length ≤ 40 := by
  have := intB_le k
  have := lenB_le signL
  have := lenB_le (intB k)
  have := lenB_le voteL
  simp only [packB, List.flatMap_cons, List.flatMap_nil, List.length_append, List.length_nil, List.append_nil]
  simp only [signL, voteL, List.length_cons, List.length_nil] at *
  omega
set_option maxHeartbeats 1000000 in
theorem ktext_c (k : Nat) (hk : k ≤ 127) (A : Option Addr) (c : Nat) (l : List (List Int)) (w : World) (hC : Kd.C kby w A l.length l) (hl : (packB l).length ≤ 140737488354900) :
    Calls Try.prog 37 #[.int .i64 (k : Nat), .string voteS, .slice A l.length c] w fun e w' => ∃ A' c', e = .returned (.slice A' (textB k l).length c') ∧ Hp (fun _ => False) w w' [byR A' (textB k l).length c' (textB k l)] := by
  have H := Hp.start (fun _ => False) w
  have hhl := head_le k
  have hrk : decide (0 ≤ (k : Int) ∧ (k : Int) ≤ 127) = true := decide_eq_true (by omega)
  refine k_enter (args := [(.int .i64 (((k : Nat) : Int))), (.string voteS), (.slice A l.length c)]) Try.func37 rfl Try.ntmps37 (Nat.le_of_ble_eq_true rfl) ?_
  refine wp_seq ?_
  refine k_list ?_
  refine l_cons (ev_run (v := (.slice none 0 0)) (w1 := w) rfl rfl (by kernel_rfl) ?_)
  refine l_nil ?_
  refine n_then ?_
  refine wp_seq ?_
  refine wp_seq ?_
  refine k_list ?_
  refine l_cons (ev_run (v := (.int .i64 (((k : Nat) : Int)))) (w1 := w) rfl rfl (by kernel_rfl) ?_)
  refine l_cons (ev_call rfl rfl (f := 40) (args := #[(.int .i64 (((k : Nat) : Int)))]) (by kernel_rfl) ((right_c ((k : Nat) : Int) _).mono (fun e w' h => (show e = .returned (.bool true) ∧ _ from by rw [hrk] at h; exact h))) ?_)
  rintro e w1 ⟨rfl, hb_⟩
  refine ⟨_, rfl, ?_⟩
  have H1 := H.below hb_
  refine l_cons (ev_run (v := (.bool false)) (w1 := w1) rfl rfl (by kernel_rfl) ?_)
  refine l_nil ?_
  refine n_then ?_
  refine k_false (by kernel_rfl) ?_
  refine wp_skip ?_
  refine n_then ?_
  refine wp_seq ?_
  refine k_list ?_
  refine l_cons (ev_run (v := (.int .i64 (((k : Nat) : Int)))) (w1 := w1) rfl rfl (by kernel_rfl) ?_)
  refine l_cons (ev_call rfl rfl (f := 45) (args := #[(.int .i64 (((k : Nat) : Int)))]) (by kernel_rfl) (int_c k _) ?_)
  rintro e w2 ⟨Ai, ci, er, rfl, hH_⟩
  refine ⟨_, rfl, ?_⟩
  have H2 := H1.join hH_
  have hb_ := hH_.to_below
  refine l_cons (ev_run (v := (.tuple #[(.slice Ai ((intB k).length) ci), (.int .i64 er)])) (w1 := w2) rfl rfl (by kernel_rfl) ?_)
  refine l_cons (ev_run (v := (.slice Ai ((intB k).length) ci)) (w1 := w2) rfl rfl (by kernel_rfl) ?_)
  refine l_cons (ev_run (v := (.int .i64 er)) (w1 := w2) rfl rfl (by kernel_rfl) ?_)
  refine l_cons (ev_run (v := (.slice Ai ((intB k).length) ci)) (w1 := w2) rfl rfl (by kernel_rfl) ?_)
  refine l_cons (ev_run (v := (.int .i64 er)) (w1 := w2) rfl rfl (by kernel_rfl) ?_)
  refine l_nil ?_
  refine n_then ?_
  refine wp_seq ?_
  refine k_list ?_
  refine l_cons (ev_newRow (cs := [(.int .u8 115), (.int .u8 105), (.int .u8 103), (.int .u8 110)]) (t := 5) (len := 4) rfl rfl H2 (by kernel_rfl) ?_)
  intro g1 w3 H3 hg1 hbw3
  refine l_cons (ev_conv (k := 0) (e := 5) (m := 4) (c := 4) signL rfl rfl rfl (by kernel_rfl) Try.underlying24 Try.underlying5 H3 rfl rfl rfl (by decide) (by decide) ?_)
  intro w4 H4 hcw4
  refine l_cons (ev_run (v := (.slice Ai ((intB k).length) ci)) (w1 := w4) rfl rfl (by kernel_rfl) ?_)
  refine l_cons (ev_run (v := (.string voteS)) (w1 := w4) rfl rfl (by kernel_rfl) ?_)
  refine l_cons (ev_strB (s := voteS) (m := 4) (e := 5) voteL rfl rfl rfl (by kernel_rfl) Try.underlying9 Try.underlying24 Try.underlying5 (by kernel_rfl) rfl (by omega) H4 ?_)
  intro gs1 cs_1 w5 H5 hbw5
  refine l_cons (ev_newRow (cs := [(.slice (some (⟨g1, 0, none⟩)) 4 4), (.slice Ai ((intB k).length) ci), (.slice (some (⟨gs1, 0, none⟩)) 4 cs_1)]) (t := 24) (len := 3) rfl rfl H5 (by kernel_rfl) ?_)
  intro g2 w6 H6 hg2 hbw6
  refine l_cons (ev_call rfl rfl (f := 46) (args := #[(.slice (some (⟨g2, 0, none⟩)) 3 3)]) (by kernel_rfl) (pack_c _ 3 [signL, intB k, voteL] _ (C_of_blk (d := kby) (xs := [signL, intB k, voteL]) (H6.get 0 rfl) [[(.slice (some (⟨g1, 0, none⟩)) 4 4)], [(.slice Ai ((intB k).length) ci)], [(.slice (some (⟨gs1, 0, none⟩)) 4 cs_1)]] rfl (by kernel_rfl) (by simp) rfl (fun j x q hx hq => by match j with | 0 => (simp at hx hq; subst hx; subst hq; exact ⟨_, _, rfl, (H6.get 2 rfl).1.1, slR_C (H6.get 2 rfl)⟩) | 1 => (simp at hx hq; subst hx; subst hq; exact ⟨_, _, rfl, byR_le (H6.get 3 rfl), byR_C (H6.get 3 rfl)⟩) | 2 => (simp at hx hq; subst hx; subst hq; exact ⟨_, _, rfl, (H6.get 1 rfl).1.1, slR_C (H6.get 1 rfl)⟩) | j + 3 => simp at hq)) (by omega)) ?_)
  rintro e w7 ⟨Ap1, cp1, rfl, hH_⟩
  refine ⟨_, rfl, ?_⟩
  have H7 := H6.join hH_
  have hb_ := hH_.to_below
  refine l_cons (ev_run (v := (.slice A l.length c)) (w1 := w7) rfl rfl (by kernel_rfl) ?_)
  refine l_cons (ev_call rfl rfl (f := 46) (args := #[(.slice A l.length c)]) (by kernel_rfl) (pack_c A c l _ (C_to hC H7) (by omega)) ?_)
  rintro e w8 ⟨Ap2, cp2, rfl, hH_⟩
  refine ⟨_, rfl, ?_⟩
  have H8 := H7.join hH_
  have hb_ := hH_.to_below
  refine l_cons (ev_append (e := 5) (sz := 1) (z := (.int .u8 0)) (bytes := 1) 1 (A := Ap1) (m0 := ((packB [signL, intB k, voteL]).length)) (c := cp1) (rows := (bts (packB [signL, intB k, voteL]))) ((packB l).map fun y => [Value.int .u8 y]) Ap2 ((packB l).length) cp2 rfl rfl rfl Try.underlying24 (by kernel_rfl) rfl rfl rfl H8 rfl (by kernel_rfl) (by kernel_rfl) (by first | rfl | (simp; done) | assumption | omega) (fun j row hj => read_scalar (byR_C (H8.get 0 rfl)) j row hj) (by first | omega | (simp; omega)) ((packB [signL, intB k, voteL]).length + (packB l).length) (by first | rfl | omega) ?_)
  intro Aa1 cc1 w9 H9 hcw9
  refine l_cons (ev_run (v := (.slice Aa1 (((packB [signL, intB k, voteL]).length + (packB l).length)) cc1)) (w1 := w9) rfl rfl (by kernel_rfl) ?_)
  refine l_nil ?_
  refine n_then ?_
  refine wp_ret ?_
  refine b_ret (v := (.slice Aa1 (((packB [signL, intB k, voteL]).length + (packB l).length)) cc1)) (resS rfl (.tmp (by kernel_rfl) .nil)) ?_
  have hl2 : (textB k l).length = (packB [signL, intB k, voteL]).length + (packB l).length := List.length_append
  rw [hl2]
  exact ⟨_, _, rfl, row_snoc (H9.sel [1] (by decide))⟩

theorem ktext_no (k : Int) (hk : k < 0 ∨ 127 < k) (d : ByteArray) (A : Option Addr) (n c : Nat) (w : World) : Calls Try.prog 37 #[.int .i64 k, .string d, .slice A n c] w fun e w' => e = .returned (.slice none 0 0) ∧ Below w.heap.size w w' := by
  have H := Hp.start (fun _ => False) w
  have hrk : decide (0 ≤ (k : Int) ∧ (k : Int) ≤ 127) = false := decide_eq_false (by omega)
  refine k_enter (args := [(.int .i64 k), (.string d), (.slice A n c)]) Try.func37 rfl Try.ntmps37 (Nat.le_of_ble_eq_true rfl) ?_
  refine wp_seq ?_
  refine k_list ?_
  refine l_cons (ev_run (v := (.slice none 0 0)) (w1 := w) rfl rfl (by kernel_rfl) ?_)
  refine l_nil ?_
  refine n_then ?_
  refine wp_seq ?_
  refine wp_seq ?_
  refine k_list ?_
  refine l_cons (ev_run (v := (.int .i64 k)) (w1 := w) rfl rfl (by kernel_rfl) ?_)
  refine l_cons (ev_call rfl rfl (f := 40) (args := #[(.int .i64 k)]) (by kernel_rfl) ((right_c k _).mono (fun e w' h => (show e = .returned (.bool false) ∧ _ from by rw [hrk] at h; exact h))) ?_)
  rintro e w1 ⟨rfl, hb_⟩
  refine ⟨_, rfl, ?_⟩
  have H1 := H.below hb_
  refine l_cons (ev_run (v := (.bool true)) (w1 := w1) rfl rfl (by kernel_rfl) ?_)
  refine l_nil ?_
  refine n_then ?_
  refine k_true (by kernel_rfl) ?_
  refine wp_seq ?_
  refine k_list ?_
  refine l_cons (ev_run (v := (.slice none 0 0)) (w1 := w1) rfl rfl (by kernel_rfl) ?_)
  refine l_nil ?_
  refine n_then ?_
  refine wp_ret ?_
  refine r_then ?_
  refine b_ret (v := (.slice none 0 0)) (resS rfl (.tmp (by kernel_rfl) .nil)) ?_
  exact ⟨rfl, H1.to_below⟩
end Go.Proofs.Ytokpdecpmcbcpaa
