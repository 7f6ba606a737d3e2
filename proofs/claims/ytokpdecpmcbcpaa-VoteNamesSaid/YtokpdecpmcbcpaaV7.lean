/- Some texts as one. -/
import Derived.Test.YtokpdecpmcbcpaaV6
namespace Go.Proofs.Ytokpdecpmcbcpaa
open Go.RowKit Go.Proofs.YtokpdecpmcbcpaaW.PrintWords Go.Proofs.YtokpdecpmcbcpaaW.PrintLast Go.Proofs.YtokpdecpmcbcpaaW.PrintMore
open Go.Proofs.Ytokpdecpmcbcpaa.PVoteMakes
set_option linter.unusedVariables false
set_option linter.unusedSimpArgs false
set_option maxRecDepth 100000

/-- Texts as elements. -/
abbrev kby : Kd (List Int) := Kd.slice 5 B8
def packB (l : List (List Int)) : List Int := l.flatMap lenB
theorem packB_succ (l : List (List Int)) (j : Nat) (h : j < l.length) : packB (l.take (j + 1)) = packB (l.take j) ++ lenB (l.getD j []) := by
  have hg : l.getD j [] = l[j] := by rw [List.getD_eq_getElem?_getD, List.getElem?_eq_getElem h]; rfl
  rw [List.take_succ_eq_append_getElem h, hg]
  simp only [packB, List.flatMap_append, List.flatMap_cons, List.flatMap_nil, List.append_nil]
theorem packB_le (l : List (List Int)) (j : Nat) : (packB (l.take j)).length ≤ (packB l).length := by
  have h : packB l = packB (l.take j) ++ packB (l.drop j) := by rw [packB, packB, packB, ← List.flatMap_append, List.take_append_drop]
  rw [h, List.length_append]; omega
set_option maxHeartbeats 1000000 in
theorem pack_c (A : Option Addr) (c : Nat) (l : List (List Int)) (w : World) (hC : Kd.C kby w A l.length l) (hl : (packB l).length ≤ 140737488355000) :
    Calls Try.prog 46 #[.slice A l.length c] w fun e w' => ∃ A' c', e = .returned (.slice A' (packB l).length c') ∧ Hp (fun _ => False) w w' [byR A' (packB l).length c' (packB l)] := by
  have H := Hp.start (fun _ => False) w
  have hlen := C_len hC
  refine k_enter (args := [(.slice A l.length c)]) Try.func46 rfl Try.ntmps46 (Nat.le_of_ble_eq_true rfl) ?_
  refine wp_seq ?_
  refine k_list ?_
  refine l_cons (ev_run (v := (.slice none 0 0)) (w1 := w) rfl rfl (by kernel_rfl) ?_)
  refine l_nil ?_
  refine n_then ?_
  refine wp_seq ?_
  refine k_list ?_
  refine l_cons (ev_run (v := (.slice none 0 0)) (w1 := w) rfl rfl (by kernel_rfl) ?_)
  refine l_nil ?_
  refine n_then ?_
  refine wp_seq ?_
  refine wp_seq ?_
  refine k_list ?_
  refine l_cons (ev_run (v := (.slice A l.length c)) (w1 := w) rfl rfl (by kernel_rfl) ?_)
  refine l_cons (ev_run (v := (.int .i64 (((l.length : Nat) : Int)))) (w1 := w) rfl rfl (by kernel_rfl) ?_)
  refine l_cons (ev_run (v := (.int .i64 0)) (w1 := w) rfl rfl (by kernel_rfl) ?_)
  refine l_nil ?_
  refine n_then ?_
  refine wp_block ?_
  have H1 := H.addE (rowR 5 1 none 0 0 []) (rowR_nil _ _ _) (fun k hk => by cases hk)
  refine k_loop (σ := Nat × Nat × List Int × Option Addr × Nat) (fun x_ => match x_ with | (i, no, os, Ao, co) => [(6, (.slice A l.length c)), (7, (.int .i64 (((l.length : Nat) : Int)))), (8, (.int .i64 (((i : Nat) : Int)))), (3, (.slice Ao no co))]) (fun x_ w' => match x_ with | (i, no, os, Ao, co) => (i ≤ l.length) ∧ (os = packB (l.take i)) ∧ Hp (fun _ => False) w w' [rowR 5 1 Ao no co ((os).map fun y => [Value.int .u8 y])]) (fun x_ => match x_ with | (i, no, os, Ao, co) => l.length - i) (0, 0, [], none, 0) ⟨(by first | rfl | kernel_rfl), (by first | rfl | kernel_rfl), (by first | rfl | kernel_rfl), (by first | rfl | kernel_rfl), trivial⟩ ⟨(by omega), rfl, H1⟩ ?_
  rintro L1 ⟨i, no, os, Ao, co⟩ w1 ⟨hi, hos, H2⟩
  change Code.wp _ _ _ (Fr _ _ [(6, (.slice A l.length c)), (7, (.int .i64 (((l.length : Nat) : Int)))), (8, (.int .i64 (((i : Nat) : Int)))), (3, (.slice Ao no co))]) _
  have hno : no = os.length := by have h := (rowR_len (H2.get 0 rfl)).1; simpa using h
  rcases Nat.lt_or_ge i l.length with hlt | hge
  · skip
    obtain ⟨ad, rfl⟩ := C_some hC (by omega) []
    obtain ⟨cx_, hK, hxA⟩ := C_at hC [] i hlt
    have hsx := packB_succ l i hlt
    have hlx := packB_le l (i + 1)
    rw [hsx, List.length_append, ← hos] at hlx
    obtain ⟨x, hx⟩ : ∃ x, x = l.getD i [] := ⟨_, rfl⟩
    rw [← hx] at hK hsx hlx
    obtain ⟨Ax, cx, rfl, lx, gx⟩ := hK
    have hxb : x.length ≤ (lenB x).length := by rw [lenB, List.length_append]; omega
    refine wp_seq ?_
    refine k_list ?_
    refine l_cons (ev_eq (v := (.bool (decide ((((i : Nat) : Int) : Int) < ((l.length : Nat) : Int))))) (v' := (.bool true)) (w1 := w1) rfl rfl (by kernel_rfl) (bt (by first | assumption | omega)) ?_)
    refine l_nil ?_
    refine n_then ?_
    refine wp_seq ?_
    refine k_true (by kernel_rfl) ?_
    refine wp_skip ?_
    refine n_then ?_
    refine wp_seq ?_
    refine wp_block ?_
    refine wp_seq ?_
    refine k_list ?_
    refine l_cons (ev_run (v := (.pointer (some ((ad).add (i * 1))))) (w1 := w1) rfl rfl (run_ixa (sz := 1) (q := i) (ad := ad) (len := l.length) (cap := c) (k := .i64) (z := ((i : Nat) : Int)) rfl (by kernel_rfl) (by kernel_rfl) rfl (by kernel_rfl) (by first | rfl | omega) (by first | omega | decide)) ?_)
    refine l_cons (ev_run (v := (.slice Ax x.length cx)) (w1 := w1) rfl rfl (run_ld rfl (by kernel_rfl) (At.hp hxA H2 (fun h => h)) (by kernel_rfl)) ?_)
    refine l_cons (ev_run (v := (.slice Ax x.length cx)) (w1 := w1) rfl rfl (by kernel_rfl) ?_)
    refine l_nil ?_
    refine n_then ?_
    refine k_list ?_
    refine l_cons (ev_run (v := (.slice Ao no co)) (w1 := w1) rfl rfl (by kernel_rfl) ?_)
    refine l_cons (ev_run (v := (.slice Ax x.length cx)) (w1 := w1) rfl rfl (by kernel_rfl) ?_)
    refine l_cons (ev_call rfl rfl (f := 54) (args := #[(.slice Ax x.length cx)]) (by kernel_rfl) (bytes_c Ax cx x _ (C_to gx H2) (by omega)) ?_)
    rintro e w2 ⟨Ab, cb, rfl, hH_⟩
    refine ⟨_, rfl, ?_⟩
    have H3 := H2.join hH_
    have hb_ := hH_.to_below
    refine l_cons (ev_append (e := 5) (sz := 1) (z := (.int .u8 0)) (bytes := 1) 1 (A := Ao) (m0 := no) (c := co) (rows := ((os).map fun y => [Value.int .u8 y])) ((lenB x).map fun y => [Value.int .u8 y]) Ab ((lenB x).length) cb rfl rfl rfl Try.underlying24 (by kernel_rfl) rfl rfl rfl H3 rfl (by kernel_rfl) (by kernel_rfl) (by first | rfl | (simp; done) | assumption | omega) (fun j row hj => read_scalar (byR_C (H3.get 0 rfl)) j row hj) (by first | omega | (simp; omega)) (no + (lenB x).length) (by first | rfl | omega) ?_)
    intro Aa1 cc1 w3 H4 hcw3
    refine l_cons (ev_run (v := (.slice Aa1 ((no + (lenB x).length)) cc1)) (w1 := w3) rfl rfl (by kernel_rfl) ?_)
    refine l_nil ?_
    refine n_in ?_
    refine n_then ?_
    refine k_list ?_
    refine l_cons (ev_eq (v := (.int .i64 (IntKind.i64.wrap (((i : Nat) : Int) + 1)))) (v' := (.int .i64 ((((i : Nat) : Int) + 1)))) (w1 := w3) rfl rfl (by kernel_rfl) (wr64 (by omega) (by omega)) ?_)
    refine l_cons (ev_run (v := (.int .i64 ((((i : Nat) : Int) + 1)))) (w1 := w3) rfl rfl (by kernel_rfl) ?_)
    refine l_nil ?_
    refine n_then ?_
    have H5 := H4.sel [1, 0] (by decide)
    have H6 : Hp (fun _ => False) w w3 [rowR 5 1 Aa1 (no + (lenB x).length) cc1 ((os ++ (lenB x)).map fun y => [Value.int .u8 y]), rowR 5 1 Ab ((lenB x).length) cb (bts (lenB x))] := row_snoc H5
    exact k_round (i + 1, (no + (lenB x).length), os ++ (lenB x), Aa1, cc1) ⟨(by first | rfl | kernel_rfl), (by first | rfl | kernel_rfl), (by first | rfl | kernel_rfl), (by first | rfl | kernel_rfl), trivial⟩ ⟨(by omega), (by rw [hos, hsx]), H6.sel [0] (by decide)⟩ (by first | omega | (simp; done) | (simp; omega))
  · skip
    have hil : i = l.length := by omega
    refine wp_seq ?_
    refine k_list ?_
    refine l_cons (ev_eq (v := (.bool (decide ((((i : Nat) : Int) : Int) < ((l.length : Nat) : Int))))) (v' := (.bool false)) (w1 := w1) rfl rfl (by kernel_rfl) (bf (by first | assumption | omega)) ?_)
    refine l_nil ?_
    refine n_then ?_
    refine wp_seq ?_
    refine k_false (by kernel_rfl) ?_
    refine wp_exit ?_
    refine e_then ?_
    refine e_then ?_
    refine e_in ?_
    refine n_then ?_
    refine wp_seq ?_
    refine k_list ?_
    refine l_cons (ev_run (v := (.slice Ao no co)) (w1 := w1) rfl rfl (by kernel_rfl) ?_)
    refine l_cons (ev_run (v := (.slice Ao no co)) (w1 := w1) rfl rfl (by kernel_rfl) ?_)
    refine l_nil ?_
    refine n_then ?_
    refine wp_ret ?_
    refine b_ret (v := (.slice Ao no co)) (resS rfl (.tmp (by kernel_rfl) .nil)) ?_
    rw [hil, List.take_length] at hos
    have hos_ := hos.symm
    subst hos_
    subst hno
    exact ⟨Ao, co, rfl, H2⟩
end Go.Proofs.Ytokpdecpmcbcpaa
