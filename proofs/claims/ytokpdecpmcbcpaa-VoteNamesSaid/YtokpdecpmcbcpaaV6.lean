/- Two texts put together; a text with its length ahead. -/
import Derived.Test.YtokpdecpmcbcpaaV5
namespace Go.Proofs.Ytokpdecpmcbcpaa
open Go.RowKit Go.Proofs.YtokpdecpmcbcpaaW.PrintWords Go.Proofs.YtokpdecpmcbcpaaW.PrintLast Go.Proofs.YtokpdecpmcbcpaaW.PrintMore
open Go.Proofs.Ytokpdecpmcbcpaa.PVoteMakes
set_option linter.unusedVariables false
set_option linter.unusedSimpArgs false
set_option maxRecDepth 100000

set_option maxHeartbeats 1000000 in
theorem concat_c (gp : Nat) (cp : Nat) (A1 : Option Addr) (c1 : Nat) (l1 : List Int) (A2 : Option Addr) (c2 : Nat) (l2 : List Int) (w : World) (hp : (blk gp [.slice A1 l1.length c1, .slice A2 l2.length c2] 24).ok w) (hC1 : Kd.C B8 w A1 l1.length l1) (hC2 : Kd.C B8 w A2 l2.length l2) (hl : l1.length + l2.length ≤ 140737488355328) :
    Calls Try.prog 58 #[.slice (some ⟨gp, 0, none⟩) 2 cp] w fun e w' => ∃ A c, e = .returned (.slice A (l1 ++ l2).length c) ∧ Hp (fun _ => False) w w' [byR A (l1 ++ l2).length c (l1 ++ l2)] := by
  have H := Hp.start (fun _ => False) w
  refine k_enter (args := [(.slice (some (⟨gp, 0, none⟩)) 2 cp)]) Try.func58 rfl Try.ntmps58 (Nat.le_of_ble_eq_true rfl) ?_
  refine wp_seq ?_
  refine k_list ?_
  refine l_cons (ev_run (v := (.slice none 0 0)) (w1 := w) rfl rfl (by kernel_rfl) ?_)
  refine l_nil ?_
  refine n_then ?_
  refine wp_seq ?_
  refine k_list ?_
  refine l_cons (ev_run (v := (.int .i64 0)) (w1 := w) rfl rfl (by kernel_rfl) ?_)
  refine l_nil ?_
  refine n_then ?_
  refine wp_seq ?_
  refine wp_seq ?_
  refine k_list ?_
  refine l_cons (ev_run (v := (.slice (some (⟨gp, 0, none⟩)) 2 cp)) (w1 := w) rfl rfl (by kernel_rfl) ?_)
  refine l_cons (ev_run (v := (.int .i64 2)) (w1 := w) rfl rfl (by kernel_rfl) ?_)
  refine l_cons (ev_run (v := (.int .i64 0)) (w1 := w) rfl rfl (by kernel_rfl) ?_)
  refine l_nil ?_
  refine n_then ?_
  refine wp_block ?_
  refine k_loop (σ := Nat × Nat) (fun x_ => match x_ with | (i, z) => [(0, (.slice (some (⟨gp, 0, none⟩)) 2 cp)), (9, (.slice (some (⟨gp, 0, none⟩)) 2 cp)), (10, (.int .i64 2)), (11, (.int .i64 (((i : Nat) : Int)))), (3, (.int .i64 (((z : Nat) : Int))))]) (fun x_ w' => match x_ with | (i, z) => ((i = 0 ∧ z = 0) ∨ (i = 1 ∧ z = l1.length) ∨ (i = 2 ∧ z = l1.length + l2.length)) ∧ Hp (fun _ => False) w w' []) (fun x_ => match x_ with | (i, z) => 2 - i) (0, 0) ⟨(by first | rfl | kernel_rfl), (by first | rfl | kernel_rfl), (by first | rfl | kernel_rfl), (by first | rfl | kernel_rfl), (by first | rfl | kernel_rfl), trivial⟩ ⟨(.inl ⟨rfl, rfl⟩), H⟩ ?_
  rintro L1 ⟨i, z⟩ w1 ⟨hi, H1⟩
  change Code.wp _ _ _ (Fr _ _ [(0, (.slice (some (⟨gp, 0, none⟩)) 2 cp)), (9, (.slice (some (⟨gp, 0, none⟩)) 2 cp)), (10, (.int .i64 2)), (11, (.int .i64 (((i : Nat) : Int)))), (3, (.int .i64 (((z : Nat) : Int))))]) _
  rcases hi with ⟨rfl, rfl⟩ | ⟨rfl, rfl⟩ | ⟨rfl, rfl⟩
  · skip
    refine wp_seq ?_
    refine k_list ?_
    refine l_cons (ev_run (v := (.bool true)) (w1 := w1) rfl rfl (by kernel_rfl) ?_)
    refine l_nil ?_
    refine n_then ?_
    refine wp_seq ?_
    refine k_true (by kernel_rfl) ?_
    refine wp_skip ?_
    refine n_then ?_
    refine wp_seq ?_
    refine wp_block ?_
    refine wp_seq ?_
    refine k_list ?_
    refine l_cons (ev_run (v := (.pointer (some (⟨gp, 0, none⟩)))) (w1 := w1) rfl rfl (run_ixa (sz := 1) (q := 0) (ad := ⟨gp, 0, none⟩) (len := 2) (cap := cp) (k := .i64) (z := 0) rfl (by kernel_rfl) (by kernel_rfl) rfl (by kernel_rfl) (by first | rfl | omega) (by first | omega | decide)) ?_)
    refine l_cons (ev_run (v := (.slice A1 l1.length c1)) (w1 := w1) rfl rfl (run_ld rfl (by kernel_rfl) (At.hp (At.blk hp 0) H1 (fun h => h)) (by kernel_rfl)) ?_)
    refine l_cons (ev_run (v := (.slice A1 l1.length c1)) (w1 := w1) rfl rfl (by kernel_rfl) ?_)
    refine l_nil ?_
    refine n_then ?_
    refine wp_seq ?_
    refine k_list ?_
    refine l_cons (ev_run (v := (.int .i64 0)) (w1 := w1) rfl rfl (by kernel_rfl) ?_)
    refine l_cons (ev_run (v := (.slice A1 l1.length c1)) (w1 := w1) rfl rfl (by kernel_rfl) ?_)
    refine l_cons (ev_run (v := (.int .i64 (((l1.length : Nat) : Int)))) (w1 := w1) rfl rfl (by kernel_rfl) ?_)
    refine l_cons (ev_eq (v := (.int .i64 (IntKind.i64.wrap (0 + ((l1.length : Nat) : Int))))) (v' := (.int .i64 ((0 + ((l1.length : Nat) : Int))))) (w1 := w1) rfl rfl (by kernel_rfl) (wr64 (by omega) (by omega)) ?_)
    refine l_cons (ev_run (v := (.int .i64 ((0 + ((l1.length : Nat) : Int))))) (w1 := w1) rfl rfl (by kernel_rfl) ?_)
    refine l_nil ?_
    refine n_then ?_
    refine wp_seq ?_
    refine k_list ?_
    refine l_cons (ev_run (v := (.int .i64 ((0 + ((l1.length : Nat) : Int))))) (w1 := w1) rfl rfl (by kernel_rfl) ?_)
    refine l_cons (ev_eq (v := (.bool (decide (((0 + ((l1.length : Nat) : Int)) : Int) < 0)))) (v' := (.bool false)) (w1 := w1) rfl rfl (by kernel_rfl) (bf (by first | assumption | omega)) ?_)
    refine l_nil ?_
    refine n_then ?_
    refine k_false (by kernel_rfl) ?_
    refine wp_skip ?_
    refine n_in ?_
    refine n_then ?_
    refine k_list ?_
    refine l_cons (ev_run (v := (.int .i64 1)) (w1 := w1) rfl rfl (by kernel_rfl) ?_)
    refine l_cons (ev_run (v := (.int .i64 1)) (w1 := w1) rfl rfl (by kernel_rfl) ?_)
    refine l_nil ?_
    refine n_then ?_
    exact k_round (1, (0 + l1.length)) ⟨(by first | rfl | kernel_rfl), (by first | rfl | kernel_rfl), (by first | rfl | kernel_rfl), (by first | rfl | kernel_rfl), (by first | rfl | kernel_rfl), trivial⟩ ⟨(.inr (.inl ⟨rfl, by omega⟩)), H1⟩ (by first | omega | (simp; done) | (simp; omega))
  · skip
    refine wp_seq ?_
    refine k_list ?_
    refine l_cons (ev_run (v := (.bool true)) (w1 := w1) rfl rfl (by kernel_rfl) ?_)
    refine l_nil ?_
    refine n_then ?_
    refine wp_seq ?_
    refine k_true (by kernel_rfl) ?_
    refine wp_skip ?_
    refine n_then ?_
    refine wp_seq ?_
    refine wp_block ?_
    refine wp_seq ?_
    refine k_list ?_
    refine l_cons (ev_run (v := (.pointer (some (⟨gp, 1, none⟩)))) (w1 := w1) rfl rfl (run_ixa (sz := 1) (q := 1) (ad := ⟨gp, 0, none⟩) (len := 2) (cap := cp) (k := .i64) (z := 1) rfl (by kernel_rfl) (by kernel_rfl) rfl (by kernel_rfl) (by first | rfl | omega) (by first | omega | decide)) ?_)
    refine l_cons (ev_run (v := (.slice A2 l2.length c2)) (w1 := w1) rfl rfl (run_ld rfl (by kernel_rfl) (At.field (At.hp (At.blk hp 0) H1 (fun h => h)) 1) (by kernel_rfl)) ?_)
    refine l_cons (ev_run (v := (.slice A2 l2.length c2)) (w1 := w1) rfl rfl (by kernel_rfl) ?_)
    refine l_nil ?_
    refine n_then ?_
    refine wp_seq ?_
    refine k_list ?_
    refine l_cons (ev_run (v := (.int .i64 (((l1.length : Nat) : Int)))) (w1 := w1) rfl rfl (by kernel_rfl) ?_)
    refine l_cons (ev_run (v := (.slice A2 l2.length c2)) (w1 := w1) rfl rfl (by kernel_rfl) ?_)
    refine l_cons (ev_run (v := (.int .i64 (((l2.length : Nat) : Int)))) (w1 := w1) rfl rfl (by kernel_rfl) ?_)
    refine l_cons (ev_eq (v := (.int .i64 (IntKind.i64.wrap (((l1.length : Nat) : Int) + ((l2.length : Nat) : Int))))) (v' := (.int .i64 ((((l1.length : Nat) : Int) + ((l2.length : Nat) : Int))))) (w1 := w1) rfl rfl (by kernel_rfl) (wr64 (by omega) (by omega)) ?_)
    refine l_cons (ev_run (v := (.int .i64 ((((l1.length : Nat) : Int) + ((l2.length : Nat) : Int))))) (w1 := w1) rfl rfl (by kernel_rfl) ?_)
    refine l_nil ?_
    refine n_then ?_
    refine wp_seq ?_
    refine k_list ?_
    refine l_cons (ev_run (v := (.int .i64 ((((l1.length : Nat) : Int) + ((l2.length : Nat) : Int))))) (w1 := w1) rfl rfl (by kernel_rfl) ?_)
    refine l_cons (ev_eq (v := (.bool (decide (((((l1.length : Nat) : Int) + ((l2.length : Nat) : Int)) : Int) < 0)))) (v' := (.bool false)) (w1 := w1) rfl rfl (by kernel_rfl) (bf (by first | assumption | omega)) ?_)
    refine l_nil ?_
    refine n_then ?_
    refine k_false (by kernel_rfl) ?_
    refine wp_skip ?_
    refine n_in ?_
    refine n_then ?_
    refine k_list ?_
    refine l_cons (ev_run (v := (.int .i64 2)) (w1 := w1) rfl rfl (by kernel_rfl) ?_)
    refine l_cons (ev_run (v := (.int .i64 2)) (w1 := w1) rfl rfl (by kernel_rfl) ?_)
    refine l_nil ?_
    refine n_then ?_
    exact k_round (2, (l1.length + l2.length)) ⟨(by first | rfl | kernel_rfl), (by first | rfl | kernel_rfl), (by first | rfl | kernel_rfl), (by first | rfl | kernel_rfl), (by first | rfl | kernel_rfl), trivial⟩ ⟨(.inr (.inr ⟨rfl, by omega⟩)), H1⟩ (by first | omega | (simp; done) | (simp; omega))
  · skip
    refine wp_seq ?_
    refine k_list ?_
    refine l_cons (ev_run (v := (.bool false)) (w1 := w1) rfl rfl (by kernel_rfl) ?_)
    refine l_nil ?_
    refine n_then ?_
    refine wp_seq ?_
    refine k_false (by kernel_rfl) ?_
    refine wp_exit ?_
    refine e_then ?_
    refine e_then ?_
    refine e_in ?_
    refine n_then ?_
    refine wp_seq ?_
    refine k_list ?_
    refine l_cons (ev_run (v := (.int .i64 ((((l1.length + l2.length) : Nat) : Int)))) (w1 := w1) rfl rfl (by kernel_rfl) ?_)
    refine l_cons (ev_call rfl rfl (f := 60) (args := #[(.slice none 0 0), (.int .i64 ((((l1.length + l2.length) : Nat) : Int)))]) (by kernel_rfl) (grow_c (l1.length + l2.length) _ (by omega)) ?_)
    rintro e w2 ⟨Agr, cgr, rfl, hH_⟩
    refine ⟨_, rfl, ?_⟩
    have H2 := H1.join hH_
    have hb_ := hH_.to_below
    refine l_cons (ev_run (v := (.slice Agr 0 cgr)) (w1 := w2) rfl rfl (by kernel_rfl) ?_)
    refine l_nil ?_
    refine n_then ?_
    refine wp_seq ?_
    refine wp_seq ?_
    refine k_list ?_
    refine l_cons (ev_run (v := (.slice (some (⟨gp, 0, none⟩)) 2 cp)) (w1 := w2) rfl rfl (by kernel_rfl) ?_)
    refine l_cons (ev_run (v := (.int .i64 2)) (w1 := w2) rfl rfl (by kernel_rfl) ?_)
    refine l_cons (ev_run (v := (.int .i64 0)) (w1 := w2) rfl rfl (by kernel_rfl) ?_)
    refine l_nil ?_
    refine n_then ?_
    refine wp_block ?_
    refine k_loop (σ := Nat × Nat × List Int × Option Addr × Nat) (fun x_ => match x_ with | (i, no, os, Ao, co) => [(25, (.slice (some (⟨gp, 0, none⟩)) 2 cp)), (26, (.int .i64 2)), (27, (.int .i64 (((i : Nat) : Int)))), (6, (.slice Ao no co))]) (fun x_ w' => match x_ with | (i, no, os, Ao, co) => ((i = 0 ∧ os = []) ∨ (i = 1 ∧ os = l1) ∨ (i = 2 ∧ os = l1 ++ l2)) ∧ Hp (fun _ => False) w w' [rowR 5 1 Ao no co ((os).map fun y => [Value.int .u8 y])]) (fun x_ => match x_ with | (i, no, os, Ao, co) => 2 - i) (0, 0, [], Agr, cgr) ⟨(by first | rfl | kernel_rfl), (by first | rfl | kernel_rfl), (by first | rfl | kernel_rfl), (by first | rfl | kernel_rfl), trivial⟩ ⟨(.inl ⟨rfl, rfl⟩), H2⟩ ?_
    rintro L2 ⟨i, no, os, Ao, co⟩ w3 ⟨hi, H3⟩
    change Code.wp _ _ _ (Fr _ _ [(25, (.slice (some (⟨gp, 0, none⟩)) 2 cp)), (26, (.int .i64 2)), (27, (.int .i64 (((i : Nat) : Int)))), (6, (.slice Ao no co))]) _
    have hno : no = os.length := by have h := (rowR_len (H3.get 0 rfl)).1; simpa using h
    rcases hi with ⟨rfl, hos⟩ | ⟨rfl, hos⟩ | ⟨rfl, hos⟩
    · skip
      have hos_ := hos.symm
      subst hos_
      have hn0 : no = 0 := hno
      refine wp_seq ?_
      refine k_list ?_
      refine l_cons (ev_run (v := (.bool true)) (w1 := w3) rfl rfl (by kernel_rfl) ?_)
      refine l_nil ?_
      refine n_then ?_
      refine wp_seq ?_
      refine k_true (by kernel_rfl) ?_
      refine wp_skip ?_
      refine n_then ?_
      refine wp_seq ?_
      refine wp_block ?_
      refine wp_seq ?_
      refine k_list ?_
      refine l_cons (ev_run (v := (.pointer (some (⟨gp, 0, none⟩)))) (w1 := w3) rfl rfl (run_ixa (sz := 1) (q := 0) (ad := ⟨gp, 0, none⟩) (len := 2) (cap := cp) (k := .i64) (z := 0) rfl (by kernel_rfl) (by kernel_rfl) rfl (by kernel_rfl) (by first | rfl | omega) (by first | omega | decide)) ?_)
      refine l_cons (ev_run (v := (.slice A1 l1.length c1)) (w1 := w3) rfl rfl (run_ld rfl (by kernel_rfl) (At.hp (At.blk hp 0) H3 (fun h => h)) (by kernel_rfl)) ?_)
      refine l_cons (ev_run (v := (.slice A1 l1.length c1)) (w1 := w3) rfl rfl (by kernel_rfl) ?_)
      refine l_nil ?_
      refine n_then ?_
      refine k_list ?_
      refine l_cons (ev_run (v := (.slice Ao no co)) (w1 := w3) rfl rfl (by kernel_rfl) ?_)
      refine l_cons (ev_run (v := (.slice A1 l1.length c1)) (w1 := w3) rfl rfl (by kernel_rfl) ?_)
      refine l_cons (ev_append (e := 5) (sz := 1) (z := (.int .u8 0)) (bytes := 1) 0 (A := Ao) (m0 := no) (c := co) (rows := ((([] : List Int)).map fun y => [Value.int .u8 y])) (l1.map fun y => [Value.int .u8 y]) A1 l1.length c1 rfl rfl rfl Try.underlying24 (by kernel_rfl) rfl rfl rfl H3 rfl (by kernel_rfl) (by kernel_rfl) (by first | rfl | (simp; done) | assumption | omega) (fun j row hj => read_scalar (C_to hC1 H3) j row hj) (by first | omega | (simp; omega)) (no + l1.length) (by first | rfl | omega) ?_)
      intro Aa1 cc1 w4 H4 hcw4
      refine l_cons (ev_run (v := (.slice Aa1 ((no + l1.length)) cc1)) (w1 := w4) rfl rfl (by kernel_rfl) ?_)
      refine l_nil ?_
      refine n_in ?_
      refine n_then ?_
      refine k_list ?_
      refine l_cons (ev_run (v := (.int .i64 1)) (w1 := w4) rfl rfl (by kernel_rfl) ?_)
      refine l_cons (ev_run (v := (.int .i64 1)) (w1 := w4) rfl rfl (by kernel_rfl) ?_)
      refine l_nil ?_
      refine n_then ?_
      have H5 : Hp (fun _ => False) w w4 [rowR 5 1 Aa1 (no + l1.length) cc1 ((([] : List Int) ++ l1).map fun y => [Value.int .u8 y])] := row_snoc H4
      exact k_round (1, (no + l1.length), ([] : List Int) ++ l1, Aa1, cc1) ⟨(by first | rfl | kernel_rfl), (by first | rfl | kernel_rfl), (by first | rfl | kernel_rfl), (by first | rfl | kernel_rfl), trivial⟩ ⟨(.inr (.inl ⟨rfl, rfl⟩)), H5⟩ (by first | omega | (simp; done) | (simp; omega))
    · skip
      have hos_ := hos.symm
      subst hos_
      have hn1 : no = l1.length := hno
      refine wp_seq ?_
      refine k_list ?_
      refine l_cons (ev_run (v := (.bool true)) (w1 := w3) rfl rfl (by kernel_rfl) ?_)
      refine l_nil ?_
      refine n_then ?_
      refine wp_seq ?_
      refine k_true (by kernel_rfl) ?_
      refine wp_skip ?_
      refine n_then ?_
      refine wp_seq ?_
      refine wp_block ?_
      refine wp_seq ?_
      refine k_list ?_
      refine l_cons (ev_run (v := (.pointer (some (⟨gp, 1, none⟩)))) (w1 := w3) rfl rfl (run_ixa (sz := 1) (q := 1) (ad := ⟨gp, 0, none⟩) (len := 2) (cap := cp) (k := .i64) (z := 1) rfl (by kernel_rfl) (by kernel_rfl) rfl (by kernel_rfl) (by first | rfl | omega) (by first | omega | decide)) ?_)
      refine l_cons (ev_run (v := (.slice A2 l2.length c2)) (w1 := w3) rfl rfl (run_ld rfl (by kernel_rfl) (At.field (At.hp (At.blk hp 0) H3 (fun h => h)) 1) (by kernel_rfl)) ?_)
      refine l_cons (ev_run (v := (.slice A2 l2.length c2)) (w1 := w3) rfl rfl (by kernel_rfl) ?_)
      refine l_nil ?_
      refine n_then ?_
      refine k_list ?_
      refine l_cons (ev_run (v := (.slice Ao no co)) (w1 := w3) rfl rfl (by kernel_rfl) ?_)
      refine l_cons (ev_run (v := (.slice A2 l2.length c2)) (w1 := w3) rfl rfl (by kernel_rfl) ?_)
      refine l_cons (ev_append (e := 5) (sz := 1) (z := (.int .u8 0)) (bytes := 1) 0 (A := Ao) (m0 := no) (c := co) (rows := ((l1).map fun y => [Value.int .u8 y])) (l2.map fun y => [Value.int .u8 y]) A2 l2.length c2 rfl rfl rfl Try.underlying24 (by kernel_rfl) rfl rfl rfl H3 rfl (by kernel_rfl) (by kernel_rfl) (by first | rfl | (simp; done) | assumption | omega) (fun j row hj => read_scalar (C_to hC2 H3) j row hj) (by first | omega | (simp; omega)) (no + l2.length) (by first | rfl | omega) ?_)
      intro Aa2 cc2 w5 H6 hcw5
      refine l_cons (ev_run (v := (.slice Aa2 ((no + l2.length)) cc2)) (w1 := w5) rfl rfl (by kernel_rfl) ?_)
      refine l_nil ?_
      refine n_in ?_
      refine n_then ?_
      refine k_list ?_
      refine l_cons (ev_run (v := (.int .i64 2)) (w1 := w5) rfl rfl (by kernel_rfl) ?_)
      refine l_cons (ev_run (v := (.int .i64 2)) (w1 := w5) rfl rfl (by kernel_rfl) ?_)
      refine l_nil ?_
      refine n_then ?_
      have H7 : Hp (fun _ => False) w w5 [rowR 5 1 Aa2 (no + l2.length) cc2 ((l1 ++ l2).map fun y => [Value.int .u8 y])] := row_snoc H6
      exact k_round (2, (no + l2.length), l1 ++ l2, Aa2, cc2) ⟨(by first | rfl | kernel_rfl), (by first | rfl | kernel_rfl), (by first | rfl | kernel_rfl), (by first | rfl | kernel_rfl), trivial⟩ ⟨(.inr (.inr ⟨rfl, rfl⟩)), H7⟩ (by first | omega | (simp; done) | (simp; omega))
    · skip
      have hos_ := hos.symm
      subst hos_
      have hn2 : no = (l1 ++ l2).length := hno
      refine wp_seq ?_
      refine k_list ?_
      refine l_cons (ev_run (v := (.bool false)) (w1 := w3) rfl rfl (by kernel_rfl) ?_)
      refine l_nil ?_
      refine n_then ?_
      refine wp_seq ?_
      refine k_false (by kernel_rfl) ?_
      refine wp_exit ?_
      refine e_then ?_
      refine e_then ?_
      refine e_in ?_
      refine n_then ?_
      refine wp_seq ?_
      refine k_list ?_
      refine l_cons (ev_run (v := (.slice Ao no co)) (w1 := w3) rfl rfl (by kernel_rfl) ?_)
      refine l_cons (ev_run (v := (.slice Ao no co)) (w1 := w3) rfl rfl (by kernel_rfl) ?_)
      refine l_nil ?_
      refine n_then ?_
      refine wp_ret ?_
      refine b_ret (v := (.slice Ao no co)) (resS rfl (.tmp (by kernel_rfl) .nil)) ?_
      subst hn2
      exact ⟨_, _, rfl, H3⟩

/-- A text with its length ahead. -/
def lenB (xs : List Int) : List Int := intB xs.length ++ xs
theorem viF_le : ∀ (k : Nat) (x : Int), (viF k x).length ≤ k
  | 0, _ => by simp [viF]
  | k + 1, x => by
    rw [viF]
    split
    · have := viF_le k (x / 128); simp; omega
    · simp
theorem intB_le (n : Nat) : (intB n).length ≤ 6 := by
  unfold intB; split
  · simp
  · exact viF_le 6 _
theorem lenB_le (xs : List Int) : (lenB xs).length ≤ xs.length + 6 := by have := intB_le xs.length; rw [lenB, List.length_append]; omega
theorem bytes_c (A : Option Addr) (c : Nat) (xs : List Int) (w : World) (hC : Kd.C B8 w A xs.length xs) (hl : xs.length ≤ 140737488355000) :
    Calls Try.prog 54 #[.slice A xs.length c] w fun e w' => ∃ A' c', e = .returned (.slice A' (lenB xs).length c') ∧ Hp (fun _ => False) w w' [byR A' (lenB xs).length c' (lenB xs)] := by
  have H := Hp.start (fun _ => False) w
  have hil := intB_le xs.length
  refine k_enter (args := [(.slice A xs.length c)]) Try.func54 rfl Try.ntmps54 (Nat.le_of_ble_eq_true rfl) ?_
  refine wp_seq ?_
  refine k_list ?_
  refine l_cons (ev_run (v := (.slice none 0 0)) (w1 := w) rfl rfl (by kernel_rfl) ?_)
  refine l_nil ?_
  refine n_then ?_
  refine wp_seq ?_
  refine k_list ?_
  refine l_cons (ev_run (v := (.slice A xs.length c)) (w1 := w) rfl rfl (by kernel_rfl) ?_)
  refine l_cons (ev_run (v := (.int .i64 (((xs.length : Nat) : Int)))) (w1 := w) rfl rfl (by kernel_rfl) ?_)
  refine l_cons (ev_call rfl rfl (f := 45) (args := #[(.int .i64 (((xs.length : Nat) : Int)))]) (by kernel_rfl) (int_c xs.length _) ?_)
  rintro e w1 ⟨Ai, ci, er, rfl, hH_⟩
  refine ⟨_, rfl, ?_⟩
  have H1 := H.join hH_
  have hb_ := hH_.to_below
  refine l_cons (ev_run (v := (.tuple #[(.slice Ai ((intB xs.length).length) ci), (.int .i64 er)])) (w1 := w1) rfl rfl (by kernel_rfl) ?_)
  refine l_cons (ev_run (v := (.slice Ai ((intB xs.length).length) ci)) (w1 := w1) rfl rfl (by kernel_rfl) ?_)
  refine l_cons (ev_run (v := (.int .i64 er)) (w1 := w1) rfl rfl (by kernel_rfl) ?_)
  refine l_cons (ev_run (v := (.slice Ai ((intB xs.length).length) ci)) (w1 := w1) rfl rfl (by kernel_rfl) ?_)
  refine l_cons (ev_run (v := (.int .i64 er)) (w1 := w1) rfl rfl (by kernel_rfl) ?_)
  refine l_nil ?_
  refine n_then ?_
  refine wp_seq ?_
  refine k_list ?_
  refine l_cons (ev_run (v := (.slice Ai ((intB xs.length).length) ci)) (w1 := w1) rfl rfl (by kernel_rfl) ?_)
  refine l_cons (ev_run (v := (.slice A xs.length c)) (w1 := w1) rfl rfl (by kernel_rfl) ?_)
  refine l_cons (ev_newRow (cs := [(.slice Ai ((intB xs.length).length) ci), (.slice A xs.length c)]) (t := 24) (len := 2) rfl rfl H1 (by kernel_rfl) ?_)
  intro g1 w2 H2 hg1 hbw2
  refine l_cons (ev_call rfl rfl (f := 58) (args := #[(.slice (some (⟨g1, 0, none⟩)) 2 2)]) (by kernel_rfl) (concat_c g1 2 Ai ci (intB xs.length) A c xs _ (H2.get 0 rfl) (byR_C (H2.get 1 rfl)) (C_to hC H2) (by omega)) ?_)
  rintro e w3 ⟨Ac, cc, rfl, hH_⟩
  refine ⟨_, rfl, ?_⟩
  have H3 := H2.join hH_
  have hb_ := hH_.to_below
  refine l_cons (ev_run (v := (.slice Ac ((intB xs.length ++ xs).length) cc)) (w1 := w3) rfl rfl (by kernel_rfl) ?_)
  refine l_nil ?_
  refine n_then ?_
  refine wp_ret ?_
  refine b_ret (v := (.slice Ac ((intB xs.length ++ xs).length) cc)) (resS rfl (.tmp (by kernel_rfl) .nil)) ?_
  exact ⟨Ac, cc, rfl, H3.sel [0] (by decide)⟩
end Go.Proofs.Ytokpdecpmcbcpaa
