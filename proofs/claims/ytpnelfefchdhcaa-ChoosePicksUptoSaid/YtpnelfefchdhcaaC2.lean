/- What the document picks for all slots (catenaryref18.Picks): requests with the preps' own bytes. -/
import Derived.Test.YtpnelfefchdhcaaC1
namespace Go.Proofs.Ytpnelfefchdhcaa
open Go.RowKit Go.Proofs.YtpnelfefchdhcaaW.PrintWords Go.Proofs.YtpnelfefchdhcaaW.PrintLast Go.Proofs.YtpnelfefchdhcaaW.PrintMore
open Go.Proofs.Ytpnelfefchdhcaa.PChoosePicks
set_option linter.unusedVariables false
set_option linter.unusedSimpArgs false
set_option maxRecDepth 100000

set_option maxHeartbeats 1000000 in
theorem rpicks_c (A : Option Addr) (c : Nat) (l : List S30) (W w : World) (hC : Kd.C k30 W A l.length l) (hb0 : Below W.heap.size W w) (hwf : LWf l) (hS : (l.flatMap S30.f5).length ≤ 1048576) :
    Calls Try.prog 15 #[.slice A l.length c] w fun e w' => ∃ A' c' rows, e = .returned (.slice A' (picksOf l).length c') ∧ Elts k36 W (picksOf l) rows ∧ Hp (fun _ => False) w w' [rowR 36 4 A' (picksOf l).length c' rows] := by
  have H := Hp.start (fun _ => False) w
  have hlen := C_len hC
  have h0 := low_ge l
  have h1 := high_ge l
  have h2 := high_le hwf
  have hm : min (highOf l - lowOf l) 16 = ((cntOf l : Nat) : Int) := by unfold cntOf; omega
  obtain ⟨m, hme⟩ : ∃ m, m = cntOf l := ⟨_, rfl⟩
  rw [← hme] at hm
  refine k_enter (args := [(.slice A l.length c)]) Try.func15 rfl Try.ntmps15 (Nat.le_of_ble_eq_true rfl) ?_
  refine wp_seq ?_
  refine k_list ?_
  refine l_cons (ev_run (v := (.slice none 0 0)) (w1 := w) rfl rfl (by kernel_rfl) ?_)
  refine l_nil ?_
  refine n_then ?_
  refine wp_seq ?_
  refine k_list ?_
  refine l_cons (ev_newRow (cs := []) (t := 36) (len := 0) rfl rfl H (by kernel_rfl) ?_)
  intro g1 w1 H1 hg1 hbw1
  refine l_cons (ev_run (v := (.slice (some (⟨g1, 0, none⟩)) 0 0)) (w1 := w1) rfl rfl (by kernel_rfl) ?_)
  refine l_nil ?_
  refine n_then ?_
  refine wp_seq ?_
  refine k_list ?_
  refine l_cons (ev_run (v := (.slice A l.length c)) (w1 := w1) rfl rfl (by kernel_rfl) ?_)
  refine l_cons (ev_call rfl rfl (f := 8) (args := #[(.slice A l.length c)]) (by kernel_rfl) (catenaryref18_Low_c A c l _ (C_to (Kd.C_below hC hb0) H1)) ?_)
  rintro e w2 ⟨rfl, hb_⟩
  refine ⟨_, rfl, ?_⟩
  have H2 := H1.below hb_
  refine l_cons (ev_run (v := (.slice A l.length c)) (w1 := w2) rfl rfl (by kernel_rfl) ?_)
  refine l_cons (ev_call rfl rfl (f := 10) (args := #[(.slice A l.length c)]) (by kernel_rfl) (catenaryref18_High_c A c l _ (C_to (Kd.C_below hC hb0) H2)) ?_)
  rintro e w3 ⟨rfl, hb_⟩
  refine ⟨_, rfl, ?_⟩
  have H3 := H2.below hb_
  refine l_cons (ev_run (v := (.int .i64 (lowOf l))) (w1 := w3) rfl rfl (by kernel_rfl) ?_)
  refine l_cons (ev_run (v := (.int .i64 (highOf l))) (w1 := w3) rfl rfl (by kernel_rfl) ?_)
  refine l_nil ?_
  refine n_then ?_
  refine wp_seq ?_
  refine wp_seq ?_
  refine k_list ?_
  refine l_cons (ev_run (v := (.int .i64 (lowOf l))) (w1 := w3) rfl rfl (by kernel_rfl) ?_)
  refine l_cons (ev_run (v := (.int .i64 (lowOf l))) (w1 := w3) rfl rfl (by kernel_rfl) ?_)
  refine l_nil ?_
  refine n_then ?_
  refine wp_block ?_
  have H4 := H3.imp 0 rfl (rowR 36 4 (some ⟨g1, 0, none⟩) 0 0 ([] : List (List Value))) (fun h => rowR_blk h ([] : List (List Value)) rfl (by first | rfl | kernel_rfl) (by simp)) (fun k hk => (Option.some.inj hk).symm)
  refine k_loop (σ := Nat × Int × Option Addr × Nat × List (List Value)) (fun x_ => match x_ with | (i, z, Ao, co, ro) => [(0, (.slice A l.length c)), (3, (.slice Ao i co)), (4, (.int .i64 (lowOf l))), (5, (.int .i64 (highOf l))), (6, (.int .i64 z))]) (fun x_ w' => match x_ with | (i, z, Ao, co, ro) => (i ≤ m) ∧ (z = lowOf l + ((i : Nat) : Int)) ∧ (Elts k36 W (picksTo l i) ro) ∧ Hp (fun _ => False) w w' [rowR 36 4 Ao i co ro]) (fun x_ => match x_ with | (i, z, Ao, co, ro) => m - i) (0, lowOf l, (some (⟨g1, 0, none⟩)), 0, []) ⟨(by first | rfl | kernel_rfl), (by first | rfl | kernel_rfl), (by first | rfl | kernel_rfl), (by first | rfl | kernel_rfl), (by first | rfl | kernel_rfl), trivial⟩ ⟨(by omega), (by omega), Elts.nil, H4⟩ ?_
  rintro L1 ⟨i, z, Ao, co, ro⟩ w4 ⟨hi, hz, hE, H5⟩
  change Code.wp _ _ _ (Fr _ _ [(0, (.slice A l.length c)), (3, (.slice Ao i co)), (4, (.int .i64 (lowOf l))), (5, (.int .i64 (highOf l))), (6, (.int .i64 z))]) _
  rcases Nat.lt_or_ge i m with hlt | hge
  · skip
    refine wp_seq ?_
    refine wp_seq ?_
    refine k_list ?_
    refine l_cons (ev_run (v := (.int .i64 z)) (w1 := w4) rfl rfl (by kernel_rfl) ?_)
    refine l_cons (ev_run (v := (.int .i64 (highOf l))) (w1 := w4) rfl rfl (by kernel_rfl) ?_)
    refine l_cons (ev_eq (v := (.bool (decide ((z : Int) < highOf l)))) (v' := (.bool true)) (w1 := w4) rfl rfl (by kernel_rfl) (bt (by first | assumption | omega)) ?_)
    refine l_cons (ev_run (v := (.bool true)) (w1 := w4) rfl rfl (by kernel_rfl) ?_)
    refine l_cons (ev_run (v := (.slice Ao i co)) (w1 := w4) (by kernel_rfl) rfl (by kernel_rfl) ?_)
    refine l_cons (ev_run (v := (.int .i64 (((i : Nat) : Int)))) (w1 := w4) (by kernel_rfl) rfl (by kernel_rfl) ?_)
    refine l_cons (ev_eq (v := (.bool (decide ((((i : Nat) : Int) : Int) < 16)))) (v' := (.bool true)) (w1 := w4) (by kernel_rfl) rfl (by kernel_rfl) (bt (by first | assumption | omega)) ?_)
    refine l_cons (ev_run (v := (.bool true)) (w1 := w4) rfl rfl (by kernel_rfl) ?_)
    refine l_nil ?_
    refine n_then ?_
    refine k_true (by kernel_rfl) ?_
    refine wp_skip ?_
    refine n_then ?_
    refine wp_seq ?_
    refine wp_block ?_
    refine k_list ?_
    refine l_cons (ev_run (v := (.slice Ao i co)) (w1 := w4) rfl rfl (by kernel_rfl) ?_)
    refine l_cons (ev_run (v := (.int .i64 z)) (w1 := w4) rfl rfl (by kernel_rfl) ?_)
    refine l_cons (ev_eq (v := (.int .i64 (IntKind.i64.wrap (z + 1)))) (v' := (.int .i64 ((lowOf l + 1 + ((i : Nat) : Int))))) (w1 := w4) rfl rfl (by kernel_rfl) ((wr64 (by omega) (by omega)).trans (by congr 1; omega)) ?_)
    refine l_cons (ev_run (v := (.slice A l.length c)) (w1 := w4) rfl rfl (by kernel_rfl) ?_)
    refine l_cons (ev_call rfl rfl (f := 13) (args := #[(.int .i64 ((lowOf l + 1 + ((i : Nat) : Int)))), (.slice A l.length c)]) (by kernel_rfl) (rpick_c _ A c l W _ hC (below_step hb0 H5.to_below) hS) ?_)
    rintro e w5 ⟨Aq2, cq2, Aq3, cq3, rfl, hrq, hb_⟩
    refine ⟨_, rfl, ?_⟩
    have H6 := H5.below hb_
    refine l_cons (ev_newRow (cs := [(.int .i64 ((pickOf (lowOf l + 1 + ((i : Nat) : Int)) l).f0)), (.int .i64 ((pickOf (lowOf l + 1 + ((i : Nat) : Int)) l).f1)), (.slice Aq2 ((pickOf (lowOf l + 1 + ((i : Nat) : Int)) l).f2.length) cq2), (.slice Aq3 ((pickOf (lowOf l + 1 + ((i : Nat) : Int)) l).f3.length) cq3)]) (t := 36) (len := 1) rfl rfl H6 (by kernel_rfl) ?_)
    intro g2 w6 H7 hg2 hbw6
    refine l_cons (ev_append (e := 36) (sz := 4) (z := (.agg #[(.int .i64 0), (.int .i64 0), (.slice none 0 0), (.slice none 0 0)])) (bytes := 64) 1 (A := Ao) (m0 := i) (c := co) (rows := ro) ([[(.int .i64 ((pickOf (lowOf l + 1 + ((i : Nat) : Int)) l).f0)), (.int .i64 ((pickOf (lowOf l + 1 + ((i : Nat) : Int)) l).f1)), (.slice Aq2 ((pickOf (lowOf l + 1 + ((i : Nat) : Int)) l).f2.length) cq2), (.slice Aq3 ((pickOf (lowOf l + 1 + ((i : Nat) : Int)) l).f3.length) cq3)]] : List (List Value)) (some (⟨g2, 0, none⟩)) 1 1 rfl rfl rfl Try.underlying39 (by kernel_rfl) rfl rfl rfl H7 rfl (by kernel_rfl) (by kernel_rfl) (by first | rfl | (simp; done) | assumption | omega) (fun j row hj => read_blk (H7.get 0 rfl) ([[(.int .i64 ((pickOf (lowOf l + 1 + ((i : Nat) : Int)) l).f0)), (.int .i64 ((pickOf (lowOf l + 1 + ((i : Nat) : Int)) l).f1)), (.slice Aq2 ((pickOf (lowOf l + 1 + ((i : Nat) : Int)) l).f2.length) cq2), (.slice Aq3 ((pickOf (lowOf l + 1 + ((i : Nat) : Int)) l).f3.length) cq3)]] : List (List Value)) rfl (by first | rfl | kernel_rfl) j row hj) (by first | omega | (simp; omega)) (i + 1) (by first | rfl | omega) ?_)
    intro Aa1 cc1 w7 H8 hcw7
    refine l_cons (ev_run (v := (.slice Aa1 ((i + 1)) cc1)) (w1 := w7) rfl rfl (by kernel_rfl) ?_)
    refine l_nil ?_
    refine n_in ?_
    refine n_then ?_
    refine k_list ?_
    refine l_cons (ev_run (v := (.int .i64 z)) (w1 := w7) rfl rfl (by kernel_rfl) ?_)
    refine l_cons (ev_eq (v := (.int .i64 (IntKind.i64.wrap (z + 1)))) (v' := (.int .i64 ((z + 1)))) (w1 := w7) rfl rfl (by kernel_rfl) (wr64 (by omega) (by omega)) ?_)
    refine l_cons (ev_run (v := (.int .i64 ((z + 1)))) (w1 := w7) rfl rfl (by kernel_rfl) ?_)
    refine l_nil ?_
    refine n_then ?_
    exact k_round (i + 1, (z + 1), Aa1, cc1, ro ++ ([[(.int .i64 ((pickOf (lowOf l + 1 + ((i : Nat) : Int)) l).f0)), (.int .i64 ((pickOf (lowOf l + 1 + ((i : Nat) : Int)) l).f1)), (.slice Aq2 ((pickOf (lowOf l + 1 + ((i : Nat) : Int)) l).f2.length) cq2), (.slice Aq3 ((pickOf (lowOf l + 1 + ((i : Nat) : Int)) l).f3.length) cq3)]] : List (List Value))) ⟨(by first | rfl | kernel_rfl), (by first | rfl | kernel_rfl), (by first | rfl | kernel_rfl), (by first | rfl | kernel_rfl), (by first | rfl | kernel_rfl), trivial⟩ ⟨(by omega), (by omega), (by rw [picksTo_succ]; exact hE.snoc _ _ (k36_mk W _ hrq.1 hrq.2.1 hrq.2.2.1 hrq.2.2.2)), H8.sel [1] (by decide)⟩ (by first | omega | (simp; omega))
  · skip
    refine wp_seq ?_
    refine wp_seq ?_
    refine k_list ?_
    refine l_cons (ev_run (v := (.int .i64 z)) (w1 := w4) rfl rfl (by kernel_rfl) ?_)
    refine l_cons (ev_run (v := (.int .i64 (highOf l))) (w1 := w4) rfl rfl (by kernel_rfl) ?_)
    by_cases hc1 : (z : Int) < highOf l
    · skip
      refine l_cons (ev_eq (v := (.bool (decide ((z : Int) < highOf l)))) (v' := (.bool true)) (w1 := w4) rfl rfl (by kernel_rfl) (bt (by first | assumption | omega)) ?_)
      refine l_cons (ev_run (v := (.bool true)) (w1 := w4) rfl rfl (by kernel_rfl) ?_)
      refine l_cons (ev_run (v := (.slice Ao i co)) (w1 := w4) (by kernel_rfl) rfl (by kernel_rfl) ?_)
      refine l_cons (ev_run (v := (.int .i64 (((i : Nat) : Int)))) (w1 := w4) (by kernel_rfl) rfl (by kernel_rfl) ?_)
      refine l_cons (ev_eq (v := (.bool (decide ((((i : Nat) : Int) : Int) < 16)))) (v' := (.bool false)) (w1 := w4) (by kernel_rfl) rfl (by kernel_rfl) (bf (by first | assumption | omega)) ?_)
      refine l_cons (ev_run (v := (.bool false)) (w1 := w4) rfl rfl (by kernel_rfl) ?_)
      refine l_nil ?_
      refine n_then ?_
      refine k_false (by kernel_rfl) ?_
      refine wp_exit ?_
      refine e_then ?_
      refine e_then ?_
      refine e_in ?_
      refine n_then ?_
      refine wp_seq ?_
      refine k_list ?_
      refine l_cons (ev_run (v := (.slice Ao i co)) (w1 := w4) rfl rfl (by kernel_rfl) ?_)
      refine l_cons (ev_run (v := (.slice Ao i co)) (w1 := w4) rfl rfl (by kernel_rfl) ?_)
      refine l_nil ?_
      refine n_then ?_
      refine wp_ret ?_
      refine b_ret (v := (.slice Ao i co)) (resS rfl (.tmp (by kernel_rfl) .nil)) ?_
      have hpl : picksTo l i = picksOf l := by rw [picksOf, ← hme, show i = m by omega]
      have hpn : (picksOf l).length = i := by rw [← hpl, picksTo_length]
      rw [hpl] at hE
      rw [hpn]
      exact ⟨_, _, _, rfl, hE, H5⟩
    · skip
      refine l_cons (ev_eq (v := (.bool (decide ((z : Int) < highOf l)))) (v' := (.bool false)) (w1 := w4) rfl rfl (by kernel_rfl) (bf (by first | assumption | omega)) ?_)
      refine l_cons (ev_run (v := (.bool false)) (w1 := w4) rfl rfl (by kernel_rfl) ?_)
      refine l_cons (ev_skip (by kernel_rfl) rfl ?_)
      refine l_cons (ev_skip (by kernel_rfl) rfl ?_)
      refine l_cons (ev_skip (by kernel_rfl) rfl ?_)
      refine l_cons (ev_run (v := (.bool false)) (w1 := w4) rfl rfl (by kernel_rfl) ?_)
      refine l_nil ?_
      refine n_then ?_
      refine k_false (by kernel_rfl) ?_
      refine wp_exit ?_
      refine e_then ?_
      refine e_then ?_
      refine e_in ?_
      refine n_then ?_
      refine wp_seq ?_
      refine k_list ?_
      refine l_cons (ev_run (v := (.slice Ao i co)) (w1 := w4) rfl rfl (by kernel_rfl) ?_)
      refine l_cons (ev_run (v := (.slice Ao i co)) (w1 := w4) rfl rfl (by kernel_rfl) ?_)
      refine l_nil ?_
      refine n_then ?_
      refine wp_ret ?_
      refine b_ret (v := (.slice Ao i co)) (resS rfl (.tmp (by kernel_rfl) .nil)) ?_
      have hpl : picksTo l i = picksOf l := by rw [picksOf, ← hme, show i = m by omega]
      have hpn : (picksOf l).length = i := by rw [← hpl, picksTo_length]
      rw [hpl] at hE
      rw [hpn]
      exact ⟨_, _, _, rfl, hE, H5⟩
end Go.Proofs.Ytpnelfefchdhcaa
