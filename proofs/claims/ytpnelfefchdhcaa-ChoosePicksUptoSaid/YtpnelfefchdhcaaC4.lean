/- choose.Picks: the requests, each with its bytes as memory of its own that may be written. -/
import Derived.Test.YtpnelfefchdhcaaC3
namespace Go.Proofs.Ytpnelfefchdhcaa
open Go.RowKit Go.Proofs.YtpnelfefchdhcaaW.PrintWords Go.Proofs.YtpnelfefchdhcaaW.PrintLast Go.Proofs.YtpnelfefchdhcaaW.PrintMore
open Go.Proofs.Ytpnelfefchdhcaa.PChoosePicks
set_option linter.unusedVariables false
set_option linter.unusedSimpArgs false
set_option maxRecDepth 100000

/-- A request and where its bytes lie. -/
structure Rq where
  x : S36
  A2 : Option Addr
  c2 : Nat
  A3 : Option Addr
  c3 : Nat
def rqc (e : Rq) : List Value := [.int .i64 e.x.f0, .int .i64 e.x.f1, .slice e.A2 e.x.f2.length e.c2, .slice e.A3 e.x.f3.length e.c3]
def rqs (e : Rq) : List Res := [byR e.A2 e.x.f2.length e.c2 e.x.f2, byR e.A3 e.x.f3.length e.c3 e.x.f3]
theorem star_snoc {S0 : Nat → Prop} {W0 w : World} {x : S36} {A2 A3 A : Option Addr} {c2 c3 n c : Nat} {es : List Rq} (H : Hp S0 W0 w [byR A2 x.f2.length c2 x.f2, byR A3 x.f3.length c3 x.f3, starR (es.flatMap rqs), rowR 36 4 A n c (es.map rqc ++ [[.int .i64 x.f0, .int .i64 x.f1, .slice A2 x.f2.length c2, .slice A3 x.f3.length c3]])]) :
    Hp S0 W0 w [rowR 36 4 A n c ((es ++ [(⟨x, A2, c2, A3, c3⟩ : Rq)]).map rqc), starR ((es ++ [(⟨x, A2, c2, A3, c3⟩ : Rq)]).flatMap rqs)] := by
  have h1 := Hp.star_in (H.sel [0, 2, 1, 3] (by decide))
  have h2 := Hp.star_in (h1.sel [1, 0, 2] (by decide))
  have h3 := h2.sel [1, 0] (by decide)
  rw [List.map_append, List.flatMap_append, show (es.flatMap rqs ++ [(⟨x, A2, c2, A3, c3⟩ : Rq)].flatMap rqs) = es.flatMap rqs ++ [byR A2 x.f2.length c2 x.f2] ++ [byR A3 x.f3.length c3 x.f3] by simp [rqs]]
  exact h3
set_option maxHeartbeats 1000000 in
theorem picks2_c (A : Option Addr) (c : Nat) (l : List S30) (w : World) (hC : Kd.C k30 w A l.length l) (hwf : LWf l) :
    Calls Try.prog 14 #[.slice A l.length c] w fun e w' => ∃ (A' : Option Addr) (c' : Nat) (es : List Rq), es.map Rq.x = picksOf l ∧ e = .returned (.slice A' es.length c') ∧ Hp (fun _ => False) w w' [rowR 36 4 A' es.length c' (es.map rqc), starR (es.flatMap rqs)] := by
  have H := Hp.start (fun _ => False) w
  have hlen := C_len hC
  have h0 := low_ge l
  have h1 := high_ge l
  have h2 := high_le hwf
  have hm : min (highOf l - lowOf l) 16 = ((cntOf l : Nat) : Int) := by unfold cntOf; omega
  obtain ⟨m, hme⟩ : ∃ m, m = cntOf l := ⟨_, rfl⟩
  rw [← hme] at hm
  refine k_enter (args := [(.slice A l.length c)]) Try.func14 rfl Try.ntmps14 (Nat.le_of_ble_eq_true rfl) ?_
  refine wp_seq ?_
  refine k_list ?_
  refine l_cons (ev_run (v := (.slice none 0 0)) (w1 := w) rfl rfl (by kernel_rfl) ?_)
  refine l_nil ?_
  refine n_then ?_
  refine wp_seq ?_
  refine k_list ?_
  refine l_cons (ev_run (v := (.slice none 0 0)) (w1 := w) rfl rfl (by kernel_rfl) ?_)
  refine l_nil ?_
  refine n_then ?_
  refine wp_seq ?_
  refine k_list ?_
  refine l_cons (ev_run (v := (.slice A l.length c)) (w1 := w) rfl rfl (by kernel_rfl) ?_)
  refine l_cons (ev_call rfl rfl (f := 7) (args := #[(.slice A l.length c)]) (by kernel_rfl) (choose_Low_c A c l _ (C_to hC H)) ?_)
  rintro e w1 ⟨rfl, hb_⟩
  refine ⟨_, rfl, ?_⟩
  have H1 := H.below hb_
  refine l_cons (ev_run (v := (.int .i64 (lowOf l))) (w1 := w1) rfl rfl (by kernel_rfl) ?_)
  refine l_nil ?_
  refine n_then ?_
  refine wp_seq ?_
  refine wp_seq ?_
  refine k_list ?_
  refine l_cons (ev_run (v := (.slice A l.length c)) (w1 := w1) rfl rfl (by kernel_rfl) ?_)
  refine l_cons (ev_call rfl rfl (f := 9) (args := #[(.slice A l.length c)]) (by kernel_rfl) (choose_High_c A c l _ (C_to hC H1)) ?_)
  rintro e w2 ⟨rfl, hb_⟩
  refine ⟨_, rfl, ?_⟩
  have H2 := H1.below hb_
  refine l_cons (ev_run (v := (.int .i64 (lowOf l))) (w1 := w2) rfl rfl (by kernel_rfl) ?_)
  refine l_cons (ev_eq (v := (.int .i64 (IntKind.i64.wrap (highOf l - lowOf l)))) (v' := (.int .i64 ((highOf l - lowOf l)))) (w1 := w2) rfl rfl (by kernel_rfl) (wr64 (by omega) (by omega)) ?_)
  refine l_cons (ev_eq (v := (.int .i64 (if (16 : Int) < (highOf l - lowOf l) then 16 else (highOf l - lowOf l)))) (v' := (.int .i64 (((m : Nat) : Int)))) (w1 := w2) rfl rfl (by kernel_rfl) (by rw [vmin]; exact congrArg _ hm) ?_)
  refine l_cons (ev_run (v := (.int .i64 0)) (w1 := w2) rfl rfl (by kernel_rfl) ?_)
  refine l_nil ?_
  refine n_then ?_
  refine wp_block ?_
  have H3 := H2.star_nil
  have H4 := H3.addE (rowR 36 4 none 0 0 []) (rowR_nil _ _ _) (fun k hk => by cases hk)
  refine k_loop (σ := Nat × Option Addr × Nat × List Rq) (fun x_ => match x_ with | (i, A', c', es) => [(0, (.slice A l.length c)), (4, (.int .i64 (lowOf l))), (12, (.int .i64 (((m : Nat) : Int)))), (13, (.int .i64 (((i : Nat) : Int)))), (3, (.slice A' i (c')))]) (fun x_ w' => match x_ with | (i, A', c', es) => (i ≤ m) ∧ (es.map Rq.x = picksTo l i) ∧ Hp (fun _ => False) w w' [rowR 36 4 A' i (c') (es.map rqc), starR (es.flatMap rqs)]) (fun x_ => match x_ with | (i, A', c', es) => m - i) (0, none, 0, []) ⟨(by first | rfl | kernel_rfl), (by first | rfl | kernel_rfl), (by first | rfl | kernel_rfl), (by first | rfl | kernel_rfl), (by first | rfl | kernel_rfl), trivial⟩ ⟨(by omega), rfl, H4⟩ ?_
  rintro L1 ⟨i, A', c', es⟩ w3 ⟨hi, hes, H5⟩
  change Code.wp _ _ _ (Fr _ _ [(0, (.slice A l.length c)), (4, (.int .i64 (lowOf l))), (12, (.int .i64 (((m : Nat) : Int)))), (13, (.int .i64 (((i : Nat) : Int)))), (3, (.slice A' i (c')))]) _
  rcases Nat.lt_or_ge i m with hlt | hge
  · skip
    refine wp_seq ?_
    refine k_list ?_
    refine l_cons (ev_eq (v := (.bool (decide ((((i : Nat) : Int) : Int) < ((m : Nat) : Int))))) (v' := (.bool true)) (w1 := w3) rfl rfl (by kernel_rfl) (bt (by first | assumption | omega)) ?_)
    refine l_nil ?_
    refine n_then ?_
    refine wp_seq ?_
    refine k_true (by kernel_rfl) ?_
    refine wp_skip ?_
    refine n_then ?_
    refine wp_seq ?_
    refine wp_block ?_
    refine wp_seq ?_
    refine k_list ?_
    refine l_cons (ev_run (v := (.int .i64 (((i : Nat) : Int)))) (w1 := w3) rfl rfl (by kernel_rfl) ?_)
    refine l_cons (ev_run (v := (.int .i64 (((i : Nat) : Int)))) (w1 := w3) rfl rfl (by kernel_rfl) ?_)
    refine l_nil ?_
    refine n_then ?_
    refine k_list ?_
    refine l_cons (ev_run (v := (.slice A' i (c'))) (w1 := w3) rfl rfl (by kernel_rfl) ?_)
    refine l_cons (ev_run (v := (.int .i64 (lowOf l))) (w1 := w3) rfl rfl (by kernel_rfl) ?_)
    refine l_cons (ev_eq (v := (.int .i64 (IntKind.i64.wrap (lowOf l + 1)))) (v' := (.int .i64 ((lowOf l + 1)))) (w1 := w3) rfl rfl (by kernel_rfl) (wr64 (by omega) (by omega)) ?_)
    refine l_cons (ev_run (v := (.int .i64 (((i : Nat) : Int)))) (w1 := w3) rfl rfl (by kernel_rfl) ?_)
    refine l_cons (ev_eq (v := (.int .i64 (IntKind.i64.wrap ((lowOf l + 1) + ((i : Nat) : Int))))) (v' := (.int .i64 (((lowOf l + 1) + ((i : Nat) : Int))))) (w1 := w3) rfl rfl (by kernel_rfl) (wr64 (by omega) (by omega)) ?_)
    refine l_cons (ev_run (v := (.slice A l.length c)) (w1 := w3) rfl rfl (by kernel_rfl) ?_)
    refine l_cons (ev_call rfl rfl (f := 12) (args := #[(.int .i64 (((lowOf l + 1) + ((i : Nat) : Int)))), (.slice A l.length c)]) (by kernel_rfl) (pick_c (((lowOf l + 1) + ((i : Nat) : Int))) A c l _ (C_to hC H5) hwf.ok) ?_)
    rintro e w4 ⟨Ap2q1, cp2q1, Ap3q1, cp3q1, rfl, hH_⟩
    refine ⟨_, rfl, ?_⟩
    have H6 := H5.join hH_
    have hb_ := hH_.to_below
    refine l_cons (ev_newRow (cs := [(.int .i64 ((pickOf (((lowOf l + 1) + ((i : Nat) : Int))) l).f0)), (.int .i64 ((pickOf (((lowOf l + 1) + ((i : Nat) : Int))) l).f1)), (.slice Ap2q1 ((pickOf (((lowOf l + 1) + ((i : Nat) : Int))) l).f2.length) cp2q1), (.slice Ap3q1 ((pickOf (((lowOf l + 1) + ((i : Nat) : Int))) l).f3.length) cp3q1)]) (t := 36) (len := 1) rfl rfl H6 (by kernel_rfl) ?_)
    intro g1 w5 H7 hg1 hbw5
    refine l_cons (ev_append (e := 36) (sz := 4) (z := (.agg #[(.int .i64 0), (.int .i64 0), (.slice none 0 0), (.slice none 0 0)])) (bytes := 64) 3 (A := A') (m0 := i) (c := (c')) (rows := (es.map rqc)) ([[(.int .i64 ((pickOf (((lowOf l + 1) + ((i : Nat) : Int))) l).f0)), (.int .i64 ((pickOf (((lowOf l + 1) + ((i : Nat) : Int))) l).f1)), (.slice Ap2q1 ((pickOf (((lowOf l + 1) + ((i : Nat) : Int))) l).f2.length) cp2q1), (.slice Ap3q1 ((pickOf (((lowOf l + 1) + ((i : Nat) : Int))) l).f3.length) cp3q1)]] : List (List Value)) (some (⟨g1, 0, none⟩)) 1 1 rfl rfl rfl Try.underlying39 (by kernel_rfl) rfl rfl rfl H7 rfl (by kernel_rfl) (by kernel_rfl) (by first | rfl | (simp; done) | assumption | omega) (fun j row hj => read_blk (H7.get 0 rfl) ([[(.int .i64 ((pickOf (((lowOf l + 1) + ((i : Nat) : Int))) l).f0)), (.int .i64 ((pickOf (((lowOf l + 1) + ((i : Nat) : Int))) l).f1)), (.slice Ap2q1 ((pickOf (((lowOf l + 1) + ((i : Nat) : Int))) l).f2.length) cp2q1), (.slice Ap3q1 ((pickOf (((lowOf l + 1) + ((i : Nat) : Int))) l).f3.length) cp3q1)]] : List (List Value)) rfl (by first | rfl | kernel_rfl) j row hj) (by first | omega | (simp; omega)) (i + 1) (by first | rfl | omega) ?_)
    intro Aa1 cc1 w6 H8 hcw6
    refine l_cons (ev_run (v := (.slice Aa1 ((i + 1)) cc1)) (w1 := w6) rfl rfl (by kernel_rfl) ?_)
    refine l_nil ?_
    refine n_in ?_
    refine n_then ?_
    refine k_list ?_
    refine l_cons (ev_eq (v := (.int .i64 (IntKind.i64.wrap (((i : Nat) : Int) + 1)))) (v' := (.int .i64 ((((i : Nat) : Int) + 1)))) (w1 := w6) rfl rfl (by kernel_rfl) (wr64 (by omega) (by omega)) ?_)
    refine l_cons (ev_run (v := (.int .i64 ((((i : Nat) : Int) + 1)))) (w1 := w6) rfl rfl (by kernel_rfl) ?_)
    refine l_nil ?_
    refine n_then ?_
    have H9 := star_snoc (x := pickOf ((lowOf l + 1) + ((i : Nat) : Int)) l) (H8.sel [1, 2, 4, 3] (by decide))
    exact k_round (i + 1, Aa1, cc1, es ++ [(⟨pickOf ((lowOf l + 1) + ((i : Nat) : Int)) l, Ap2q1, cp2q1, Ap3q1, cp3q1⟩ : Rq)]) ⟨(by first | rfl | kernel_rfl), (by first | rfl | kernel_rfl), (by first | rfl | kernel_rfl), (by first | rfl | kernel_rfl), (by first | rfl | kernel_rfl), trivial⟩ ⟨(by omega), (by rw [List.map_append, hes, picksTo_succ]; rfl), H9⟩ (by first | omega | (simp; omega))
  · skip
    refine wp_seq ?_
    refine k_list ?_
    refine l_cons (ev_eq (v := (.bool (decide ((((i : Nat) : Int) : Int) < ((m : Nat) : Int))))) (v' := (.bool false)) (w1 := w3) rfl rfl (by kernel_rfl) (bf (by first | assumption | omega)) ?_)
    refine l_nil ?_
    refine n_then ?_
    refine wp_seq ?_
    refine k_false (by kernel_rfl) ?_
    refine wp_exit ?_
    refine e_then ?_
    refine e_then ?_
    refine e_in ?_
    refine n_then ?_
    refine wp_seq ?_
    refine k_list ?_
    refine l_cons (ev_run (v := (.slice A' i (c'))) (w1 := w3) rfl rfl (by kernel_rfl) ?_)
    refine l_cons (ev_run (v := (.slice A' i (c'))) (w1 := w3) rfl rfl (by kernel_rfl) ?_)
    refine l_nil ?_
    refine n_then ?_
    refine wp_ret ?_
    refine b_ret (v := (.slice A' i (c'))) (resS rfl (.tmp (by kernel_rfl) .nil)) ?_
    have hpl : picksTo l i = picksOf l := by rw [picksOf, ← hme, show i = m by omega]
    have hel : i = es.length := by have h := congrArg List.length hes; rw [List.length_map, picksTo_length] at h; exact h.symm
    rw [hpl] at hes
    rw [hel] at H5
    rw [hel]
    exact ⟨_, _, es, hes, rfl, H5⟩
end Go.Proofs.Ytpnelfefchdhcaa
