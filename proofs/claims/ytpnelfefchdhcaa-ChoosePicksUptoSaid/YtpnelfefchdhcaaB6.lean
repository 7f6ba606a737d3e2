/- choose.Picks: the requests that a new ballot goes on with, each in memory of its own. -/
import Derived.Test.YtpnelfefchdhcaaB4
import Derived.Test.YtpnelfefchdhcaaB5
namespace Go.Proofs.Ytpnelfefchdhcaa
open Go.RowKit Go.Proofs.YtpnelfefchdhcaaW.PrintWords Go.Proofs.YtpnelfefchdhcaaW.PrintLast Go.Proofs.YtpnelfefchdhcaaW.PrintMore
open Go.Proofs.Ytpnelfefchdhcaa.PChoosePicks
set_option linter.unusedVariables false
set_option linter.unusedSimpArgs false
set_option maxRecDepth 100000

theorem foldl_max_ge {α : Type} (f : α → Int) (l : List α) (b : Int) : b ≤ l.foldl (fun b r => max b (f r)) b := by
  induction l generalizing b with
  | nil => exact Int.le_refl _
  | cons x l ih => rw [List.foldl_cons]; exact Int.le_trans (by omega) (ih _)
theorem foldl_max_le {α : Type} (f : α → Int) (l : List α) (b m : Int) (hb : b ≤ m) (h : ∀ x ∈ l, f x ≤ m) : l.foldl (fun b r => max b (f r)) b ≤ m := by
  induction l generalizing b with
  | nil => exact hb
  | cons x l ih => rw [List.foldl_cons]; exact ih _ (by have := h x (by simp); omega) (fun y hy => h y (by simp [hy]))
theorem low_ge (l : List S30) : 0 ≤ lowOf l := foldl_max_ge _ _ _
theorem high_ge (l : List S30) : lowOf l ≤ highOf l := by
  unfold highOf
  generalize lowOf l = b
  induction l generalizing b with
  | nil => exact Int.le_refl _
  | cons x l ih => rw [List.foldl_cons]; exact Int.le_trans (foldl_max_ge _ _ _) (ih _)
/-- What is known of reports that came in: their ints, the lengths of what will be copied. -/
structure LWf (l : List S30) : Prop where
  low : ∀ r ∈ l, r.f2 ≤ 9223372036854775807
  slot : ∀ r ∈ l, ∀ p ∈ r.f5, p.f0 ≤ 9223372036854775807
  ok : LOk l
theorem high_le {l : List S30} (h : LWf l) : highOf l ≤ 9223372036854775807 := by
  have h0 : lowOf l ≤ 9223372036854775807 := foldl_max_le _ _ _ _ (by omega) h.low
  unfold highOf
  have key : ∀ (m : List S30) (b : Int), (∀ r ∈ m, r ∈ l) → b ≤ 9223372036854775807 → m.foldl (fun b r => r.f5.foldl (fun b p => max b p.f0) b) b ≤ 9223372036854775807 := by
    intro m
    induction m with
    | nil => intro b _ hb; exact hb
    | cons x m ih =>
      intro b hm hb
      rw [List.foldl_cons]
      exact ih _ (fun r hr => hm r (by simp [hr])) (foldl_max_le _ _ _ _ hb (h.slot x (hm x (by simp))))
  exact key l _ (fun _ hr => hr) h0
def cntOf (l : List S30) : Nat := (min (highOf l - lowOf l) 16).toNat
def picksTo (l : List S30) (i : Nat) : List S36 := (List.range i).map fun (q : Nat) => pickOf (lowOf l + 1 + (q : Int)) l
def picksOf (l : List S30) : List S36 := picksTo l (cntOf l)
theorem picksTo_length (l : List S30) (i : Nat) : (picksTo l i).length = i := by simp [picksTo]
theorem picksTo_succ (l : List S30) (i : Nat) : picksTo l (i + 1) = picksTo l i ++ [pickOf (lowOf l + 1 + (i : Int)) l] := by simp [picksTo, List.range_succ]
set_option maxHeartbeats 1000000 in
theorem picks_c (A : Option Addr) (c : Nat) (l : List S30) (w : World) (hC : Kd.C k30 w A l.length l) (hwf : LWf l) :
    Calls Try.prog 14 #[.slice A l.length c] w fun e w' => ∃ A' c' rows F, e = .returned (.slice A' (picksOf l).length c') ∧ Hp (fun _ => False) w w' [rowR 36 4 A' (picksOf l).length c' rows, elR k36 0 F (picksOf l) rows] := by
  have H := Hp.start (fun _ => False) w
  have hlen := C_len hC
  have h0 := low_ge l
  have h1 := high_ge l
  have h2 := high_le hwf
  have hm : min (highOf l - lowOf l) 16 = ((cntOf l : Nat) : Int) := by unfold cntOf; omega
  obtain ⟨m, hme⟩ : ∃ m, m = cntOf l := ⟨_, rfl⟩
  rw [← hme] at hm
  refine k_enter (args := [(.slice A l.length c)]) Try.func14 rfl Try.ntmps14 (Nat.le_of_ble_eq_true rfl) ?_
  refine wp_seq ?_
  refine k_list ?_
  refine l_cons (ev_run (v := (.slice none 0 0)) (w1 := w) rfl rfl (by kernel_rfl) ?_)
  refine l_nil ?_
  refine n_then ?_
  refine wp_seq ?_
  refine k_list ?_
  refine l_cons (ev_run (v := (.slice none 0 0)) (w1 := w) rfl rfl (by kernel_rfl) ?_)
  refine l_nil ?_
  refine n_then ?_
  refine wp_seq ?_
  refine k_list ?_
  refine l_cons (ev_run (v := (.slice A l.length c)) (w1 := w) rfl rfl (by kernel_rfl) ?_)
  refine l_cons (ev_call rfl rfl (f := 7) (args := #[(.slice A l.length c)]) (by kernel_rfl) (choose_Low_c A c l _ (C_to hC H)) ?_)
  rintro e w1 ⟨rfl, hb_⟩
  refine ⟨_, rfl, ?_⟩
  have H1 := H.below hb_
  refine l_cons (ev_run (v := (.int .i64 (lowOf l))) (w1 := w1) rfl rfl (by kernel_rfl) ?_)
  refine l_nil ?_
  refine n_then ?_
  refine wp_seq ?_
  refine wp_seq ?_
  refine k_list ?_
  refine l_cons (ev_run (v := (.slice A l.length c)) (w1 := w1) rfl rfl (by kernel_rfl) ?_)
  refine l_cons (ev_call rfl rfl (f := 9) (args := #[(.slice A l.length c)]) (by kernel_rfl) (choose_High_c A c l _ (C_to hC H1)) ?_)
  rintro e w2 ⟨rfl, hb_⟩
  refine ⟨_, rfl, ?_⟩
  have H2 := H1.below hb_
  refine l_cons (ev_run (v := (.int .i64 (lowOf l))) (w1 := w2) rfl rfl (by kernel_rfl) ?_)
  refine l_cons (ev_eq (v := (.int .i64 (IntKind.i64.wrap (highOf l - lowOf l)))) (v' := (.int .i64 ((highOf l - lowOf l)))) (w1 := w2) rfl rfl (by kernel_rfl) (wr64 (by omega) (by omega)) ?_)
  refine l_cons (ev_eq (v := (.int .i64 (if (16 : Int) < (highOf l - lowOf l) then 16 else (highOf l - lowOf l)))) (v' := (.int .i64 (((m : Nat) : Int)))) (w1 := w2) rfl rfl (by kernel_rfl) (by rw [vmin]; exact congrArg _ hm) ?_)
  refine l_cons (ev_run (v := (.int .i64 0)) (w1 := w2) rfl rfl (by kernel_rfl) ?_)
  refine l_nil ?_
  refine n_then ?_
  refine wp_block ?_
  have H3 := H2.addE (elR k36 0 (fun _ => False) [] []) (elR_nil _ _ _) (fun k hk => hk)
  have H4 := H3.addE (rowR 36 4 none 0 0 []) (rowR_nil _ _ _) (fun k hk => by cases hk)
  refine k_loop (σ := Nat × Option Addr × Nat × List (List Value) × (Nat → Prop)) (fun x_ => match x_ with | (i, A', c', rows, F) => [(0, (.slice A l.length c)), (4, (.int .i64 (lowOf l))), (12, (.int .i64 (((m : Nat) : Int)))), (13, (.int .i64 (((i : Nat) : Int)))), (3, (.slice A' i (c')))]) (fun x_ w' => match x_ with | (i, A', c', rows, F) => (i ≤ m) ∧ Hp (fun _ => False) w w' [rowR 36 4 A' i (c') rows, elR k36 0 F (picksTo l i) rows]) (fun x_ => match x_ with | (i, A', c', rows, F) => m - i) (0, none, 0, [], (fun _ => False)) ⟨(by first | rfl | kernel_rfl), (by first | rfl | kernel_rfl), (by first | rfl | kernel_rfl), (by first | rfl | kernel_rfl), (by first | rfl | kernel_rfl), trivial⟩ ⟨(by omega), H4⟩ ?_
  rintro L1 ⟨i, A', c', rows, F⟩ w3 ⟨hi, H5⟩
  change Code.wp _ _ _ (Fr _ _ [(0, (.slice A l.length c)), (4, (.int .i64 (lowOf l))), (12, (.int .i64 (((m : Nat) : Int)))), (13, (.int .i64 (((i : Nat) : Int)))), (3, (.slice A' i (c')))]) _
  rcases Nat.lt_or_ge i m with hlt | hge
  · skip
    refine wp_seq ?_
    refine k_list ?_
    refine l_cons (ev_eq (v := (.bool (decide ((((i : Nat) : Int) : Int) < ((m : Nat) : Int))))) (v' := (.bool true)) (w1 := w3) rfl rfl (by kernel_rfl) (bt (by first | assumption | omega)) ?_)
    refine l_nil ?_
    refine n_then ?_
    refine wp_seq ?_
    refine k_true (by kernel_rfl) ?_
    refine wp_skip ?_
    refine n_then ?_
    refine wp_seq ?_
    refine wp_block ?_
    refine wp_seq ?_
    refine k_list ?_
    refine l_cons (ev_run (v := (.int .i64 (((i : Nat) : Int)))) (w1 := w3) rfl rfl (by kernel_rfl) ?_)
    refine l_cons (ev_run (v := (.int .i64 (((i : Nat) : Int)))) (w1 := w3) rfl rfl (by kernel_rfl) ?_)
    refine l_nil ?_
    refine n_then ?_
    refine k_list ?_
    refine l_cons (ev_run (v := (.slice A' i (c'))) (w1 := w3) rfl rfl (by kernel_rfl) ?_)
    refine l_cons (ev_run (v := (.int .i64 (lowOf l))) (w1 := w3) rfl rfl (by kernel_rfl) ?_)
    refine l_cons (ev_eq (v := (.int .i64 (IntKind.i64.wrap (lowOf l + 1)))) (v' := (.int .i64 ((lowOf l + 1)))) (w1 := w3) rfl rfl (by kernel_rfl) (wr64 (by omega) (by omega)) ?_)
    refine l_cons (ev_run (v := (.int .i64 (((i : Nat) : Int)))) (w1 := w3) rfl rfl (by kernel_rfl) ?_)
    refine l_cons (ev_eq (v := (.int .i64 (IntKind.i64.wrap ((lowOf l + 1) + ((i : Nat) : Int))))) (v' := (.int .i64 (((lowOf l + 1) + ((i : Nat) : Int))))) (w1 := w3) rfl rfl (by kernel_rfl) (wr64 (by omega) (by omega)) ?_)
    refine l_cons (ev_run (v := (.slice A l.length c)) (w1 := w3) rfl rfl (by kernel_rfl) ?_)
    refine l_cons (ev_call rfl rfl (f := 12) (args := #[(.int .i64 (((lowOf l + 1) + ((i : Nat) : Int)))), (.slice A l.length c)]) (by kernel_rfl) (pick_c (((lowOf l + 1) + ((i : Nat) : Int))) A c l _ (C_to hC H5) hwf.ok) ?_)
    rintro e w4 ⟨Ap2q1, cp2q1, Ap3q1, cp3q1, rfl, hH_⟩
    refine ⟨_, rfl, ?_⟩
    have H6 := H5.join hH_
    have hb_ := hH_.to_below
    refine l_cons (ev_newRow (cs := [(.int .i64 ((pickOf (((lowOf l + 1) + ((i : Nat) : Int))) l).f0)), (.int .i64 ((pickOf (((lowOf l + 1) + ((i : Nat) : Int))) l).f1)), (.slice Ap2q1 ((pickOf (((lowOf l + 1) + ((i : Nat) : Int))) l).f2.length) cp2q1), (.slice Ap3q1 ((pickOf (((lowOf l + 1) + ((i : Nat) : Int))) l).f3.length) cp3q1)]) (t := 36) (len := 1) rfl rfl H6 (by kernel_rfl) ?_)
    intro g1 w5 H7 hg1 hbw5
    refine l_cons (ev_append (e := 36) (sz := 4) (z := (.agg #[(.int .i64 0), (.int .i64 0), (.slice none 0 0), (.slice none 0 0)])) (bytes := 64) 3 (A := A') (m0 := i) (c := (c')) (rows := rows) ([[(.int .i64 ((pickOf (((lowOf l + 1) + ((i : Nat) : Int))) l).f0)), (.int .i64 ((pickOf (((lowOf l + 1) + ((i : Nat) : Int))) l).f1)), (.slice Ap2q1 ((pickOf (((lowOf l + 1) + ((i : Nat) : Int))) l).f2.length) cp2q1), (.slice Ap3q1 ((pickOf (((lowOf l + 1) + ((i : Nat) : Int))) l).f3.length) cp3q1)]] : List (List Value)) (some (⟨g1, 0, none⟩)) 1 1 rfl rfl rfl Try.underlying39 (by kernel_rfl) rfl rfl rfl H7 rfl (by kernel_rfl) (by kernel_rfl) (by first | rfl | (simp; done) | assumption | omega) (fun j row hj => read_blk (H7.get 0 rfl) ([[(.int .i64 ((pickOf (((lowOf l + 1) + ((i : Nat) : Int))) l).f0)), (.int .i64 ((pickOf (((lowOf l + 1) + ((i : Nat) : Int))) l).f1)), (.slice Ap2q1 ((pickOf (((lowOf l + 1) + ((i : Nat) : Int))) l).f2.length) cp2q1), (.slice Ap3q1 ((pickOf (((lowOf l + 1) + ((i : Nat) : Int))) l).f3.length) cp3q1)]] : List (List Value)) rfl (by first | rfl | kernel_rfl) j row hj) (by first | omega | (simp; omega)) (i + 1) (by first | rfl | omega) ?_)
    intro Aa1 cc1 w6 H8 hcw6
    refine l_cons (ev_run (v := (.slice Aa1 ((i + 1)) cc1)) (w1 := w6) rfl rfl (by kernel_rfl) ?_)
    refine l_nil ?_
    refine n_in ?_
    refine n_then ?_
    refine k_list ?_
    refine l_cons (ev_eq (v := (.int .i64 (IntKind.i64.wrap (((i : Nat) : Int) + 1)))) (v' := (.int .i64 ((((i : Nat) : Int) + 1)))) (w1 := w6) rfl rfl (by kernel_rfl) (wr64 (by omega) (by omega)) ?_)
    refine l_cons (ev_run (v := (.int .i64 ((((i : Nat) : Int) + 1)))) (w1 := w6) rfl rfl (by kernel_rfl) ?_)
    refine l_nil ?_
    refine n_then ?_
    have hrl := (rowR_len (H8.get 3 rfl)).1
    have H9 := (H8.sel [1, 2, 4, 3] (by decide)).merge (fkR k36 _ (pickOf ((lowOf l + 1) + ((i : Nat) : Int)) l) _) (fun ha hb hd => ⟨k36_mkF _ _ _ (byR_le ha) (Kd.F_mono (byR_F ha) (fun k hk => Or.inl hk)) (byR_le hb) (Kd.F_mono (byR_F hb) (fun k hk => Or.inr hk)), fun k hk => hk.elim (fun h => Res.lt _ _ ha k h) (fun h => Res.lt _ _ hb k h)⟩) (fun k hk => hk)
    have H10 := (H9.sel [1, 0, 2] (by decide)).elsnoc (by rw [picksTo_length]; simp at hrl; omega)
    rw [← picksTo_succ] at H10
    exact k_round (i + 1, Aa1, cc1, rows ++ ([[(.int .i64 ((pickOf (((lowOf l + 1) + ((i : Nat) : Int))) l).f0)), (.int .i64 ((pickOf (((lowOf l + 1) + ((i : Nat) : Int))) l).f1)), (.slice Ap2q1 ((pickOf (((lowOf l + 1) + ((i : Nat) : Int))) l).f2.length) cp2q1), (.slice Ap3q1 ((pickOf (((lowOf l + 1) + ((i : Nat) : Int))) l).f3.length) cp3q1)]] : List (List Value)), _) ⟨(by first | rfl | kernel_rfl), (by first | rfl | kernel_rfl), (by first | rfl | kernel_rfl), (by first | rfl | kernel_rfl), (by first | rfl | kernel_rfl), trivial⟩ ⟨(by omega), H10.sel [1, 0] (by decide)⟩ (by first | omega | (simp; omega))
  · skip
    refine wp_seq ?_
    refine k_list ?_
    refine l_cons (ev_eq (v := (.bool (decide ((((i : Nat) : Int) : Int) < ((m : Nat) : Int))))) (v' := (.bool false)) (w1 := w3) rfl rfl (by kernel_rfl) (bf (by first | assumption | omega)) ?_)
    refine l_nil ?_
    refine n_then ?_
    refine wp_seq ?_
    refine k_false (by kernel_rfl) ?_
    refine wp_exit ?_
    refine e_then ?_
    refine e_then ?_
    refine e_in ?_
    refine n_then ?_
    refine wp_seq ?_
    refine k_list ?_
    refine l_cons (ev_run (v := (.slice A' i (c'))) (w1 := w3) rfl rfl (by kernel_rfl) ?_)
    refine l_cons (ev_run (v := (.slice A' i (c'))) (w1 := w3) rfl rfl (by kernel_rfl) ?_)
    refine l_nil ?_
    refine n_then ?_
    refine wp_ret ?_
    refine b_ret (v := (.slice A' i (c'))) (resS rfl (.tmp (by kernel_rfl) .nil)) ?_
    have hpl : picksTo l i = picksOf l := by rw [picksOf, ← hme, show i = m by omega]
    have hpn : (picksOf l).length = i := by rw [← hpl, picksTo_length]
    rw [hpl] at H5
    rw [hpn]
    exact ⟨_, _, _, _, rfl, H5⟩
end Go.Proofs.Ytpnelfefchdhcaa
