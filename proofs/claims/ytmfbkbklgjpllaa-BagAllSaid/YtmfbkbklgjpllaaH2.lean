/- BagAll: the walk of the law. -/
import Derived.Test.YtmfbkbklgjpllaaH1
namespace Go.Proofs.Ytmfbkbklgjpllaa
open Go.RowKit Go.Proofs.YtmfbkbklgjpllaaW.PrintWords Go.Proofs.YtmfbkbklgjpllaaW.PrintLast Go.Proofs.YtmfbkbklgjpllaaW.PrintMore
open Go.Proofs.Ytmfbkbklgjpllaa.PBagCopies
set_option linter.unusedVariables false
set_option linter.unusedSimpArgs false
set_option maxRecDepth 100000

theorem set_get {l : List Bool} {i : Nat} {b : Bool} (h : l[i]? = some b) : i < l.length := (List.getElem?_eq_some_iff.1 h).1
theorem cases17 (k : Nat) (picks : List Int) : (k < picks.length ∧ ∃ pn : Nat, picks.getD k 0 = (pn : Int)) ∨ (k < picks.length ∧ picks.getD k 0 < 0) ∨ picks.length ≤ k := by
  rcases Nat.lt_or_ge k picks.length with h | h
  · rcases Int.lt_or_le (picks.getD k 0) 0 with h2 | h2
    · exact .inr (.inl ⟨h, h2⟩)
    · exact .inl ⟨h, (picks.getD k 0).toNat, by omega⟩
  · exact .inr (.inr h)
theorem pk_getD (l : List S29) (j : Nat) (h : j < l.length) : pkAt l (j : Int) = l.getD j z29 := rfl
set_option maxHeartbeats 4000000 in
theorem all_c (A : Option Addr) (c : Nat) (l : List S29) (Ap : Option Addr) (cp : Nat) (picks : List Int) (w : World) (hC : Kd.C k29 w A l.length l) (hP : Kd.C (Kd.int .i64) w Ap picks.length picks) (hl : ∀ p ∈ l, PkOk p) :
    Calls Try.prog 5 #[.slice A l.length c, .slice Ap picks.length cp] w fun e w' => e = .returned (.bool true) ∧ Below w.heap.size w w' := by
  have H := Hp.start (fun _ => False) w
  have hlen := C_len hC
  have hplen := C_len hP
  refine k_enter (args := [(.slice A l.length c), (.slice Ap picks.length cp)]) Try.func5 rfl Try.ntmps5 (Nat.le_of_ble_eq_true rfl) ?_
  refine wp_seq ?_
  refine k_list ?_
  refine l_cons (ev_run (v := (.bool false)) (w1 := w) rfl rfl (by kernel_rfl) ?_)
  refine l_nil ?_
  refine n_then ?_
  refine wp_seq ?_
  refine wp_seq ?_
  refine k_list ?_
  refine l_cons (ev_call rfl rfl (f := 7) (args := #[]) (by kernel_rfl) (alive_calls _) ?_)
  rintro e w1 ⟨rfl, hb_⟩
  refine ⟨_, rfl, ?_⟩
  have H1 := H.below hb_
  refine l_cons (ev_run (v := (.bool false)) (w1 := w1) rfl rfl (by kernel_rfl) ?_)
  refine l_nil ?_
  refine n_then ?_
  refine k_false (by kernel_rfl) ?_
  refine wp_skip ?_
  refine n_then ?_
  refine wp_seq ?_
  refine wp_seq ?_
  refine k_list ?_
  refine l_cons (ev_run (v := (.slice A l.length c)) (w1 := w1) rfl rfl (by kernel_rfl) ?_)
  refine l_cons (ev_run (v := (.int .i64 (((l.length : Nat) : Int)))) (w1 := w1) rfl rfl (by kernel_rfl) ?_)
  by_cases hc1 : (((l.length : Nat) : Int) : Int) > 500
  · skip
    refine l_cons (ev_eq (v := (.bool (decide ((((l.length : Nat) : Int) : Int) > 500)))) (v' := (.bool true)) (w1 := w1) rfl rfl (by kernel_rfl) (bt (by first | assumption | omega)) ?_)
    refine l_nil ?_
    refine n_then ?_
    refine k_true (by kernel_rfl) ?_
    refine wp_seq ?_
    refine k_list ?_
    refine l_cons (ev_run (v := (.bool true)) (w1 := w1) rfl rfl (by kernel_rfl) ?_)
    refine l_nil ?_
    refine n_then ?_
    refine wp_ret ?_
    refine r_then ?_
    refine b_ret (v := (.bool true)) (resS rfl (.tmp (by kernel_rfl) .nil)) ?_
    exact ⟨rfl, H1.to_below⟩
  · skip
    refine l_cons (ev_eq (v := (.bool (decide ((((l.length : Nat) : Int) : Int) > 500)))) (v' := (.bool false)) (w1 := w1) rfl rfl (by kernel_rfl) (bf (by first | assumption | omega)) ?_)
    refine l_nil ?_
    refine n_then ?_
    refine k_false (by kernel_rfl) ?_
    refine wp_skip ?_
    refine n_then ?_
    refine wp_seq ?_
    refine k_list ?_
    refine l_cons (ev_call rfl rfl (f := 8) (args := #[]) (by kernel_rfl) (newH _) ?_)
    rintro e w2 ⟨g, F, rfl, hH_⟩
    refine ⟨_, rfl, ?_⟩
    have H2 := H1.join hH_
    have hb_ := hH_.to_below
    refine l_cons (ev_run (v := (.pointer (some (⟨g, 0, none⟩)))) (w1 := w2) rfl rfl (by kernel_rfl) ?_)
    refine l_nil ?_
    refine n_then ?_
    refine wp_seq ?_
    refine wp_seq ?_
    refine k_list ?_
    refine l_cons (ev_run (v := (.slice A l.length c)) (w1 := w2) rfl rfl (by kernel_rfl) ?_)
    refine l_cons (ev_run (v := (.int .i64 (((l.length : Nat) : Int)))) (w1 := w2) rfl rfl (by kernel_rfl) ?_)
    refine l_cons (ev_run (v := (.int .i64 0)) (w1 := w2) rfl rfl (by kernel_rfl) ?_)
    refine l_nil ?_
    refine n_then ?_
    refine wp_block ?_
    refine k_loop (σ := Nat × (Nat → Prop)) (fun x_ => match x_ with | (j, F) => [(0, (.slice A l.length c)), (1, (.slice Ap picks.length cp)), (5, (.pointer (some (⟨g, 0, none⟩)))), (21, (.slice A l.length c)), (22, (.int .i64 (((l.length : Nat) : Int)))), (23, (.int .i64 (((j : Nat) : Int))))]) (fun x_ w' => match x_ with | (j, F) => (j ≤ l.length) ∧ Hp (fun _ => False) w w' [bagR g F (tg l j)]) (fun x_ => match x_ with | (j, F) => l.length - j) (0, F) ⟨(by first | rfl | kernel_rfl), (by first | rfl | kernel_rfl), (by first | rfl | kernel_rfl), (by first | rfl | kernel_rfl), (by first | rfl | kernel_rfl), (by first | rfl | kernel_rfl), trivial⟩ ⟨(by omega), H2⟩ ?_
    rintro L1 ⟨j, F⟩ w3 ⟨hj, H3⟩
    change Code.wp _ _ _ (Fr _ _ [(0, (.slice A l.length c)), (1, (.slice Ap picks.length cp)), (5, (.pointer (some (⟨g, 0, none⟩)))), (21, (.slice A l.length c)), (22, (.int .i64 (((l.length : Nat) : Int)))), (23, (.int .i64 (((j : Nat) : Int))))]) _
    rcases Nat.lt_or_ge j l.length with hlt | hge
    · skip
      obtain ⟨ad, rfl⟩ := C_some hC (by omega) z29
      obtain ⟨x, Ax2, cx2, hx, hxA, lx2, gx2⟩ := elem29 hC j hlt
      have hpk : x.f2.length ≤ 140737488351232 := hl x (by rw [hx]; exact getD_mem hlt)
      refine wp_seq ?_
      refine k_list ?_
      refine l_cons (ev_eq (v := (.bool (decide ((((j : Nat) : Int) : Int) < ((l.length : Nat) : Int))))) (v' := (.bool true)) (w1 := w3) rfl rfl (by kernel_rfl) (bt (by first | assumption | omega)) ?_)
      refine l_nil ?_
      refine n_then ?_
      refine wp_seq ?_
      refine k_true (by kernel_rfl) ?_
      refine wp_skip ?_
      refine n_then ?_
      refine wp_seq ?_
      refine wp_block ?_
      refine wp_seq ?_
      refine k_list ?_
      refine l_cons (ev_run (v := (.int .i64 (((j : Nat) : Int)))) (w1 := w3) rfl rfl (by kernel_rfl) ?_)
      refine l_cons (ev_run (v := (.pointer (some ((ad).add (j * 3))))) (w1 := w3) rfl rfl (run_ixa (sz := 3) (q := j) (ad := ad) (len := l.length) (cap := c) (k := .i64) (z := ((j : Nat) : Int)) rfl (by kernel_rfl) (by kernel_rfl) rfl (by kernel_rfl) (by first | rfl | omega) (by first | omega | decide)) ?_)
      refine l_cons (ev_run (v := (.agg #[(.int .i64 x.f0), (.int .i64 x.f1), (.slice Ax2 x.f2.length cx2)])) (w1 := w3) rfl rfl (run_ld rfl (by kernel_rfl) (At.hp hxA H3 (fun h => h)) (by kernel_rfl)) ?_)
      refine l_cons (ev_new (cs := [(.int .i64 0), (.int .i64 0), (.slice none 0 0)]) (t := 29) rfl rfl H3 (by kernel_rfl) ?_)
      intro g1 w4 H4 hg1 hbw4
      refine l_cons (ev_run (v := (.int .i64 (((j : Nat) : Int)))) (w1 := w4) rfl rfl (by kernel_rfl) ?_)
      refine l_cons (ev_store (i := 0) rfl rfl rfl H4 (k := 0) rfl (by kernel_rfl) (.agg #[(.int .i64 x.f0), (.int .i64 x.f1), (.slice Ax2 x.f2.length cx2)]) (by kernel_rfl) [(.int .i64 x.f0), (.int .i64 x.f1), (.slice Ax2 x.f2.length cx2)] (by kernel_rfl) (by kernel_rfl) (by kernel_rfl) (by kernel_rfl) [(.int .i64 x.f0), (.int .i64 x.f1), (.slice Ax2 x.f2.length cx2)] (by kernel_rfl) ?_)
      intro w5 H5 hcw5
      refine l_nil ?_
      refine n_then ?_
      refine wp_seq ?_
      refine r_start (m := 11) (fun j => false) (fun w' => Hp (fun _ => False) w w' [blk g1 [(.int .i64 x.f0), (.int .i64 x.f1), (.slice Ax2 x.f2.length cx2)] 29]) (by kernel_rfl) rfl (by kernel_rfl) (fun _ _ _ _ _ h => h) ?_
      have H6 := H5.drew
      refine r_take (i := 0) (v := (.pointer (some (⟨g, 0, none⟩)))) rfl (by kernel_rfl) (by kernel_rfl) (by kernel_rfl) rfl (H6.sel [0] (by decide)) (fun _ _ => by kernel_rfl) ?_
      refine r_take (i := 1) (v := (.int .i64 (((j : Nat) : Int)))) rfl (by kernel_rfl) (by kernel_rfl) (by kernel_rfl) rfl (H6.sel [0] (by decide)) (fun _ _ => by kernel_rfl) ?_
      refine r_take (i := 2) (v := (.pointer (some (⟨g1, 1, none⟩)))) rfl (by kernel_rfl) (by kernel_rfl) (by kernel_rfl) rfl (H6.sel [0] (by decide)) (fun _ _ => by kernel_rfl) ?_
      refine r_take (i := 3) (v := (.int .i64 x.f1)) rfl (by kernel_rfl) (by kernel_rfl) (by kernel_rfl) rfl (H6.sel [0] (by decide)) (fun w_ hs_ => (run_ld rfl (by kernel_rfl) (At.blk (hs_.get 0 rfl) 1) (by kernel_rfl))) ?_
      refine r_take (i := 5) (v := (.pointer (some (⟨g1, 2, none⟩)))) rfl (by kernel_rfl) (by kernel_rfl) (by kernel_rfl) rfl (H6.sel [0] (by decide)) (fun _ _ => by kernel_rfl) ?_
      refine r_take (i := 6) (v := (.slice Ax2 x.f2.length cx2)) rfl (by kernel_rfl) (by kernel_rfl) (by kernel_rfl) rfl (H6.sel [0] (by decide)) (fun w_ hs_ => (run_ld rfl (by kernel_rfl) (At.blk (hs_.get 0 rfl) 2) (by kernel_rfl))) ?_
      refine r_one (i := 4) (by kernel_rfl) rfl (ev_newRow (cs := []) (t := 5) (len := 0) (by kernel_rfl) rfl H6 (by kernel_rfl) ?_)
      intro g2 w6 H7 hg2 hbw6
      refine ⟨fun _ => (H7.sel [1] (by decide)), ?_⟩
      have H8 := H7.imp 0 rfl (rowR 5 1 (some ⟨g2, 0, none⟩) 0 0 ([] : List (List Value))) (fun h => rowR_blk h ([] : List (List Value)) rfl (by first | rfl | kernel_rfl) (by simp)) (fun k hk => (Option.some.inj hk).symm)
      refine r_one (i := 7) (by kernel_rfl) rfl (ev_append (e := 5) (sz := 1) (z := (.int .u8 0)) (bytes := 1) 0 (A := (some (⟨g2, 0, none⟩))) (m0 := 0) (c := 0) (rows := ([] : List (List Value))) (x.f2.map fun y => [Value.int .u8 y]) Ax2 x.f2.length cx2 (by kernel_rfl) rfl rfl Try.underlying27 (by kernel_rfl) rfl rfl rfl H8 rfl (by kernel_rfl) (by kernel_rfl) (by first | rfl | (simp; done) | assumption | omega) (fun j row hj => read_scalar (C_to gx2 H8) j row hj) (by first | omega | (simp; omega)) x.f2.length (by first | rfl | omega) ?_)
      intro Aa1 cc1 w7 H9 hcw7
      refine ⟨fun _ => (H9.sel [1] (by decide)), ?_⟩
      refine r_take (i := 8) (v := (.agg #[(.int .i64 (((j : Nat) : Int))), (.int .i64 x.f1), (.slice Aa1 x.f2.length cc1)])) rfl (by kernel_rfl) (by kernel_rfl) (by kernel_rfl) rfl (H9.sel [1] (by decide)) (fun _ _ => by kernel_rfl) ?_
      refine r_one (i := 9) (by kernel_rfl) rfl (ev_call (by kernel_rfl) rfl (f := 9) (args := #[(.pointer (some (⟨g, 0, none⟩))), (.agg #[(.int .i64 (((j : Nat) : Int))), (.int .i64 x.f1), (.slice Aa1 x.f2.length cc1)])]) (by kernel_rfl) (put_c 0 _ g F (tg l j) (H9.get 2 rfl) (Nat.zero_le _) (⟨((j : Nat) : Int), x.f1, x.f2⟩ : S29) _ (Rd_of (byR_le (H9.get 0 rfl)) (byR_C (H9.get 0 rfl))) hpk (by rw [tg_length]; omega)) ?_)
      rintro e w8 ⟨F1, rfl, hG, hcw8, hf_⟩
      refine ⟨_, rfl, ?_⟩
      have H10 := H9.upd 2 rfl hcw8 (bagR g F1 ((tg l j) ++ [(⟨((j : Nat) : Int), x.f1, x.f2⟩ : S29)])) hG hf_
      refine ⟨fun _ => (H10.sel [1] (by decide)), ?_⟩
      refine r_take (i := 10) (v := (.bool false)) rfl (by kernel_rfl) (by kernel_rfl) (by kernel_rfl) rfl (H10.sel [1] (by decide)) (fun _ _ => by kernel_rfl) ?_
      refine r_done (by kernel_rfl) ?_
      refine n_then ?_
      refine k_false (by kernel_rfl) ?_
      refine wp_skip ?_
      refine n_in ?_
      refine n_then ?_
      refine k_list ?_
      refine l_cons (ev_eq (v := (.int .i64 (IntKind.i64.wrap (((j : Nat) : Int) + 1)))) (v' := (.int .i64 ((((j : Nat) : Int) + 1)))) (w1 := w8) rfl rfl (by kernel_rfl) (wr64 (by omega) (by omega)) ?_)
      refine l_cons (ev_run (v := (.int .i64 ((((j : Nat) : Int) + 1)))) (w1 := w8) rfl rfl (by kernel_rfl) ?_)
      refine l_nil ?_
      refine n_then ?_
      rw [show tg l j ++ [(⟨((j : Nat) : Int), x.f1, x.f2⟩ : S29)] = tg l (j + 1) by rw [tg_succ, hx, ← pk_getD l j hlt]; rfl] at H10
      exact k_round (j + 1, F1) ⟨(by first | rfl | kernel_rfl), (by first | rfl | kernel_rfl), (by first | rfl | kernel_rfl), (by first | rfl | kernel_rfl), (by first | rfl | kernel_rfl), (by first | rfl | kernel_rfl), trivial⟩ ⟨(by omega), H10.sel [2] (by decide)⟩ (by first | omega | (simp; omega))
    · skip
      obtain rfl : j = l.length := by omega
      refine wp_seq ?_
      refine k_list ?_
      refine l_cons (ev_eq (v := (.bool (decide ((((l.length : Nat) : Int) : Int) < ((l.length : Nat) : Int))))) (v' := (.bool false)) (w1 := w3) rfl rfl (by kernel_rfl) (bf (by first | assumption | omega)) ?_)
      refine l_nil ?_
      refine n_then ?_
      refine wp_seq ?_
      refine k_false (by kernel_rfl) ?_
      refine wp_exit ?_
      refine e_then ?_
      refine e_then ?_
      refine e_in ?_
      refine n_then ?_
      refine wp_seq ?_
      refine k_list ?_
      refine l_cons (ev_run (v := (.slice A l.length c)) (w1 := w3) rfl rfl (by kernel_rfl) ?_)
      refine l_cons (ev_run (v := (.int .i64 (((l.length : Nat) : Int)))) (w1 := w3) rfl rfl (by kernel_rfl) ?_)
      refine l_cons (ev_make (e := 4) (sz := 1) (bytes := 1) (z := (.bool false)) (m := l.length) rfl rfl rfl (by kernel_rfl) (by kernel_rfl) Try.underlying46 (by kernel_rfl) rfl rfl rfl (by kernel_rfl) (by omega) H3 ?_)
      intro Am1 cm1 w9 H11 hbw9
      replace H11 : Hp (fun _ => False) w w9 [rowR 4 1 Am1 l.length cm1 ((List.replicate l.length false).map fun y => [Value.bool y]), bagR g F (tg l l.length)] := by have h := H11; rw [show (List.replicate l.length (Value.cells (.bool false)).toList) = (List.replicate l.length false).map fun y => [Value.bool y] by rw [List.map_replicate]; rfl] at h; exact h
      refine l_cons (ev_run (v := (.slice Am1 l.length cm1)) (w1 := w9) rfl rfl (by kernel_rfl) ?_)
      refine l_nil ?_
      refine n_then ?_
      refine wp_seq ?_
      refine wp_seq ?_
      refine k_list ?_
      refine l_cons (ev_run (v := (.int .i64 0)) (w1 := w9) rfl rfl (by kernel_rfl) ?_)
      refine l_nil ?_
      refine n_then ?_
      refine wp_block ?_
      refine k_loop (σ := Nat × List S29 × List Bool × (Nat → Prop)) (fun x_ => match x_ with | (k, L, sn, F) => [(0, (.slice A l.length c)), (1, (.slice Ap picks.length cp)), (5, (.pointer (some (⟨g, 0, none⟩)))), (8, (.slice Am1 l.length cm1)), (9, (.int .i64 (((k : Nat) : Int))))]) (fun x_ w' => match x_ with | (k, L, sn, F) => (Inv l L sn k) ∧ Hp (fun _ => False) w w' [rowR 4 1 Am1 l.length cm1 ((sn).map fun y => [Value.bool y]), bagR g F L]) (fun x_ => match x_ with | (k, L, sn, F) => l.length - k) (0, tg l l.length, List.replicate l.length false, F) ⟨(by first | rfl | kernel_rfl), (by first | rfl | kernel_rfl), (by first | rfl | kernel_rfl), (by first | rfl | kernel_rfl), (by first | rfl | kernel_rfl), trivial⟩ ⟨(Inv.init l), H11⟩ ?_
      rintro L2 ⟨k, L, sn, F⟩ w10 ⟨hI, H12⟩
      change Code.wp _ _ _ (Fr _ _ [(0, (.slice A l.length c)), (1, (.slice Ap picks.length cp)), (5, (.pointer (some (⟨g, 0, none⟩)))), (8, (.slice Am1 l.length cm1)), (9, (.int .i64 (((k : Nat) : Int))))]) _
      have hLk := hI.len
      have hsl := hI.sl
      rcases Nat.eq_zero_or_pos L.length with hL0 | hL0
      · skip
        refine wp_seq ?_
        refine wp_seq ?_
        refine k_list ?_
        refine l_cons (ev_run (v := (.pointer (some (⟨g, 0, none⟩)))) (w1 := w10) rfl rfl (by kernel_rfl) ?_)
        refine l_cons (ev_call rfl rfl (f := 12) (args := #[(.pointer (some (⟨g, 0, none⟩)))]) (by kernel_rfl) (lenH _ g F L (H12.get 1 rfl)) ?_)
        rintro e w11 ⟨rfl, hb_⟩
        refine ⟨_, rfl, ?_⟩
        have H13 := H12.below hb_
        refine l_cons (ev_eq (v := (.bool (decide ((((L.length : Nat) : Int) : Int) > 0)))) (v' := (.bool false)) (w1 := w11) rfl rfl (by kernel_rfl) (bf (by first | assumption | omega)) ?_)
        refine l_nil ?_
        refine n_then ?_
        refine k_false (by kernel_rfl) ?_
        refine wp_exit ?_
        refine e_then ?_
        refine e_then ?_
        refine e_in ?_
        refine n_then ?_
        refine wp_seq ?_
        refine wp_seq ?_
        refine k_list ?_
        refine l_cons (ev_run (v := (.slice Am1 l.length cm1)) (w1 := w11) rfl rfl (by kernel_rfl) ?_)
        refine l_cons (ev_run (v := (.int .i64 (((l.length : Nat) : Int)))) (w1 := w11) rfl rfl (by kernel_rfl) ?_)
        refine l_cons (ev_run (v := (.int .i64 0)) (w1 := w11) rfl rfl (by kernel_rfl) ?_)
        refine l_nil ?_
        refine n_then ?_
        refine wp_block ?_
        refine k_loop (σ := Nat) (fun j => [(121, (.slice Am1 l.length cm1)), (122, (.int .i64 (((l.length : Nat) : Int)))), (123, (.int .i64 (((j : Nat) : Int))))]) (fun j w' => (j ≤ l.length) ∧ Hp (fun _ => False) w w' [rowR 4 1 Am1 l.length cm1 ((sn).map fun y => [Value.bool y])]) (fun j => l.length - j) 0 ⟨(by first | rfl | kernel_rfl), (by first | rfl | kernel_rfl), (by first | rfl | kernel_rfl), trivial⟩ ⟨(by omega), H13.sel [0] (by decide)⟩ ?_
        rintro L3 j w12 ⟨hj, H14⟩
        change Code.wp _ _ _ (Fr _ _ [(121, (.slice Am1 l.length cm1)), (122, (.int .i64 (((l.length : Nat) : Int)))), (123, (.int .i64 (((j : Nat) : Int))))]) _
        rcases Nat.lt_or_ge j l.length with hlt | hge
        · skip
          obtain ⟨gs, rfl⟩ := rowR_some (H14.get 0 rfl) (by omega)
          have hs := hI.done hL0 j hlt
          refine wp_seq ?_
          refine k_list ?_
          refine l_cons (ev_eq (v := (.bool (decide ((((j : Nat) : Int) : Int) < ((l.length : Nat) : Int))))) (v' := (.bool true)) (w1 := w12) rfl rfl (by kernel_rfl) (bt (by first | assumption | omega)) ?_)
          refine l_nil ?_
          refine n_then ?_
          refine wp_seq ?_
          refine k_true (by kernel_rfl) ?_
          refine wp_skip ?_
          refine n_then ?_
          refine wp_seq ?_
          refine wp_block ?_
          refine wp_seq ?_
          refine k_list ?_
          refine l_cons (ev_run (v := (.pointer (some (((⟨gs, 0, none⟩ : Addr)).add (j * 1))))) (w1 := w12) rfl rfl (run_ixa (sz := 1) (q := j) (ad := ⟨gs, 0, none⟩) (len := l.length) (cap := cm1) (k := .i64) (z := ((j : Nat) : Int)) rfl (by kernel_rfl) (by kernel_rfl) rfl (by kernel_rfl) (by first | rfl | omega) (by first | omega | decide)) ?_)
          refine l_cons (ev_run (v := (.bool true)) (w1 := w12) rfl rfl (run_ld rfl (by kernel_rfl) (At_scal (h1 := fun _ => rfl) (xs := sn) (enc := Value.bool) (H14.get 0 rfl) j _ hs) (by kernel_rfl)) ?_)
          refine l_cons (ev_run (v := (.bool true)) (w1 := w12) rfl rfl (by kernel_rfl) ?_)
          refine l_nil ?_
          refine n_then ?_
          refine wp_seq ?_
          refine k_list ?_
          refine l_cons (ev_run (v := (.bool true)) (w1 := w12) rfl rfl (by kernel_rfl) ?_)
          refine l_cons (ev_run (v := (.bool false)) (w1 := w12) rfl rfl (by kernel_rfl) ?_)
          refine l_nil ?_
          refine n_then ?_
          refine k_false (by kernel_rfl) ?_
          refine wp_skip ?_
          refine n_in ?_
          refine n_then ?_
          refine k_list ?_
          refine l_cons (ev_eq (v := (.int .i64 (IntKind.i64.wrap (((j : Nat) : Int) + 1)))) (v' := (.int .i64 ((((j : Nat) : Int) + 1)))) (w1 := w12) rfl rfl (by kernel_rfl) (wr64 (by omega) (by omega)) ?_)
          refine l_cons (ev_run (v := (.int .i64 ((((j : Nat) : Int) + 1)))) (w1 := w12) rfl rfl (by kernel_rfl) ?_)
          refine l_nil ?_
          refine n_then ?_
          exact k_round (j + 1) ⟨(by first | rfl | kernel_rfl), (by first | rfl | kernel_rfl), (by first | rfl | kernel_rfl), trivial⟩ ⟨(by omega), H14⟩ (by first | omega | (simp; omega))
        · skip
          refine wp_seq ?_
          refine k_list ?_
          refine l_cons (ev_eq (v := (.bool (decide ((((j : Nat) : Int) : Int) < ((l.length : Nat) : Int))))) (v' := (.bool false)) (w1 := w12) rfl rfl (by kernel_rfl) (bf (by first | assumption | omega)) ?_)
          refine l_nil ?_
          refine n_then ?_
          refine wp_seq ?_
          refine k_false (by kernel_rfl) ?_
          refine wp_exit ?_
          refine e_then ?_
          refine e_then ?_
          refine e_in ?_
          refine n_then ?_
          refine wp_seq ?_
          refine k_list ?_
          refine l_cons (ev_run (v := (.bool true)) (w1 := w12) rfl rfl (by kernel_rfl) ?_)
          refine l_nil ?_
          refine n_then ?_
          refine wp_ret ?_
          refine b_ret (v := (.bool true)) (resS rfl (.tmp (by kernel_rfl) .nil)) ?_
          exact ⟨rfl, H14.to_below⟩
      · skip
        obtain ⟨ad, rfl⟩ := C_some hC (by omega) z29
        refine wp_seq ?_
        refine wp_seq ?_
        refine k_list ?_
        refine l_cons (ev_run (v := (.pointer (some (⟨g, 0, none⟩)))) (w1 := w10) rfl rfl (by kernel_rfl) ?_)
        refine l_cons (ev_call rfl rfl (f := 12) (args := #[(.pointer (some (⟨g, 0, none⟩)))]) (by kernel_rfl) (lenH _ g F L (H12.get 1 rfl)) ?_)
        rintro e w13 ⟨rfl, hb_⟩
        refine ⟨_, rfl, ?_⟩
        have H15 := H12.below hb_
        refine l_cons (ev_eq (v := (.bool (decide ((((L.length : Nat) : Int) : Int) > 0)))) (v' := (.bool true)) (w1 := w13) rfl rfl (by kernel_rfl) (bt (by first | assumption | omega)) ?_)
        refine l_nil ?_
        refine n_then ?_
        refine k_true (by kernel_rfl) ?_
        refine wp_skip ?_
        refine n_then ?_
        refine wp_seq ?_
        refine wp_block ?_
        refine wp_seq ?_
        refine k_list ?_
        refine l_cons (ev_run (v := (.int .i64 0)) (w1 := w13) rfl rfl (by kernel_rfl) ?_)
        refine l_nil ?_
        refine n_then ?_
        refine wp_seq ?_
        refine wp_seq ?_
        refine k_list ?_
        rcases cases17 k picks with ⟨hk, pn, hpn⟩ | ⟨hk, hpn⟩ | hk
        · skip
          obtain ⟨adp, rfl⟩ := C_some hP (by omega) 0
          have hpa := C_scal_at hP 0 k hk
          rw [hpn] at hpa
          have hrm := Nat.mod_lt pn hL0
          refine l_cons (ev_run (v := (.int .i64 (((k : Nat) : Int)))) (w1 := w13) rfl rfl (by kernel_rfl) ?_)
          refine l_cons (ev_run (v := (.slice (some (adp)) picks.length cp)) (w1 := w13) rfl rfl (by kernel_rfl) ?_)
          refine l_cons (ev_run (v := (.int .i64 (((picks.length : Nat) : Int)))) (w1 := w13) rfl rfl (by kernel_rfl) ?_)
          refine l_cons (ev_eq (v := (.bool (decide ((((k : Nat) : Int) : Int) < ((picks.length : Nat) : Int))))) (v' := (.bool true)) (w1 := w13) rfl rfl (by kernel_rfl) (bt (by first | assumption | omega)) ?_)
          refine l_cons (ev_run (v := (.bool true)) (w1 := w13) rfl rfl (by kernel_rfl) ?_)
          refine l_cons (ev_run (v := (.slice (some (adp)) picks.length cp)) (w1 := w13) (by kernel_rfl) rfl (by kernel_rfl) ?_)
          refine l_cons (ev_run (v := (.int .i64 (((k : Nat) : Int)))) (w1 := w13) (by kernel_rfl) rfl (by kernel_rfl) ?_)
          refine l_cons (ev_run (v := (.pointer (some ((adp).add (k * 1))))) (w1 := w13) (by kernel_rfl) rfl (run_ixa (sz := 1) (q := k) (ad := adp) (len := picks.length) (cap := cp) (k := .i64) (z := ((k : Nat) : Int)) rfl (by kernel_rfl) (by kernel_rfl) rfl (by kernel_rfl) (by first | rfl | omega) (by first | omega | decide)) ?_)
          refine l_cons (ev_run (v := (.int .i64 (((pn : Nat) : Int)))) (w1 := w13) (by kernel_rfl) rfl (run_ld rfl (by kernel_rfl) (At.hp hpa H15 (fun h => h)) (by kernel_rfl)) ?_)
          refine l_cons (ev_eq (v := (.bool (decide ((((pn : Nat) : Int) : Int) ≥ 0)))) (v' := (.bool true)) (w1 := w13) (by kernel_rfl) rfl (by kernel_rfl) (bt (by first | assumption | omega)) ?_)
          refine l_cons (ev_run (v := (.bool true)) (w1 := w13) rfl rfl (by kernel_rfl) ?_)
          refine l_nil ?_
          refine n_then ?_
          refine k_true (by kernel_rfl) ?_
          refine r_start (m := 8) (fun j => false) (fun w' => Hp (fun _ => False) w w' [rowR 4 1 Am1 l.length cm1 ((sn).map fun y => [Value.bool y]), bagR g F L]) (by kernel_rfl) rfl (by kernel_rfl) (fun _ _ _ _ _ h => h) ?_
          have H16 := H15.drew
          refine r_take (i := 0) (v := (.slice (some (adp)) picks.length cp)) rfl (by kernel_rfl) (by kernel_rfl) (by kernel_rfl) rfl H16 (fun _ _ => by kernel_rfl) ?_
          refine r_take (i := 1) (v := (.int .i64 (((k : Nat) : Int)))) rfl (by kernel_rfl) (by kernel_rfl) (by kernel_rfl) rfl H16 (fun _ _ => by kernel_rfl) ?_
          refine r_take (i := 2) (v := (.pointer (some ((adp).add (k * 1))))) rfl (by kernel_rfl) (by kernel_rfl) (by kernel_rfl) rfl H16 (fun w_ hs_ => (run_ixa (sz := 1) (q := k) (ad := adp) (len := picks.length) (cap := cp) (k := .i64) (z := ((k : Nat) : Int)) rfl (by kernel_rfl) (by kernel_rfl) rfl (by kernel_rfl) (by first | rfl | omega) (by first | omega | decide))) ?_
          refine r_take (i := 3) (v := (.int .i64 (((pn : Nat) : Int)))) rfl (by kernel_rfl) (by kernel_rfl) (by kernel_rfl) rfl H16 (fun w_ hs_ => (run_ld rfl (by kernel_rfl) (At.hp hpa hs_ (fun h => h)) (by kernel_rfl))) ?_
          refine r_take (i := 4) (v := (.pointer (some (⟨g, 0, none⟩)))) rfl (by kernel_rfl) (by kernel_rfl) (by kernel_rfl) rfl H16 (fun _ _ => by kernel_rfl) ?_
          refine r_one (i := 5) (by kernel_rfl) rfl (ev_call (by kernel_rfl) rfl (f := 12) (args := #[(.pointer (some (⟨g, 0, none⟩)))]) (by kernel_rfl) (lenH _ g F L (H16.get 1 rfl)) ?_)
          rintro e w14 ⟨rfl, hb_⟩
          refine ⟨_, rfl, ?_⟩
          have H17 := H16.below hb_
          refine ⟨fun _ => H17, ?_⟩
          refine r_take_eq (i := 6) (v := (.int .i64 (Int.tmod ((pn : Nat) : Int) ((L.length : Nat) : Int)))) (v' := (.int .i64 (((pn % L.length : Nat) : Int)))) rfl (by kernel_rfl) (by kernel_rfl) (by kernel_rfl) rfl H17 (fun w_ hs_ => (run_rem (k := .i64) (a := ((pn : Nat) : Int)) (b := ((L.length : Nat) : Int)) rfl (by kernel_rfl) (by kernel_rfl) (by omega))) (by rw [Int.tmod_eq_emod_of_nonneg (by omega)]; rfl) ?_
          refine r_take (i := 7) (v := (.int .i64 (((pn % L.length : Nat) : Int)))) rfl (by kernel_rfl) (by kernel_rfl) (by kernel_rfl) rfl H17 (fun _ _ => by kernel_rfl) ?_
          refine r_done (by kernel_rfl) ?_
          refine n_then ?_
          refine wp_seq ?_
          refine k_list ?_
          refine l_cons (ev_run (v := (.pointer (some (⟨g, 0, none⟩)))) (w1 := w14) rfl rfl (by kernel_rfl) ?_)
          refine l_cons (ev_run (v := (.int .i64 (((pn % L.length : Nat) : Int)))) (w1 := w14) rfl rfl (by kernel_rfl) ?_)
          obtain ⟨i, hi, hx, hs, hI2⟩ := hI.step (pn % L.length) (by omega)
          obtain ⟨x, A2, c2, hxe, hxA, lx2, gx2⟩ := elem29 hC i hi
          have hti : tgAt l i = ⟨((i : Nat) : Int), x.f1, x.f2⟩ := by rw [hxe]; rfl
          rw [hti] at hx
          refine l_cons (ev_call rfl rfl (f := 15) (args := #[(.pointer (some (⟨g, 0, none⟩))), (.int .i64 (((pn % L.length : Nat) : Int)))]) (by kernel_rfl) (takeH _ g F L (H17.get 1 rfl) (pn % L.length) (by omega) _ hx) ?_)
          rintro e w15 ⟨Atk, ct, rfl, hby, hfb, hG, hcw15⟩
          refine ⟨_, rfl, ?_⟩
          have H18 := H17.upd2 1 rfl hcw15 (bagR g F (L.eraseIdx (pn % L.length))) (byR Atk x.f2.length ct x.f2) hG hby (fun _ h => h) hfb
          obtain ⟨gs, rfl⟩ := rowR_some (H18.get 1 rfl) (by omega)
          refine l_cons (ev_run (v := (.tuple #[(.agg #[(.int .i64 (((i : Nat) : Int))), (.int .i64 x.f1), (.slice Atk x.f2.length ct)]), (.int .i64 0)])) (w1 := w15) rfl rfl (by kernel_rfl) ?_)
          refine l_cons (ev_run (v := (.agg #[(.int .i64 (((i : Nat) : Int))), (.int .i64 x.f1), (.slice Atk x.f2.length ct)])) (w1 := w15) rfl rfl (by kernel_rfl) ?_)
          refine l_cons (ev_run (v := (.int .i64 0)) (w1 := w15) rfl rfl (by kernel_rfl) ?_)
          refine l_cons (ev_new (cs := [(.int .i64 0), (.int .i64 0), (.slice none 0 0)]) (t := 29) rfl rfl H18 (by kernel_rfl) ?_)
          intro g3 w16 H19 hg3 hbw16
          refine l_cons (ev_store (i := 0) rfl rfl rfl H19 (k := 0) rfl (by kernel_rfl) (.agg #[(.int .i64 (((i : Nat) : Int))), (.int .i64 x.f1), (.slice Atk x.f2.length ct)]) (by kernel_rfl) [(.int .i64 (((i : Nat) : Int))), (.int .i64 x.f1), (.slice Atk x.f2.length ct)] (by kernel_rfl) (by kernel_rfl) (by kernel_rfl) (by kernel_rfl) [(.int .i64 (((i : Nat) : Int))), (.int .i64 x.f1), (.slice Atk x.f2.length ct)] (by kernel_rfl) ?_)
          intro w17 H20 hcw17
          refine l_cons (ev_run (v := (.int .i64 0)) (w1 := w17) rfl rfl (by kernel_rfl) ?_)
          refine l_nil ?_
          refine n_then ?_
          refine wp_seq ?_
          refine wp_seq ?_
          refine r_start (m := 41) (fun j => false) (fun w' => Hp (fun _ => False) w w' [blk g3 [(.int .i64 (((i : Nat) : Int))), (.int .i64 x.f1), (.slice Atk x.f2.length ct)] 29, rowR 5 1 Atk x.f2.length ct (bts x.f2), rowR 4 1 (some (⟨gs, 0, none⟩)) l.length cm1 ((sn).map fun y => [Value.bool y]), bagR g F (L.eraseIdx (pn % L.length))]) (by kernel_rfl) rfl (by kernel_rfl) (fun _ _ _ _ _ h => h) ?_
          have H21 := H20.drew
          refine r_take (i := 0) (v := (.int .i64 0)) rfl (by kernel_rfl) (by kernel_rfl) (by kernel_rfl) rfl H21 (fun _ _ => by kernel_rfl) ?_
          refine r_take (i := 1) (v := (.bool false)) rfl (by kernel_rfl) (by kernel_rfl) (by kernel_rfl) rfl H21 (fun _ _ => by kernel_rfl) ?_
          refine r_take (i := 2) (v := (.bool false)) rfl (by kernel_rfl) (by kernel_rfl) (by kernel_rfl) rfl H21 (fun _ _ => by kernel_rfl) ?_
          refine r_take (i := 3) (v := (.pointer (some (⟨g3, 0, none⟩)))) rfl (by kernel_rfl) (by kernel_rfl) (by kernel_rfl) rfl H21 (fun _ _ => by kernel_rfl) ?_
          refine r_take (i := 4) (v := (.int .i64 (((i : Nat) : Int)))) rfl (by kernel_rfl) (by kernel_rfl) (by kernel_rfl) rfl H21 (fun w_ hs_ => (run_ld rfl (by kernel_rfl) (At.blk (hs_.get 0 rfl) 0) (by kernel_rfl))) ?_
          by_cases hc2 : (((i : Nat) : Int) : Int) < 0
          · skip
            refine r_take_eq (i := 5) (v := (.bool (decide ((((i : Nat) : Int) : Int) < 0)))) (v' := (.bool true)) rfl (by kernel_rfl) (by kernel_rfl) (by kernel_rfl) rfl H21 (fun _ _ => by kernel_rfl) (bt (by first | assumption | omega)) ?_
            refine r_take (i := 6) (v := (.bool true)) rfl (by kernel_rfl) (by kernel_rfl) (by kernel_rfl) rfl H21 (fun _ _ => by kernel_rfl) ?_
            refine r_take (i := 7) (v := (.bool true)) rfl (by kernel_rfl) (by kernel_rfl) (by kernel_rfl) rfl H21 (fun _ _ => by kernel_rfl) ?_
            refine r_pass (i := 8) rfl (by kernel_rfl) (by kernel_rfl) (by kernel_rfl) rfl H21 ?_
            refine r_pass (i := 9) rfl (by kernel_rfl) (by kernel_rfl) (by kernel_rfl) rfl H21 ?_
            refine r_pass (i := 10) rfl (by kernel_rfl) (by kernel_rfl) (by kernel_rfl) rfl H21 ?_
            refine r_pass (i := 11) rfl (by kernel_rfl) (by kernel_rfl) (by kernel_rfl) rfl H21 ?_
            refine r_pass (i := 12) rfl (by kernel_rfl) (by kernel_rfl) (by kernel_rfl) rfl H21 ?_
            refine r_take (i := 13) (v := (.bool true)) rfl (by kernel_rfl) (by kernel_rfl) (by kernel_rfl) rfl H21 (fun _ _ => by kernel_rfl) ?_
            refine r_take (i := 14) (v := (.bool true)) rfl (by kernel_rfl) (by kernel_rfl) (by kernel_rfl) rfl H21 (fun _ _ => by kernel_rfl) ?_
            refine r_pass (i := 15) rfl (by kernel_rfl) (by kernel_rfl) (by kernel_rfl) rfl H21 ?_
            refine r_pass (i := 16) rfl (by kernel_rfl) (by kernel_rfl) (by kernel_rfl) rfl H21 ?_
            refine r_pass (i := 17) rfl (by kernel_rfl) (by kernel_rfl) (by kernel_rfl) rfl H21 ?_
            refine r_pass (i := 18) rfl (by kernel_rfl) (by kernel_rfl) (by kernel_rfl) rfl H21 ?_
            refine r_pass (i := 19) rfl (by kernel_rfl) (by kernel_rfl) (by kernel_rfl) rfl H21 ?_
            refine r_take (i := 20) (v := (.bool true)) rfl (by kernel_rfl) (by kernel_rfl) (by kernel_rfl) rfl H21 (fun _ _ => by kernel_rfl) ?_
            refine r_take (i := 21) (v := (.bool true)) rfl (by kernel_rfl) (by kernel_rfl) (by kernel_rfl) rfl H21 (fun _ _ => by kernel_rfl) ?_
            refine r_pass (i := 22) rfl (by kernel_rfl) (by kernel_rfl) (by kernel_rfl) rfl H21 ?_
            refine r_pass (i := 23) rfl (by kernel_rfl) (by kernel_rfl) (by kernel_rfl) rfl H21 ?_
            refine r_pass (i := 24) rfl (by kernel_rfl) (by kernel_rfl) (by kernel_rfl) rfl H21 ?_
            refine r_pass (i := 25) rfl (by kernel_rfl) (by kernel_rfl) (by kernel_rfl) rfl H21 ?_
            refine r_pass (i := 26) rfl (by kernel_rfl) (by kernel_rfl) (by kernel_rfl) rfl H21 ?_
            refine r_pass (i := 27) rfl (by kernel_rfl) (by kernel_rfl) (by kernel_rfl) rfl H21 ?_
            refine r_pass (i := 28) rfl (by kernel_rfl) (by kernel_rfl) (by kernel_rfl) rfl H21 ?_
            refine r_pass (i := 29) rfl (by kernel_rfl) (by kernel_rfl) (by kernel_rfl) rfl H21 ?_
            refine r_pass (i := 30) rfl (by kernel_rfl) (by kernel_rfl) (by kernel_rfl) rfl H21 ?_
            refine r_pass (i := 31) rfl (by kernel_rfl) (by kernel_rfl) (by kernel_rfl) rfl H21 ?_
            refine r_pass (i := 32) rfl (by kernel_rfl) (by kernel_rfl) (by kernel_rfl) rfl H21 ?_
            refine r_pass (i := 33) rfl (by kernel_rfl) (by kernel_rfl) (by kernel_rfl) rfl H21 ?_
            refine r_pass (i := 34) rfl (by kernel_rfl) (by kernel_rfl) (by kernel_rfl) rfl H21 ?_
            refine r_pass (i := 35) rfl (by kernel_rfl) (by kernel_rfl) (by kernel_rfl) rfl H21 ?_
            refine r_pass (i := 36) rfl (by kernel_rfl) (by kernel_rfl) (by kernel_rfl) rfl H21 ?_
            refine r_pass (i := 37) rfl (by kernel_rfl) (by kernel_rfl) (by kernel_rfl) rfl H21 ?_
            refine r_pass (i := 38) rfl (by kernel_rfl) (by kernel_rfl) (by kernel_rfl) rfl H21 ?_
            refine r_pass (i := 39) rfl (by kernel_rfl) (by kernel_rfl) (by kernel_rfl) rfl H21 ?_
            refine r_take (i := 40) (v := (.bool true)) rfl (by kernel_rfl) (by kernel_rfl) (by kernel_rfl) rfl H21 (fun _ _ => by kernel_rfl) ?_
            refine r_done (by kernel_rfl) ?_
            refine n_then ?_
            refine k_true (by kernel_rfl) ?_
            refine wp_seq ?_
            refine k_list ?_
            refine l_cons (ev_run (v := (.bool false)) (w1 := w17.drew) rfl rfl (by kernel_rfl) ?_)
            refine l_nil ?_
            refine n_then ?_
            refine wp_ret ?_
            refine r_then ?_
            refine r_in ?_
            refine r_then ?_
            refine r_then ?_
            refine r_in ?_
            refine r_then ?_
            refine b_ret (v := (.bool false)) (resS rfl (.tmp (by kernel_rfl) .nil)) ?_
            exfalso; omega
          · skip
            refine r_take_eq (i := 5) (v := (.bool (decide ((((i : Nat) : Int) : Int) < 0)))) (v' := (.bool false)) rfl (by kernel_rfl) (by kernel_rfl) (by kernel_rfl) rfl H21 (fun _ _ => by kernel_rfl) (bf (by first | assumption | omega)) ?_
            refine r_take (i := 6) (v := (.bool false)) rfl (by kernel_rfl) (by kernel_rfl) (by kernel_rfl) rfl H21 (fun _ _ => by kernel_rfl) ?_
            refine r_take (i := 7) (v := (.bool false)) rfl (by kernel_rfl) (by kernel_rfl) (by kernel_rfl) rfl H21 (fun _ _ => by kernel_rfl) ?_
            refine r_take (i := 8) (v := (.pointer (some (⟨g3, 0, none⟩)))) rfl (by kernel_rfl) (by kernel_rfl) (by kernel_rfl) rfl H21 (fun _ _ => by kernel_rfl) ?_
            refine r_take (i := 9) (v := (.int .i64 (((i : Nat) : Int)))) rfl (by kernel_rfl) (by kernel_rfl) (by kernel_rfl) rfl H21 (fun w_ hs_ => (run_ld rfl (by kernel_rfl) (At.blk (hs_.get 0 rfl) 0) (by kernel_rfl))) ?_
            refine r_take (i := 10) (v := (.slice (some (ad)) l.length c)) rfl (by kernel_rfl) (by kernel_rfl) (by kernel_rfl) rfl H21 (fun _ _ => by kernel_rfl) ?_
            refine r_take (i := 11) (v := (.int .i64 (((l.length : Nat) : Int)))) rfl (by kernel_rfl) (by kernel_rfl) (by kernel_rfl) rfl H21 (fun _ _ => by kernel_rfl) ?_
            by_cases hc3 : (((i : Nat) : Int) : Int) ≥ ((l.length : Nat) : Int)
            · skip
              refine r_take_eq (i := 12) (v := (.bool (decide ((((i : Nat) : Int) : Int) ≥ ((l.length : Nat) : Int))))) (v' := (.bool true)) rfl (by kernel_rfl) (by kernel_rfl) (by kernel_rfl) rfl H21 (fun _ _ => by kernel_rfl) (bt (by first | assumption | omega)) ?_
              refine r_take (i := 13) (v := (.bool true)) rfl (by kernel_rfl) (by kernel_rfl) (by kernel_rfl) rfl H21 (fun _ _ => by kernel_rfl) ?_
              refine r_take (i := 14) (v := (.bool true)) rfl (by kernel_rfl) (by kernel_rfl) (by kernel_rfl) rfl H21 (fun _ _ => by kernel_rfl) ?_
              refine r_pass (i := 15) rfl (by kernel_rfl) (by kernel_rfl) (by kernel_rfl) rfl H21 ?_
              refine r_pass (i := 16) rfl (by kernel_rfl) (by kernel_rfl) (by kernel_rfl) rfl H21 ?_
              refine r_pass (i := 17) rfl (by kernel_rfl) (by kernel_rfl) (by kernel_rfl) rfl H21 ?_
              refine r_pass (i := 18) rfl (by kernel_rfl) (by kernel_rfl) (by kernel_rfl) rfl H21 ?_
              refine r_pass (i := 19) rfl (by kernel_rfl) (by kernel_rfl) (by kernel_rfl) rfl H21 ?_
              refine r_take (i := 20) (v := (.bool true)) rfl (by kernel_rfl) (by kernel_rfl) (by kernel_rfl) rfl H21 (fun _ _ => by kernel_rfl) ?_
              refine r_take (i := 21) (v := (.bool true)) rfl (by kernel_rfl) (by kernel_rfl) (by kernel_rfl) rfl H21 (fun _ _ => by kernel_rfl) ?_
              refine r_pass (i := 22) rfl (by kernel_rfl) (by kernel_rfl) (by kernel_rfl) rfl H21 ?_
              refine r_pass (i := 23) rfl (by kernel_rfl) (by kernel_rfl) (by kernel_rfl) rfl H21 ?_
              refine r_pass (i := 24) rfl (by kernel_rfl) (by kernel_rfl) (by kernel_rfl) rfl H21 ?_
              refine r_pass (i := 25) rfl (by kernel_rfl) (by kernel_rfl) (by kernel_rfl) rfl H21 ?_
              refine r_pass (i := 26) rfl (by kernel_rfl) (by kernel_rfl) (by kernel_rfl) rfl H21 ?_
              refine r_pass (i := 27) rfl (by kernel_rfl) (by kernel_rfl) (by kernel_rfl) rfl H21 ?_
              refine r_pass (i := 28) rfl (by kernel_rfl) (by kernel_rfl) (by kernel_rfl) rfl H21 ?_
              refine r_pass (i := 29) rfl (by kernel_rfl) (by kernel_rfl) (by kernel_rfl) rfl H21 ?_
              refine r_pass (i := 30) rfl (by kernel_rfl) (by kernel_rfl) (by kernel_rfl) rfl H21 ?_
              refine r_pass (i := 31) rfl (by kernel_rfl) (by kernel_rfl) (by kernel_rfl) rfl H21 ?_
              refine r_pass (i := 32) rfl (by kernel_rfl) (by kernel_rfl) (by kernel_rfl) rfl H21 ?_
              refine r_pass (i := 33) rfl (by kernel_rfl) (by kernel_rfl) (by kernel_rfl) rfl H21 ?_
              refine r_pass (i := 34) rfl (by kernel_rfl) (by kernel_rfl) (by kernel_rfl) rfl H21 ?_
              refine r_pass (i := 35) rfl (by kernel_rfl) (by kernel_rfl) (by kernel_rfl) rfl H21 ?_
              refine r_pass (i := 36) rfl (by kernel_rfl) (by kernel_rfl) (by kernel_rfl) rfl H21 ?_
              refine r_pass (i := 37) rfl (by kernel_rfl) (by kernel_rfl) (by kernel_rfl) rfl H21 ?_
              refine r_pass (i := 38) rfl (by kernel_rfl) (by kernel_rfl) (by kernel_rfl) rfl H21 ?_
              refine r_pass (i := 39) rfl (by kernel_rfl) (by kernel_rfl) (by kernel_rfl) rfl H21 ?_
              refine r_take (i := 40) (v := (.bool true)) rfl (by kernel_rfl) (by kernel_rfl) (by kernel_rfl) rfl H21 (fun _ _ => by kernel_rfl) ?_
              refine r_done (by kernel_rfl) ?_
              refine n_then ?_
              refine k_true (by kernel_rfl) ?_
              refine wp_seq ?_
              refine k_list ?_
              refine l_cons (ev_run (v := (.bool false)) (w1 := w17.drew) rfl rfl (by kernel_rfl) ?_)
              refine l_nil ?_
              refine n_then ?_
              refine wp_ret ?_
              refine r_then ?_
              refine r_in ?_
              refine r_then ?_
              refine r_then ?_
              refine r_in ?_
              refine r_then ?_
              refine b_ret (v := (.bool false)) (resS rfl (.tmp (by kernel_rfl) .nil)) ?_
              exfalso; omega
            · skip
              refine r_take_eq (i := 12) (v := (.bool (decide ((((i : Nat) : Int) : Int) ≥ ((l.length : Nat) : Int))))) (v' := (.bool false)) rfl (by kernel_rfl) (by kernel_rfl) (by kernel_rfl) rfl H21 (fun _ _ => by kernel_rfl) (bf (by first | assumption | omega)) ?_
              refine r_take (i := 13) (v := (.bool false)) rfl (by kernel_rfl) (by kernel_rfl) (by kernel_rfl) rfl H21 (fun _ _ => by kernel_rfl) ?_
              refine r_take (i := 14) (v := (.bool false)) rfl (by kernel_rfl) (by kernel_rfl) (by kernel_rfl) rfl H21 (fun _ _ => by kernel_rfl) ?_
              refine r_take (i := 15) (v := (.slice (some (⟨gs, 0, none⟩)) l.length cm1)) rfl (by kernel_rfl) (by kernel_rfl) (by kernel_rfl) rfl H21 (fun _ _ => by kernel_rfl) ?_
              refine r_take (i := 16) (v := (.pointer (some (⟨g3, 0, none⟩)))) rfl (by kernel_rfl) (by kernel_rfl) (by kernel_rfl) rfl H21 (fun _ _ => by kernel_rfl) ?_
              refine r_take (i := 17) (v := (.int .i64 (((i : Nat) : Int)))) rfl (by kernel_rfl) (by kernel_rfl) (by kernel_rfl) rfl H21 (fun w_ hs_ => (run_ld rfl (by kernel_rfl) (At.blk (hs_.get 0 rfl) 0) (by kernel_rfl))) ?_
              refine r_take (i := 18) (v := (.pointer (some (((⟨gs, 0, none⟩ : Addr)).add (i * 1))))) rfl (by kernel_rfl) (by kernel_rfl) (by kernel_rfl) rfl H21 (fun w_ hs_ => (run_ixa (sz := 1) (q := i) (ad := ⟨gs, 0, none⟩) (len := l.length) (cap := cm1) (k := .i64) (z := ((i : Nat) : Int)) rfl (by kernel_rfl) (by kernel_rfl) rfl (by kernel_rfl) (by first | rfl | omega) (by first | omega | decide))) ?_
              refine r_take (i := 19) (v := (.bool false)) rfl (by kernel_rfl) (by kernel_rfl) (by kernel_rfl) rfl H21 (fun w_ hs_ => (run_ld rfl (by kernel_rfl) (At_scal (h1 := fun _ => rfl) (xs := sn) (enc := Value.bool) (hs_.get 2 rfl) i _ hs) (by kernel_rfl))) ?_
              refine r_take (i := 20) (v := (.bool false)) rfl (by kernel_rfl) (by kernel_rfl) (by kernel_rfl) rfl H21 (fun _ _ => by kernel_rfl) ?_
              refine r_take (i := 21) (v := (.bool false)) rfl (by kernel_rfl) (by kernel_rfl) (by kernel_rfl) rfl H21 (fun _ _ => by kernel_rfl) ?_
              refine r_take (i := 22) (v := (.agg #[(.int .i64 (((i : Nat) : Int))), (.int .i64 x.f1), (.slice Atk x.f2.length ct)])) rfl (by kernel_rfl) (by kernel_rfl) (by kernel_rfl) rfl H21 (fun w_ hs_ => (run_ld rfl (by kernel_rfl) (At.blk (hs_.get 0 rfl) 0) (by kernel_rfl))) ?_
              refine r_take (i := 23) (v := (.pointer (some (⟨g3, 0, none⟩)))) rfl (by kernel_rfl) (by kernel_rfl) (by kernel_rfl) rfl H21 (fun _ _ => by kernel_rfl) ?_
              refine r_take (i := 24) (v := (.int .i64 (((i : Nat) : Int)))) rfl (by kernel_rfl) (by kernel_rfl) (by kernel_rfl) rfl H21 (fun w_ hs_ => (run_ld rfl (by kernel_rfl) (At.blk (hs_.get 0 rfl) 0) (by kernel_rfl))) ?_
              refine r_take (i := 25) (v := (.slice (some (ad)) l.length c)) rfl (by kernel_rfl) (by kernel_rfl) (by kernel_rfl) rfl H21 (fun _ _ => by kernel_rfl) ?_
              refine r_take (i := 26) (v := (.pointer (some (⟨g3, 0, none⟩)))) rfl (by kernel_rfl) (by kernel_rfl) (by kernel_rfl) rfl H21 (fun _ _ => by kernel_rfl) ?_
              refine r_take (i := 27) (v := (.int .i64 (((i : Nat) : Int)))) rfl (by kernel_rfl) (by kernel_rfl) (by kernel_rfl) rfl H21 (fun w_ hs_ => (run_ld rfl (by kernel_rfl) (At.blk (hs_.get 0 rfl) 0) (by kernel_rfl))) ?_
              refine r_take (i := 28) (v := (.pointer (some ((ad).add (i * 3))))) rfl (by kernel_rfl) (by kernel_rfl) (by kernel_rfl) rfl H21 (fun w_ hs_ => (run_ixa (sz := 3) (q := i) (ad := ad) (len := l.length) (cap := c) (k := .i64) (z := ((i : Nat) : Int)) rfl (by kernel_rfl) (by kernel_rfl) rfl (by kernel_rfl) (by first | rfl | omega) (by first | omega | decide))) ?_
              refine r_take (i := 29) (v := (.pointer (some (((ad).add (i * 3)).add 1)))) rfl (by kernel_rfl) (by kernel_rfl) (by kernel_rfl) rfl H21 (fun _ _ => by kernel_rfl) ?_
              refine r_take (i := 30) (v := (.int .i64 x.f1)) rfl (by kernel_rfl) (by kernel_rfl) (by kernel_rfl) rfl H21 (fun w_ hs_ => (run_ld rfl (by kernel_rfl) (At.field (At.hp hxA hs_ (fun h => h)) 1) (by kernel_rfl))) ?_
              refine r_take (i := 31) (v := (.slice (some (ad)) l.length c)) rfl (by kernel_rfl) (by kernel_rfl) (by kernel_rfl) rfl H21 (fun _ _ => by kernel_rfl) ?_
              refine r_take (i := 32) (v := (.pointer (some (⟨g3, 0, none⟩)))) rfl (by kernel_rfl) (by kernel_rfl) (by kernel_rfl) rfl H21 (fun _ _ => by kernel_rfl) ?_
              refine r_take (i := 33) (v := (.int .i64 (((i : Nat) : Int)))) rfl (by kernel_rfl) (by kernel_rfl) (by kernel_rfl) rfl H21 (fun w_ hs_ => (run_ld rfl (by kernel_rfl) (At.blk (hs_.get 0 rfl) 0) (by kernel_rfl))) ?_
              refine r_take (i := 34) (v := (.pointer (some ((ad).add (i * 3))))) rfl (by kernel_rfl) (by kernel_rfl) (by kernel_rfl) rfl H21 (fun w_ hs_ => (run_ixa (sz := 3) (q := i) (ad := ad) (len := l.length) (cap := c) (k := .i64) (z := ((i : Nat) : Int)) rfl (by kernel_rfl) (by kernel_rfl) rfl (by kernel_rfl) (by first | rfl | omega) (by first | omega | decide))) ?_
              refine r_take (i := 35) (v := (.pointer (some (((ad).add (i * 3)).add 2)))) rfl (by kernel_rfl) (by kernel_rfl) (by kernel_rfl) rfl H21 (fun _ _ => by kernel_rfl) ?_
              refine r_take (i := 36) (v := (.slice A2 x.f2.length c2)) rfl (by kernel_rfl) (by kernel_rfl) (by kernel_rfl) rfl H21 (fun w_ hs_ => (run_ld rfl (by kernel_rfl) (At.field (At.hp hxA hs_ (fun h => h)) 2) (by kernel_rfl))) ?_
              refine r_take (i := 37) (v := (.agg #[(.int .i64 (((i : Nat) : Int))), (.int .i64 x.f1), (.slice A2 x.f2.length c2)])) rfl (by kernel_rfl) (by kernel_rfl) (by kernel_rfl) rfl H21 (fun _ _ => by kernel_rfl) ?_
              refine r_one (i := 38) (by kernel_rfl) rfl (ev_call (by kernel_rfl) rfl (f := 17) (args := #[(.agg #[(.int .i64 (((i : Nat) : Int))), (.int .i64 x.f1), (.slice Atk x.f2.length ct)]), (.agg #[(.int .i64 (((i : Nat) : Int))), (.int .i64 x.f1), (.slice A2 x.f2.length c2)])]) (by kernel_rfl) (same_true _ _ _ _ x.f2 _ (Rd_of (byR_le (H21.get 1 rfl)) (byR_C (H21.get 1 rfl))) (Rd_of lx2 (C_to gx2 H21))) ?_)
              rintro e w18 ⟨rfl, hb_⟩
              refine ⟨_, rfl, ?_⟩
              have H22 := H21.below hb_
              refine ⟨fun _ => H22, ?_⟩
              refine r_take (i := 39) (v := (.bool false)) rfl (by kernel_rfl) (by kernel_rfl) (by kernel_rfl) rfl H22 (fun _ _ => by kernel_rfl) ?_
              refine r_take (i := 40) (v := (.bool false)) rfl (by kernel_rfl) (by kernel_rfl) (by kernel_rfl) rfl H22 (fun _ _ => by kernel_rfl) ?_
              refine r_done (by kernel_rfl) ?_
              refine n_then ?_
              refine k_false (by kernel_rfl) ?_
              refine wp_skip ?_
              refine n_then ?_
              refine wp_seq ?_
              refine k_list ?_
              refine l_cons (ev_run (v := (.slice (some (⟨gs, 0, none⟩)) l.length cm1)) (w1 := w18) rfl rfl (by kernel_rfl) ?_)
              refine l_cons (ev_run (v := (.pointer (some (⟨g3, 0, none⟩)))) (w1 := w18) rfl rfl (by kernel_rfl) ?_)
              refine l_cons (ev_run (v := (.int .i64 (((i : Nat) : Int)))) (w1 := w18) rfl rfl (run_ld rfl (by kernel_rfl) (At.blk (H22.get 0 rfl) 0) (by kernel_rfl)) ?_)
              refine l_cons (ev_run (v := (.pointer (some (((⟨gs, 0, none⟩ : Addr)).add (i * 1))))) (w1 := w18) rfl rfl (run_ixa (sz := 1) (q := i) (ad := ⟨gs, 0, none⟩) (len := l.length) (cap := cm1) (k := .i64) (z := ((i : Nat) : Int)) rfl (by kernel_rfl) (by kernel_rfl) rfl (by kernel_rfl) (by first | rfl | omega) (by first | omega | decide)) ?_)
              refine l_cons (ev_setscal (enc := Value.bool) (k := 2) (g := gs) (m := l.length) (c := cm1) (j := i) (xs := sn) (fun _ => rfl) rfl rfl rfl H22 rfl (by kernel_rfl) true (by kernel_rfl) (by kernel_rfl) (by omega) ?_)
              intro w19 H23 hcw19
              refine l_nil ?_
              refine n_then ?_
              refine wp_seq ?_
              refine k_list ?_
              refine l_cons (ev_run (v := (.int .i64 (((k : Nat) : Int)))) (w1 := w19) rfl rfl (by kernel_rfl) ?_)
              refine l_cons (ev_run (v := (.slice (some (ad)) l.length c)) (w1 := w19) rfl rfl (by kernel_rfl) ?_)
              refine l_cons (ev_run (v := (.int .i64 (((l.length : Nat) : Int)))) (w1 := w19) rfl rfl (by kernel_rfl) ?_)
              by_cases hc4 : (((k : Nat) : Int) : Int) > ((l.length : Nat) : Int)
              · skip
                refine l_cons (ev_eq (v := (.bool (decide ((((k : Nat) : Int) : Int) > ((l.length : Nat) : Int))))) (v' := (.bool true)) (w1 := w19) rfl rfl (by kernel_rfl) (bt (by first | assumption | omega)) ?_)
                refine l_nil ?_
                refine n_then ?_
                refine k_true (by kernel_rfl) ?_
                refine wp_seq ?_
                refine k_list ?_
                refine l_cons (ev_run (v := (.bool false)) (w1 := w19) rfl rfl (by kernel_rfl) ?_)
                refine l_nil ?_
                refine n_then ?_
                refine wp_ret ?_
                refine r_in ?_
                refine r_then ?_
                refine r_then ?_
                refine r_in ?_
                refine r_then ?_
                refine b_ret (v := (.bool false)) (resS rfl (.tmp (by kernel_rfl) .nil)) ?_
                exfalso; omega
              · skip
                refine l_cons (ev_eq (v := (.bool (decide ((((k : Nat) : Int) : Int) > ((l.length : Nat) : Int))))) (v' := (.bool false)) (w1 := w19) rfl rfl (by kernel_rfl) (bf (by first | assumption | omega)) ?_)
                refine l_nil ?_
                refine n_then ?_
                refine k_false (by kernel_rfl) ?_
                refine wp_skip ?_
                refine n_in ?_
                refine n_then ?_
                refine k_list ?_
                refine l_cons (ev_run (v := (.int .i64 (((k : Nat) : Int)))) (w1 := w19) rfl rfl (by kernel_rfl) ?_)
                refine l_cons (ev_eq (v := (.int .i64 (IntKind.i64.wrap (((k : Nat) : Int) + 1)))) (v' := (.int .i64 ((((k : Nat) : Int) + 1)))) (w1 := w19) rfl rfl (by kernel_rfl) (wr64 (by omega) (by omega)) ?_)
                refine l_cons (ev_run (v := (.int .i64 ((((k : Nat) : Int) + 1)))) (w1 := w19) rfl rfl (by kernel_rfl) ?_)
                refine l_nil ?_
                refine n_then ?_
                exact k_round (k + 1, L.eraseIdx (pn % L.length), (sn).set i true, F) ⟨(by first | rfl | kernel_rfl), (by first | rfl | kernel_rfl), (by first | rfl | kernel_rfl), (by first | rfl | kernel_rfl), (by first | rfl | kernel_rfl), trivial⟩ ⟨hI2, H23.sel [2, 3] (by decide)⟩ (by first | omega | (simp; omega))
        · skip
          obtain ⟨adp, rfl⟩ := C_some hP (by omega) 0
          have hpa := C_scal_at hP 0 k hk
          refine l_cons (ev_run (v := (.int .i64 (((k : Nat) : Int)))) (w1 := w13) rfl rfl (by kernel_rfl) ?_)
          refine l_cons (ev_run (v := (.slice (some (adp)) picks.length cp)) (w1 := w13) rfl rfl (by kernel_rfl) ?_)
          refine l_cons (ev_run (v := (.int .i64 (((picks.length : Nat) : Int)))) (w1 := w13) rfl rfl (by kernel_rfl) ?_)
          refine l_cons (ev_eq (v := (.bool (decide ((((k : Nat) : Int) : Int) < ((picks.length : Nat) : Int))))) (v' := (.bool true)) (w1 := w13) rfl rfl (by kernel_rfl) (bt (by first | assumption | omega)) ?_)
          refine l_cons (ev_run (v := (.bool true)) (w1 := w13) rfl rfl (by kernel_rfl) ?_)
          refine l_cons (ev_run (v := (.slice (some (adp)) picks.length cp)) (w1 := w13) (by kernel_rfl) rfl (by kernel_rfl) ?_)
          refine l_cons (ev_run (v := (.int .i64 (((k : Nat) : Int)))) (w1 := w13) (by kernel_rfl) rfl (by kernel_rfl) ?_)
          refine l_cons (ev_run (v := (.pointer (some ((adp).add (k * 1))))) (w1 := w13) (by kernel_rfl) rfl (run_ixa (sz := 1) (q := k) (ad := adp) (len := picks.length) (cap := cp) (k := .i64) (z := ((k : Nat) : Int)) rfl (by kernel_rfl) (by kernel_rfl) rfl (by kernel_rfl) (by first | rfl | omega) (by first | omega | decide)) ?_)
          refine l_cons (ev_run (v := (.int .i64 (picks.getD k 0))) (w1 := w13) (by kernel_rfl) rfl (run_ld rfl (by kernel_rfl) (At.hp hpa H15 (fun h => h)) (by kernel_rfl)) ?_)
          refine l_cons (ev_eq (v := (.bool (decide ((picks.getD k 0 : Int) ≥ 0)))) (v' := (.bool false)) (w1 := w13) (by kernel_rfl) rfl (by kernel_rfl) (bf (by first | assumption | omega)) ?_)
          refine l_cons (ev_run (v := (.bool false)) (w1 := w13) rfl rfl (by kernel_rfl) ?_)
          refine l_nil ?_
          refine n_then ?_
          refine k_false (by kernel_rfl) ?_
          refine wp_skip ?_
          refine n_then ?_
          refine wp_seq ?_
          refine k_list ?_
          refine l_cons (ev_run (v := (.pointer (some (⟨g, 0, none⟩)))) (w1 := w13) rfl rfl (by kernel_rfl) ?_)
          refine l_cons (ev_run (v := (.int .i64 0)) (w1 := w13) rfl rfl (by kernel_rfl) ?_)
          obtain ⟨i, hi, hx, hs, hI2⟩ := hI.step 0 (by omega)
          obtain ⟨x, A2, c2, hxe, hxA, lx2, gx2⟩ := elem29 hC i hi
          have hti : tgAt l i = ⟨((i : Nat) : Int), x.f1, x.f2⟩ := by rw [hxe]; rfl
          rw [hti] at hx
          refine l_cons (ev_call rfl rfl (f := 15) (args := #[(.pointer (some (⟨g, 0, none⟩))), (.int .i64 0)]) (by kernel_rfl) (takeH _ g F L (H15.get 1 rfl) 0 (by omega) _ hx) ?_)
          rintro e w20 ⟨Atk, ct, rfl, hby, hfb, hG, hcw20⟩
          refine ⟨_, rfl, ?_⟩
          have H24 := H15.upd2 1 rfl hcw20 (bagR g F (L.eraseIdx 0)) (byR Atk x.f2.length ct x.f2) hG hby (fun _ h => h) hfb
          obtain ⟨gs, rfl⟩ := rowR_some (H24.get 1 rfl) (by omega)
          refine l_cons (ev_run (v := (.tuple #[(.agg #[(.int .i64 (((i : Nat) : Int))), (.int .i64 x.f1), (.slice Atk x.f2.length ct)]), (.int .i64 0)])) (w1 := w20) rfl rfl (by kernel_rfl) ?_)
          refine l_cons (ev_run (v := (.agg #[(.int .i64 (((i : Nat) : Int))), (.int .i64 x.f1), (.slice Atk x.f2.length ct)])) (w1 := w20) rfl rfl (by kernel_rfl) ?_)
          refine l_cons (ev_run (v := (.int .i64 0)) (w1 := w20) rfl rfl (by kernel_rfl) ?_)
          refine l_cons (ev_new (cs := [(.int .i64 0), (.int .i64 0), (.slice none 0 0)]) (t := 29) rfl rfl H24 (by kernel_rfl) ?_)
          intro g4 w21 H25 hg4 hbw21
          refine l_cons (ev_store (i := 0) rfl rfl rfl H25 (k := 0) rfl (by kernel_rfl) (.agg #[(.int .i64 (((i : Nat) : Int))), (.int .i64 x.f1), (.slice Atk x.f2.length ct)]) (by kernel_rfl) [(.int .i64 (((i : Nat) : Int))), (.int .i64 x.f1), (.slice Atk x.f2.length ct)] (by kernel_rfl) (by kernel_rfl) (by kernel_rfl) (by kernel_rfl) [(.int .i64 (((i : Nat) : Int))), (.int .i64 x.f1), (.slice Atk x.f2.length ct)] (by kernel_rfl) ?_)
          intro w22 H26 hcw22
          refine l_cons (ev_run (v := (.int .i64 0)) (w1 := w22) rfl rfl (by kernel_rfl) ?_)
          refine l_nil ?_
          refine n_then ?_
          refine wp_seq ?_
          refine wp_seq ?_
          refine r_start (m := 41) (fun j => false) (fun w' => Hp (fun _ => False) w w' [blk g4 [(.int .i64 (((i : Nat) : Int))), (.int .i64 x.f1), (.slice Atk x.f2.length ct)] 29, rowR 5 1 Atk x.f2.length ct (bts x.f2), rowR 4 1 (some (⟨gs, 0, none⟩)) l.length cm1 ((sn).map fun y => [Value.bool y]), bagR g F (L.eraseIdx 0)]) (by kernel_rfl) rfl (by kernel_rfl) (fun _ _ _ _ _ h => h) ?_
          have H27 := H26.drew
          refine r_take (i := 0) (v := (.int .i64 0)) rfl (by kernel_rfl) (by kernel_rfl) (by kernel_rfl) rfl H27 (fun _ _ => by kernel_rfl) ?_
          refine r_take (i := 1) (v := (.bool false)) rfl (by kernel_rfl) (by kernel_rfl) (by kernel_rfl) rfl H27 (fun _ _ => by kernel_rfl) ?_
          refine r_take (i := 2) (v := (.bool false)) rfl (by kernel_rfl) (by kernel_rfl) (by kernel_rfl) rfl H27 (fun _ _ => by kernel_rfl) ?_
          refine r_take (i := 3) (v := (.pointer (some (⟨g4, 0, none⟩)))) rfl (by kernel_rfl) (by kernel_rfl) (by kernel_rfl) rfl H27 (fun _ _ => by kernel_rfl) ?_
          refine r_take (i := 4) (v := (.int .i64 (((i : Nat) : Int)))) rfl (by kernel_rfl) (by kernel_rfl) (by kernel_rfl) rfl H27 (fun w_ hs_ => (run_ld rfl (by kernel_rfl) (At.blk (hs_.get 0 rfl) 0) (by kernel_rfl))) ?_
          by_cases hc5 : (((i : Nat) : Int) : Int) < 0
          · skip
            refine r_take_eq (i := 5) (v := (.bool (decide ((((i : Nat) : Int) : Int) < 0)))) (v' := (.bool true)) rfl (by kernel_rfl) (by kernel_rfl) (by kernel_rfl) rfl H27 (fun _ _ => by kernel_rfl) (bt (by first | assumption | omega)) ?_
            refine r_take (i := 6) (v := (.bool true)) rfl (by kernel_rfl) (by kernel_rfl) (by kernel_rfl) rfl H27 (fun _ _ => by kernel_rfl) ?_
            refine r_take (i := 7) (v := (.bool true)) rfl (by kernel_rfl) (by kernel_rfl) (by kernel_rfl) rfl H27 (fun _ _ => by kernel_rfl) ?_
            refine r_pass (i := 8) rfl (by kernel_rfl) (by kernel_rfl) (by kernel_rfl) rfl H27 ?_
            refine r_pass (i := 9) rfl (by kernel_rfl) (by kernel_rfl) (by kernel_rfl) rfl H27 ?_
            refine r_pass (i := 10) rfl (by kernel_rfl) (by kernel_rfl) (by kernel_rfl) rfl H27 ?_
            refine r_pass (i := 11) rfl (by kernel_rfl) (by kernel_rfl) (by kernel_rfl) rfl H27 ?_
            refine r_pass (i := 12) rfl (by kernel_rfl) (by kernel_rfl) (by kernel_rfl) rfl H27 ?_
            refine r_take (i := 13) (v := (.bool true)) rfl (by kernel_rfl) (by kernel_rfl) (by kernel_rfl) rfl H27 (fun _ _ => by kernel_rfl) ?_
            refine r_take (i := 14) (v := (.bool true)) rfl (by kernel_rfl) (by kernel_rfl) (by kernel_rfl) rfl H27 (fun _ _ => by kernel_rfl) ?_
            refine r_pass (i := 15) rfl (by kernel_rfl) (by kernel_rfl) (by kernel_rfl) rfl H27 ?_
            refine r_pass (i := 16) rfl (by kernel_rfl) (by kernel_rfl) (by kernel_rfl) rfl H27 ?_
            refine r_pass (i := 17) rfl (by kernel_rfl) (by kernel_rfl) (by kernel_rfl) rfl H27 ?_
            refine r_pass (i := 18) rfl (by kernel_rfl) (by kernel_rfl) (by kernel_rfl) rfl H27 ?_
            refine r_pass (i := 19) rfl (by kernel_rfl) (by kernel_rfl) (by kernel_rfl) rfl H27 ?_
            refine r_take (i := 20) (v := (.bool true)) rfl (by kernel_rfl) (by kernel_rfl) (by kernel_rfl) rfl H27 (fun _ _ => by kernel_rfl) ?_
            refine r_take (i := 21) (v := (.bool true)) rfl (by kernel_rfl) (by kernel_rfl) (by kernel_rfl) rfl H27 (fun _ _ => by kernel_rfl) ?_
            refine r_pass (i := 22) rfl (by kernel_rfl) (by kernel_rfl) (by kernel_rfl) rfl H27 ?_
            refine r_pass (i := 23) rfl (by kernel_rfl) (by kernel_rfl) (by kernel_rfl) rfl H27 ?_
            refine r_pass (i := 24) rfl (by kernel_rfl) (by kernel_rfl) (by kernel_rfl) rfl H27 ?_
            refine r_pass (i := 25) rfl (by kernel_rfl) (by kernel_rfl) (by kernel_rfl) rfl H27 ?_
            refine r_pass (i := 26) rfl (by kernel_rfl) (by kernel_rfl) (by kernel_rfl) rfl H27 ?_
            refine r_pass (i := 27) rfl (by kernel_rfl) (by kernel_rfl) (by kernel_rfl) rfl H27 ?_
            refine r_pass (i := 28) rfl (by kernel_rfl) (by kernel_rfl) (by kernel_rfl) rfl H27 ?_
            refine r_pass (i := 29) rfl (by kernel_rfl) (by kernel_rfl) (by kernel_rfl) rfl H27 ?_
            refine r_pass (i := 30) rfl (by kernel_rfl) (by kernel_rfl) (by kernel_rfl) rfl H27 ?_
            refine r_pass (i := 31) rfl (by kernel_rfl) (by kernel_rfl) (by kernel_rfl) rfl H27 ?_
            refine r_pass (i := 32) rfl (by kernel_rfl) (by kernel_rfl) (by kernel_rfl) rfl H27 ?_
            refine r_pass (i := 33) rfl (by kernel_rfl) (by kernel_rfl) (by kernel_rfl) rfl H27 ?_
            refine r_pass (i := 34) rfl (by kernel_rfl) (by kernel_rfl) (by kernel_rfl) rfl H27 ?_
            refine r_pass (i := 35) rfl (by kernel_rfl) (by kernel_rfl) (by kernel_rfl) rfl H27 ?_
            refine r_pass (i := 36) rfl (by kernel_rfl) (by kernel_rfl) (by kernel_rfl) rfl H27 ?_
            refine r_pass (i := 37) rfl (by kernel_rfl) (by kernel_rfl) (by kernel_rfl) rfl H27 ?_
            refine r_pass (i := 38) rfl (by kernel_rfl) (by kernel_rfl) (by kernel_rfl) rfl H27 ?_
            refine r_pass (i := 39) rfl (by kernel_rfl) (by kernel_rfl) (by kernel_rfl) rfl H27 ?_
            refine r_take (i := 40) (v := (.bool true)) rfl (by kernel_rfl) (by kernel_rfl) (by kernel_rfl) rfl H27 (fun _ _ => by kernel_rfl) ?_
            refine r_done (by kernel_rfl) ?_
            refine n_then ?_
            refine k_true (by kernel_rfl) ?_
            refine wp_seq ?_
            refine k_list ?_
            refine l_cons (ev_run (v := (.bool false)) (w1 := w22.drew) rfl rfl (by kernel_rfl) ?_)
            refine l_nil ?_
            refine n_then ?_
            refine wp_ret ?_
            refine r_then ?_
            refine r_in ?_
            refine r_then ?_
            refine r_then ?_
            refine r_in ?_
            refine r_then ?_
            refine b_ret (v := (.bool false)) (resS rfl (.tmp (by kernel_rfl) .nil)) ?_
            exfalso; omega
          · skip
            refine r_take_eq (i := 5) (v := (.bool (decide ((((i : Nat) : Int) : Int) < 0)))) (v' := (.bool false)) rfl (by kernel_rfl) (by kernel_rfl) (by kernel_rfl) rfl H27 (fun _ _ => by kernel_rfl) (bf (by first | assumption | omega)) ?_
            refine r_take (i := 6) (v := (.bool false)) rfl (by kernel_rfl) (by kernel_rfl) (by kernel_rfl) rfl H27 (fun _ _ => by kernel_rfl) ?_
            refine r_take (i := 7) (v := (.bool false)) rfl (by kernel_rfl) (by kernel_rfl) (by kernel_rfl) rfl H27 (fun _ _ => by kernel_rfl) ?_
            refine r_take (i := 8) (v := (.pointer (some (⟨g4, 0, none⟩)))) rfl (by kernel_rfl) (by kernel_rfl) (by kernel_rfl) rfl H27 (fun _ _ => by kernel_rfl) ?_
            refine r_take (i := 9) (v := (.int .i64 (((i : Nat) : Int)))) rfl (by kernel_rfl) (by kernel_rfl) (by kernel_rfl) rfl H27 (fun w_ hs_ => (run_ld rfl (by kernel_rfl) (At.blk (hs_.get 0 rfl) 0) (by kernel_rfl))) ?_
            refine r_take (i := 10) (v := (.slice (some (ad)) l.length c)) rfl (by kernel_rfl) (by kernel_rfl) (by kernel_rfl) rfl H27 (fun _ _ => by kernel_rfl) ?_
            refine r_take (i := 11) (v := (.int .i64 (((l.length : Nat) : Int)))) rfl (by kernel_rfl) (by kernel_rfl) (by kernel_rfl) rfl H27 (fun _ _ => by kernel_rfl) ?_
            by_cases hc6 : (((i : Nat) : Int) : Int) ≥ ((l.length : Nat) : Int)
            · skip
              refine r_take_eq (i := 12) (v := (.bool (decide ((((i : Nat) : Int) : Int) ≥ ((l.length : Nat) : Int))))) (v' := (.bool true)) rfl (by kernel_rfl) (by kernel_rfl) (by kernel_rfl) rfl H27 (fun _ _ => by kernel_rfl) (bt (by first | assumption | omega)) ?_
              refine r_take (i := 13) (v := (.bool true)) rfl (by kernel_rfl) (by kernel_rfl) (by kernel_rfl) rfl H27 (fun _ _ => by kernel_rfl) ?_
              refine r_take (i := 14) (v := (.bool true)) rfl (by kernel_rfl) (by kernel_rfl) (by kernel_rfl) rfl H27 (fun _ _ => by kernel_rfl) ?_
              refine r_pass (i := 15) rfl (by kernel_rfl) (by kernel_rfl) (by kernel_rfl) rfl H27 ?_
              refine r_pass (i := 16) rfl (by kernel_rfl) (by kernel_rfl) (by kernel_rfl) rfl H27 ?_
              refine r_pass (i := 17) rfl (by kernel_rfl) (by kernel_rfl) (by kernel_rfl) rfl H27 ?_
              refine r_pass (i := 18) rfl (by kernel_rfl) (by kernel_rfl) (by kernel_rfl) rfl H27 ?_
              refine r_pass (i := 19) rfl (by kernel_rfl) (by kernel_rfl) (by kernel_rfl) rfl H27 ?_
              refine r_take (i := 20) (v := (.bool true)) rfl (by kernel_rfl) (by kernel_rfl) (by kernel_rfl) rfl H27 (fun _ _ => by kernel_rfl) ?_
              refine r_take (i := 21) (v := (.bool true)) rfl (by kernel_rfl) (by kernel_rfl) (by kernel_rfl) rfl H27 (fun _ _ => by kernel_rfl) ?_
              refine r_pass (i := 22) rfl (by kernel_rfl) (by kernel_rfl) (by kernel_rfl) rfl H27 ?_
              refine r_pass (i := 23) rfl (by kernel_rfl) (by kernel_rfl) (by kernel_rfl) rfl H27 ?_
              refine r_pass (i := 24) rfl (by kernel_rfl) (by kernel_rfl) (by kernel_rfl) rfl H27 ?_
              refine r_pass (i := 25) rfl (by kernel_rfl) (by kernel_rfl) (by kernel_rfl) rfl H27 ?_
              refine r_pass (i := 26) rfl (by kernel_rfl) (by kernel_rfl) (by kernel_rfl) rfl H27 ?_
              refine r_pass (i := 27) rfl (by kernel_rfl) (by kernel_rfl) (by kernel_rfl) rfl H27 ?_
              refine r_pass (i := 28) rfl (by kernel_rfl) (by kernel_rfl) (by kernel_rfl) rfl H27 ?_
              refine r_pass (i := 29) rfl (by kernel_rfl) (by kernel_rfl) (by kernel_rfl) rfl H27 ?_
              refine r_pass (i := 30) rfl (by kernel_rfl) (by kernel_rfl) (by kernel_rfl) rfl H27 ?_
              refine r_pass (i := 31) rfl (by kernel_rfl) (by kernel_rfl) (by kernel_rfl) rfl H27 ?_
              refine r_pass (i := 32) rfl (by kernel_rfl) (by kernel_rfl) (by kernel_rfl) rfl H27 ?_
              refine r_pass (i := 33) rfl (by kernel_rfl) (by kernel_rfl) (by kernel_rfl) rfl H27 ?_
              refine r_pass (i := 34) rfl (by kernel_rfl) (by kernel_rfl) (by kernel_rfl) rfl H27 ?_
              refine r_pass (i := 35) rfl (by kernel_rfl) (by kernel_rfl) (by kernel_rfl) rfl H27 ?_
              refine r_pass (i := 36) rfl (by kernel_rfl) (by kernel_rfl) (by kernel_rfl) rfl H27 ?_
              refine r_pass (i := 37) rfl (by kernel_rfl) (by kernel_rfl) (by kernel_rfl) rfl H27 ?_
              refine r_pass (i := 38) rfl (by kernel_rfl) (by kernel_rfl) (by kernel_rfl) rfl H27 ?_
              refine r_pass (i := 39) rfl (by kernel_rfl) (by kernel_rfl) (by kernel_rfl) rfl H27 ?_
              refine r_take (i := 40) (v := (.bool true)) rfl (by kernel_rfl) (by kernel_rfl) (by kernel_rfl) rfl H27 (fun _ _ => by kernel_rfl) ?_
              refine r_done (by kernel_rfl) ?_
              refine n_then ?_
              refine k_true (by kernel_rfl) ?_
              refine wp_seq ?_
              refine k_list ?_
              refine l_cons (ev_run (v := (.bool false)) (w1 := w22.drew) rfl rfl (by kernel_rfl) ?_)
              refine l_nil ?_
              refine n_then ?_
              refine wp_ret ?_
              refine r_then ?_
              refine r_in ?_
              refine r_then ?_
              refine r_then ?_
              refine r_in ?_
              refine r_then ?_
              refine b_ret (v := (.bool false)) (resS rfl (.tmp (by kernel_rfl) .nil)) ?_
              exfalso; omega
            · skip
              refine r_take_eq (i := 12) (v := (.bool (decide ((((i : Nat) : Int) : Int) ≥ ((l.length : Nat) : Int))))) (v' := (.bool false)) rfl (by kernel_rfl) (by kernel_rfl) (by kernel_rfl) rfl H27 (fun _ _ => by kernel_rfl) (bf (by first | assumption | omega)) ?_
              refine r_take (i := 13) (v := (.bool false)) rfl (by kernel_rfl) (by kernel_rfl) (by kernel_rfl) rfl H27 (fun _ _ => by kernel_rfl) ?_
              refine r_take (i := 14) (v := (.bool false)) rfl (by kernel_rfl) (by kernel_rfl) (by kernel_rfl) rfl H27 (fun _ _ => by kernel_rfl) ?_
              refine r_take (i := 15) (v := (.slice (some (⟨gs, 0, none⟩)) l.length cm1)) rfl (by kernel_rfl) (by kernel_rfl) (by kernel_rfl) rfl H27 (fun _ _ => by kernel_rfl) ?_
              refine r_take (i := 16) (v := (.pointer (some (⟨g4, 0, none⟩)))) rfl (by kernel_rfl) (by kernel_rfl) (by kernel_rfl) rfl H27 (fun _ _ => by kernel_rfl) ?_
              refine r_take (i := 17) (v := (.int .i64 (((i : Nat) : Int)))) rfl (by kernel_rfl) (by kernel_rfl) (by kernel_rfl) rfl H27 (fun w_ hs_ => (run_ld rfl (by kernel_rfl) (At.blk (hs_.get 0 rfl) 0) (by kernel_rfl))) ?_
              refine r_take (i := 18) (v := (.pointer (some (((⟨gs, 0, none⟩ : Addr)).add (i * 1))))) rfl (by kernel_rfl) (by kernel_rfl) (by kernel_rfl) rfl H27 (fun w_ hs_ => (run_ixa (sz := 1) (q := i) (ad := ⟨gs, 0, none⟩) (len := l.length) (cap := cm1) (k := .i64) (z := ((i : Nat) : Int)) rfl (by kernel_rfl) (by kernel_rfl) rfl (by kernel_rfl) (by first | rfl | omega) (by first | omega | decide))) ?_
              refine r_take (i := 19) (v := (.bool false)) rfl (by kernel_rfl) (by kernel_rfl) (by kernel_rfl) rfl H27 (fun w_ hs_ => (run_ld rfl (by kernel_rfl) (At_scal (h1 := fun _ => rfl) (xs := sn) (enc := Value.bool) (hs_.get 2 rfl) i _ hs) (by kernel_rfl))) ?_
              refine r_take (i := 20) (v := (.bool false)) rfl (by kernel_rfl) (by kernel_rfl) (by kernel_rfl) rfl H27 (fun _ _ => by kernel_rfl) ?_
              refine r_take (i := 21) (v := (.bool false)) rfl (by kernel_rfl) (by kernel_rfl) (by kernel_rfl) rfl H27 (fun _ _ => by kernel_rfl) ?_
              refine r_take (i := 22) (v := (.agg #[(.int .i64 (((i : Nat) : Int))), (.int .i64 x.f1), (.slice Atk x.f2.length ct)])) rfl (by kernel_rfl) (by kernel_rfl) (by kernel_rfl) rfl H27 (fun w_ hs_ => (run_ld rfl (by kernel_rfl) (At.blk (hs_.get 0 rfl) 0) (by kernel_rfl))) ?_
              refine r_take (i := 23) (v := (.pointer (some (⟨g4, 0, none⟩)))) rfl (by kernel_rfl) (by kernel_rfl) (by kernel_rfl) rfl H27 (fun _ _ => by kernel_rfl) ?_
              refine r_take (i := 24) (v := (.int .i64 (((i : Nat) : Int)))) rfl (by kernel_rfl) (by kernel_rfl) (by kernel_rfl) rfl H27 (fun w_ hs_ => (run_ld rfl (by kernel_rfl) (At.blk (hs_.get 0 rfl) 0) (by kernel_rfl))) ?_
              refine r_take (i := 25) (v := (.slice (some (ad)) l.length c)) rfl (by kernel_rfl) (by kernel_rfl) (by kernel_rfl) rfl H27 (fun _ _ => by kernel_rfl) ?_
              refine r_take (i := 26) (v := (.pointer (some (⟨g4, 0, none⟩)))) rfl (by kernel_rfl) (by kernel_rfl) (by kernel_rfl) rfl H27 (fun _ _ => by kernel_rfl) ?_
              refine r_take (i := 27) (v := (.int .i64 (((i : Nat) : Int)))) rfl (by kernel_rfl) (by kernel_rfl) (by kernel_rfl) rfl H27 (fun w_ hs_ => (run_ld rfl (by kernel_rfl) (At.blk (hs_.get 0 rfl) 0) (by kernel_rfl))) ?_
              refine r_take (i := 28) (v := (.pointer (some ((ad).add (i * 3))))) rfl (by kernel_rfl) (by kernel_rfl) (by kernel_rfl) rfl H27 (fun w_ hs_ => (run_ixa (sz := 3) (q := i) (ad := ad) (len := l.length) (cap := c) (k := .i64) (z := ((i : Nat) : Int)) rfl (by kernel_rfl) (by kernel_rfl) rfl (by kernel_rfl) (by first | rfl | omega) (by first | omega | decide))) ?_
              refine r_take (i := 29) (v := (.pointer (some (((ad).add (i * 3)).add 1)))) rfl (by kernel_rfl) (by kernel_rfl) (by kernel_rfl) rfl H27 (fun _ _ => by kernel_rfl) ?_
              refine r_take (i := 30) (v := (.int .i64 x.f1)) rfl (by kernel_rfl) (by kernel_rfl) (by kernel_rfl) rfl H27 (fun w_ hs_ => (run_ld rfl (by kernel_rfl) (At.field (At.hp hxA hs_ (fun h => h)) 1) (by kernel_rfl))) ?_
              refine r_take (i := 31) (v := (.slice (some (ad)) l.length c)) rfl (by kernel_rfl) (by kernel_rfl) (by kernel_rfl) rfl H27 (fun _ _ => by kernel_rfl) ?_
              refine r_take (i := 32) (v := (.pointer (some (⟨g4, 0, none⟩)))) rfl (by kernel_rfl) (by kernel_rfl) (by kernel_rfl) rfl H27 (fun _ _ => by kernel_rfl) ?_
              refine r_take (i := 33) (v := (.int .i64 (((i : Nat) : Int)))) rfl (by kernel_rfl) (by kernel_rfl) (by kernel_rfl) rfl H27 (fun w_ hs_ => (run_ld rfl (by kernel_rfl) (At.blk (hs_.get 0 rfl) 0) (by kernel_rfl))) ?_
              refine r_take (i := 34) (v := (.pointer (some ((ad).add (i * 3))))) rfl (by kernel_rfl) (by kernel_rfl) (by kernel_rfl) rfl H27 (fun w_ hs_ => (run_ixa (sz := 3) (q := i) (ad := ad) (len := l.length) (cap := c) (k := .i64) (z := ((i : Nat) : Int)) rfl (by kernel_rfl) (by kernel_rfl) rfl (by kernel_rfl) (by first | rfl | omega) (by first | omega | decide))) ?_
              refine r_take (i := 35) (v := (.pointer (some (((ad).add (i * 3)).add 2)))) rfl (by kernel_rfl) (by kernel_rfl) (by kernel_rfl) rfl H27 (fun _ _ => by kernel_rfl) ?_
              refine r_take (i := 36) (v := (.slice A2 x.f2.length c2)) rfl (by kernel_rfl) (by kernel_rfl) (by kernel_rfl) rfl H27 (fun w_ hs_ => (run_ld rfl (by kernel_rfl) (At.field (At.hp hxA hs_ (fun h => h)) 2) (by kernel_rfl))) ?_
              refine r_take (i := 37) (v := (.agg #[(.int .i64 (((i : Nat) : Int))), (.int .i64 x.f1), (.slice A2 x.f2.length c2)])) rfl (by kernel_rfl) (by kernel_rfl) (by kernel_rfl) rfl H27 (fun _ _ => by kernel_rfl) ?_
              refine r_one (i := 38) (by kernel_rfl) rfl (ev_call (by kernel_rfl) rfl (f := 17) (args := #[(.agg #[(.int .i64 (((i : Nat) : Int))), (.int .i64 x.f1), (.slice Atk x.f2.length ct)]), (.agg #[(.int .i64 (((i : Nat) : Int))), (.int .i64 x.f1), (.slice A2 x.f2.length c2)])]) (by kernel_rfl) (same_true _ _ _ _ x.f2 _ (Rd_of (byR_le (H27.get 1 rfl)) (byR_C (H27.get 1 rfl))) (Rd_of lx2 (C_to gx2 H27))) ?_)
              rintro e w23 ⟨rfl, hb_⟩
              refine ⟨_, rfl, ?_⟩
              have H28 := H27.below hb_
              refine ⟨fun _ => H28, ?_⟩
              refine r_take (i := 39) (v := (.bool false)) rfl (by kernel_rfl) (by kernel_rfl) (by kernel_rfl) rfl H28 (fun _ _ => by kernel_rfl) ?_
              refine r_take (i := 40) (v := (.bool false)) rfl (by kernel_rfl) (by kernel_rfl) (by kernel_rfl) rfl H28 (fun _ _ => by kernel_rfl) ?_
              refine r_done (by kernel_rfl) ?_
              refine n_then ?_
              refine k_false (by kernel_rfl) ?_
              refine wp_skip ?_
              refine n_then ?_
              refine wp_seq ?_
              refine k_list ?_
              refine l_cons (ev_run (v := (.slice (some (⟨gs, 0, none⟩)) l.length cm1)) (w1 := w23) rfl rfl (by kernel_rfl) ?_)
              refine l_cons (ev_run (v := (.pointer (some (⟨g4, 0, none⟩)))) (w1 := w23) rfl rfl (by kernel_rfl) ?_)
              refine l_cons (ev_run (v := (.int .i64 (((i : Nat) : Int)))) (w1 := w23) rfl rfl (run_ld rfl (by kernel_rfl) (At.blk (H28.get 0 rfl) 0) (by kernel_rfl)) ?_)
              refine l_cons (ev_run (v := (.pointer (some (((⟨gs, 0, none⟩ : Addr)).add (i * 1))))) (w1 := w23) rfl rfl (run_ixa (sz := 1) (q := i) (ad := ⟨gs, 0, none⟩) (len := l.length) (cap := cm1) (k := .i64) (z := ((i : Nat) : Int)) rfl (by kernel_rfl) (by kernel_rfl) rfl (by kernel_rfl) (by first | rfl | omega) (by first | omega | decide)) ?_)
              refine l_cons (ev_setscal (enc := Value.bool) (k := 2) (g := gs) (m := l.length) (c := cm1) (j := i) (xs := sn) (fun _ => rfl) rfl rfl rfl H28 rfl (by kernel_rfl) true (by kernel_rfl) (by kernel_rfl) (by omega) ?_)
              intro w24 H29 hcw24
              refine l_nil ?_
              refine n_then ?_
              refine wp_seq ?_
              refine k_list ?_
              refine l_cons (ev_run (v := (.int .i64 (((k : Nat) : Int)))) (w1 := w24) rfl rfl (by kernel_rfl) ?_)
              refine l_cons (ev_run (v := (.slice (some (ad)) l.length c)) (w1 := w24) rfl rfl (by kernel_rfl) ?_)
              refine l_cons (ev_run (v := (.int .i64 (((l.length : Nat) : Int)))) (w1 := w24) rfl rfl (by kernel_rfl) ?_)
              by_cases hc7 : (((k : Nat) : Int) : Int) > ((l.length : Nat) : Int)
              · skip
                refine l_cons (ev_eq (v := (.bool (decide ((((k : Nat) : Int) : Int) > ((l.length : Nat) : Int))))) (v' := (.bool true)) (w1 := w24) rfl rfl (by kernel_rfl) (bt (by first | assumption | omega)) ?_)
                refine l_nil ?_
                refine n_then ?_
                refine k_true (by kernel_rfl) ?_
                refine wp_seq ?_
                refine k_list ?_
                refine l_cons (ev_run (v := (.bool false)) (w1 := w24) rfl rfl (by kernel_rfl) ?_)
                refine l_nil ?_
                refine n_then ?_
                refine wp_ret ?_
                refine r_in ?_
                refine r_then ?_
                refine r_then ?_
                refine r_in ?_
                refine r_then ?_
                refine b_ret (v := (.bool false)) (resS rfl (.tmp (by kernel_rfl) .nil)) ?_
                exfalso; omega
              · skip
                refine l_cons (ev_eq (v := (.bool (decide ((((k : Nat) : Int) : Int) > ((l.length : Nat) : Int))))) (v' := (.bool false)) (w1 := w24) rfl rfl (by kernel_rfl) (bf (by first | assumption | omega)) ?_)
                refine l_nil ?_
                refine n_then ?_
                refine k_false (by kernel_rfl) ?_
                refine wp_skip ?_
                refine n_in ?_
                refine n_then ?_
                refine k_list ?_
                refine l_cons (ev_run (v := (.int .i64 (((k : Nat) : Int)))) (w1 := w24) rfl rfl (by kernel_rfl) ?_)
                refine l_cons (ev_eq (v := (.int .i64 (IntKind.i64.wrap (((k : Nat) : Int) + 1)))) (v' := (.int .i64 ((((k : Nat) : Int) + 1)))) (w1 := w24) rfl rfl (by kernel_rfl) (wr64 (by omega) (by omega)) ?_)
                refine l_cons (ev_run (v := (.int .i64 ((((k : Nat) : Int) + 1)))) (w1 := w24) rfl rfl (by kernel_rfl) ?_)
                refine l_nil ?_
                refine n_then ?_
                exact k_round (k + 1, L.eraseIdx 0, (sn).set i true, F) ⟨(by first | rfl | kernel_rfl), (by first | rfl | kernel_rfl), (by first | rfl | kernel_rfl), (by first | rfl | kernel_rfl), (by first | rfl | kernel_rfl), trivial⟩ ⟨hI2, H29.sel [2, 3] (by decide)⟩ (by first | omega | (simp; omega))
        · skip
          refine l_cons (ev_run (v := (.int .i64 (((k : Nat) : Int)))) (w1 := w13) rfl rfl (by kernel_rfl) ?_)
          refine l_cons (ev_run (v := (.slice Ap picks.length cp)) (w1 := w13) rfl rfl (by kernel_rfl) ?_)
          refine l_cons (ev_run (v := (.int .i64 (((picks.length : Nat) : Int)))) (w1 := w13) rfl rfl (by kernel_rfl) ?_)
          refine l_cons (ev_eq (v := (.bool (decide ((((k : Nat) : Int) : Int) < ((picks.length : Nat) : Int))))) (v' := (.bool false)) (w1 := w13) rfl rfl (by kernel_rfl) (bf (by first | assumption | omega)) ?_)
          refine l_cons (ev_run (v := (.bool false)) (w1 := w13) rfl rfl (by kernel_rfl) ?_)
          refine l_cons (ev_skip (by kernel_rfl) rfl ?_)
          refine l_cons (ev_skip (by kernel_rfl) rfl ?_)
          refine l_cons (ev_skip (by kernel_rfl) rfl ?_)
          refine l_cons (ev_skip (by kernel_rfl) rfl ?_)
          refine l_cons (ev_skip (by kernel_rfl) rfl ?_)
          refine l_cons (ev_run (v := (.bool false)) (w1 := w13) rfl rfl (by kernel_rfl) ?_)
          refine l_nil ?_
          refine n_then ?_
          refine k_false (by kernel_rfl) ?_
          refine wp_skip ?_
          refine n_then ?_
          refine wp_seq ?_
          refine k_list ?_
          refine l_cons (ev_run (v := (.pointer (some (⟨g, 0, none⟩)))) (w1 := w13) rfl rfl (by kernel_rfl) ?_)
          refine l_cons (ev_run (v := (.int .i64 0)) (w1 := w13) rfl rfl (by kernel_rfl) ?_)
          obtain ⟨i, hi, hx, hs, hI2⟩ := hI.step 0 (by omega)
          obtain ⟨x, A2, c2, hxe, hxA, lx2, gx2⟩ := elem29 hC i hi
          have hti : tgAt l i = ⟨((i : Nat) : Int), x.f1, x.f2⟩ := by rw [hxe]; rfl
          rw [hti] at hx
          refine l_cons (ev_call rfl rfl (f := 15) (args := #[(.pointer (some (⟨g, 0, none⟩))), (.int .i64 0)]) (by kernel_rfl) (takeH _ g F L (H15.get 1 rfl) 0 (by omega) _ hx) ?_)
          rintro e w25 ⟨Atk, ct, rfl, hby, hfb, hG, hcw25⟩
          refine ⟨_, rfl, ?_⟩
          have H30 := H15.upd2 1 rfl hcw25 (bagR g F (L.eraseIdx 0)) (byR Atk x.f2.length ct x.f2) hG hby (fun _ h => h) hfb
          obtain ⟨gs, rfl⟩ := rowR_some (H30.get 1 rfl) (by omega)
          refine l_cons (ev_run (v := (.tuple #[(.agg #[(.int .i64 (((i : Nat) : Int))), (.int .i64 x.f1), (.slice Atk x.f2.length ct)]), (.int .i64 0)])) (w1 := w25) rfl rfl (by kernel_rfl) ?_)
          refine l_cons (ev_run (v := (.agg #[(.int .i64 (((i : Nat) : Int))), (.int .i64 x.f1), (.slice Atk x.f2.length ct)])) (w1 := w25) rfl rfl (by kernel_rfl) ?_)
          refine l_cons (ev_run (v := (.int .i64 0)) (w1 := w25) rfl rfl (by kernel_rfl) ?_)
          refine l_cons (ev_new (cs := [(.int .i64 0), (.int .i64 0), (.slice none 0 0)]) (t := 29) rfl rfl H30 (by kernel_rfl) ?_)
          intro g5 w26 H31 hg5 hbw26
          refine l_cons (ev_store (i := 0) rfl rfl rfl H31 (k := 0) rfl (by kernel_rfl) (.agg #[(.int .i64 (((i : Nat) : Int))), (.int .i64 x.f1), (.slice Atk x.f2.length ct)]) (by kernel_rfl) [(.int .i64 (((i : Nat) : Int))), (.int .i64 x.f1), (.slice Atk x.f2.length ct)] (by kernel_rfl) (by kernel_rfl) (by kernel_rfl) (by kernel_rfl) [(.int .i64 (((i : Nat) : Int))), (.int .i64 x.f1), (.slice Atk x.f2.length ct)] (by kernel_rfl) ?_)
          intro w27 H32 hcw27
          refine l_cons (ev_run (v := (.int .i64 0)) (w1 := w27) rfl rfl (by kernel_rfl) ?_)
          refine l_nil ?_
          refine n_then ?_
          refine wp_seq ?_
          refine wp_seq ?_
          refine r_start (m := 41) (fun j => false) (fun w' => Hp (fun _ => False) w w' [blk g5 [(.int .i64 (((i : Nat) : Int))), (.int .i64 x.f1), (.slice Atk x.f2.length ct)] 29, rowR 5 1 Atk x.f2.length ct (bts x.f2), rowR 4 1 (some (⟨gs, 0, none⟩)) l.length cm1 ((sn).map fun y => [Value.bool y]), bagR g F (L.eraseIdx 0)]) (by kernel_rfl) rfl (by kernel_rfl) (fun _ _ _ _ _ h => h) ?_
          have H33 := H32.drew
          refine r_take (i := 0) (v := (.int .i64 0)) rfl (by kernel_rfl) (by kernel_rfl) (by kernel_rfl) rfl H33 (fun _ _ => by kernel_rfl) ?_
          refine r_take (i := 1) (v := (.bool false)) rfl (by kernel_rfl) (by kernel_rfl) (by kernel_rfl) rfl H33 (fun _ _ => by kernel_rfl) ?_
          refine r_take (i := 2) (v := (.bool false)) rfl (by kernel_rfl) (by kernel_rfl) (by kernel_rfl) rfl H33 (fun _ _ => by kernel_rfl) ?_
          refine r_take (i := 3) (v := (.pointer (some (⟨g5, 0, none⟩)))) rfl (by kernel_rfl) (by kernel_rfl) (by kernel_rfl) rfl H33 (fun _ _ => by kernel_rfl) ?_
          refine r_take (i := 4) (v := (.int .i64 (((i : Nat) : Int)))) rfl (by kernel_rfl) (by kernel_rfl) (by kernel_rfl) rfl H33 (fun w_ hs_ => (run_ld rfl (by kernel_rfl) (At.blk (hs_.get 0 rfl) 0) (by kernel_rfl))) ?_
          by_cases hc8 : (((i : Nat) : Int) : Int) < 0
          · skip
            refine r_take_eq (i := 5) (v := (.bool (decide ((((i : Nat) : Int) : Int) < 0)))) (v' := (.bool true)) rfl (by kernel_rfl) (by kernel_rfl) (by kernel_rfl) rfl H33 (fun _ _ => by kernel_rfl) (bt (by first | assumption | omega)) ?_
            refine r_take (i := 6) (v := (.bool true)) rfl (by kernel_rfl) (by kernel_rfl) (by kernel_rfl) rfl H33 (fun _ _ => by kernel_rfl) ?_
            refine r_take (i := 7) (v := (.bool true)) rfl (by kernel_rfl) (by kernel_rfl) (by kernel_rfl) rfl H33 (fun _ _ => by kernel_rfl) ?_
            refine r_pass (i := 8) rfl (by kernel_rfl) (by kernel_rfl) (by kernel_rfl) rfl H33 ?_
            refine r_pass (i := 9) rfl (by kernel_rfl) (by kernel_rfl) (by kernel_rfl) rfl H33 ?_
            refine r_pass (i := 10) rfl (by kernel_rfl) (by kernel_rfl) (by kernel_rfl) rfl H33 ?_
            refine r_pass (i := 11) rfl (by kernel_rfl) (by kernel_rfl) (by kernel_rfl) rfl H33 ?_
            refine r_pass (i := 12) rfl (by kernel_rfl) (by kernel_rfl) (by kernel_rfl) rfl H33 ?_
            refine r_take (i := 13) (v := (.bool true)) rfl (by kernel_rfl) (by kernel_rfl) (by kernel_rfl) rfl H33 (fun _ _ => by kernel_rfl) ?_
            refine r_take (i := 14) (v := (.bool true)) rfl (by kernel_rfl) (by kernel_rfl) (by kernel_rfl) rfl H33 (fun _ _ => by kernel_rfl) ?_
            refine r_pass (i := 15) rfl (by kernel_rfl) (by kernel_rfl) (by kernel_rfl) rfl H33 ?_
            refine r_pass (i := 16) rfl (by kernel_rfl) (by kernel_rfl) (by kernel_rfl) rfl H33 ?_
            refine r_pass (i := 17) rfl (by kernel_rfl) (by kernel_rfl) (by kernel_rfl) rfl H33 ?_
            refine r_pass (i := 18) rfl (by kernel_rfl) (by kernel_rfl) (by kernel_rfl) rfl H33 ?_
            refine r_pass (i := 19) rfl (by kernel_rfl) (by kernel_rfl) (by kernel_rfl) rfl H33 ?_
            refine r_take (i := 20) (v := (.bool true)) rfl (by kernel_rfl) (by kernel_rfl) (by kernel_rfl) rfl H33 (fun _ _ => by kernel_rfl) ?_
            refine r_take (i := 21) (v := (.bool true)) rfl (by kernel_rfl) (by kernel_rfl) (by kernel_rfl) rfl H33 (fun _ _ => by kernel_rfl) ?_
            refine r_pass (i := 22) rfl (by kernel_rfl) (by kernel_rfl) (by kernel_rfl) rfl H33 ?_
            refine r_pass (i := 23) rfl (by kernel_rfl) (by kernel_rfl) (by kernel_rfl) rfl H33 ?_
            refine r_pass (i := 24) rfl (by kernel_rfl) (by kernel_rfl) (by kernel_rfl) rfl H33 ?_
            refine r_pass (i := 25) rfl (by kernel_rfl) (by kernel_rfl) (by kernel_rfl) rfl H33 ?_
            refine r_pass (i := 26) rfl (by kernel_rfl) (by kernel_rfl) (by kernel_rfl) rfl H33 ?_
            refine r_pass (i := 27) rfl (by kernel_rfl) (by kernel_rfl) (by kernel_rfl) rfl H33 ?_
            refine r_pass (i := 28) rfl (by kernel_rfl) (by kernel_rfl) (by kernel_rfl) rfl H33 ?_
            refine r_pass (i := 29) rfl (by kernel_rfl) (by kernel_rfl) (by kernel_rfl) rfl H33 ?_
            refine r_pass (i := 30) rfl (by kernel_rfl) (by kernel_rfl) (by kernel_rfl) rfl H33 ?_
            refine r_pass (i := 31) rfl (by kernel_rfl) (by kernel_rfl) (by kernel_rfl) rfl H33 ?_
            refine r_pass (i := 32) rfl (by kernel_rfl) (by kernel_rfl) (by kernel_rfl) rfl H33 ?_
            refine r_pass (i := 33) rfl (by kernel_rfl) (by kernel_rfl) (by kernel_rfl) rfl H33 ?_
            refine r_pass (i := 34) rfl (by kernel_rfl) (by kernel_rfl) (by kernel_rfl) rfl H33 ?_
            refine r_pass (i := 35) rfl (by kernel_rfl) (by kernel_rfl) (by kernel_rfl) rfl H33 ?_
            refine r_pass (i := 36) rfl (by kernel_rfl) (by kernel_rfl) (by kernel_rfl) rfl H33 ?_
            refine r_pass (i := 37) rfl (by kernel_rfl) (by kernel_rfl) (by kernel_rfl) rfl H33 ?_
            refine r_pass (i := 38) rfl (by kernel_rfl) (by kernel_rfl) (by kernel_rfl) rfl H33 ?_
            refine r_pass (i := 39) rfl (by kernel_rfl) (by kernel_rfl) (by kernel_rfl) rfl H33 ?_
            refine r_take (i := 40) (v := (.bool true)) rfl (by kernel_rfl) (by kernel_rfl) (by kernel_rfl) rfl H33 (fun _ _ => by kernel_rfl) ?_
            refine r_done (by kernel_rfl) ?_
            refine n_then ?_
            refine k_true (by kernel_rfl) ?_
            refine wp_seq ?_
            refine k_list ?_
            refine l_cons (ev_run (v := (.bool false)) (w1 := w27.drew) rfl rfl (by kernel_rfl) ?_)
            refine l_nil ?_
            refine n_then ?_
            refine wp_ret ?_
            refine r_then ?_
            refine r_in ?_
            refine r_then ?_
            refine r_then ?_
            refine r_in ?_
            refine r_then ?_
            refine b_ret (v := (.bool false)) (resS rfl (.tmp (by kernel_rfl) .nil)) ?_
            exfalso; omega
          · skip
            refine r_take_eq (i := 5) (v := (.bool (decide ((((i : Nat) : Int) : Int) < 0)))) (v' := (.bool false)) rfl (by kernel_rfl) (by kernel_rfl) (by kernel_rfl) rfl H33 (fun _ _ => by kernel_rfl) (bf (by first | assumption | omega)) ?_
            refine r_take (i := 6) (v := (.bool false)) rfl (by kernel_rfl) (by kernel_rfl) (by kernel_rfl) rfl H33 (fun _ _ => by kernel_rfl) ?_
            refine r_take (i := 7) (v := (.bool false)) rfl (by kernel_rfl) (by kernel_rfl) (by kernel_rfl) rfl H33 (fun _ _ => by kernel_rfl) ?_
            refine r_take (i := 8) (v := (.pointer (some (⟨g5, 0, none⟩)))) rfl (by kernel_rfl) (by kernel_rfl) (by kernel_rfl) rfl H33 (fun _ _ => by kernel_rfl) ?_
            refine r_take (i := 9) (v := (.int .i64 (((i : Nat) : Int)))) rfl (by kernel_rfl) (by kernel_rfl) (by kernel_rfl) rfl H33 (fun w_ hs_ => (run_ld rfl (by kernel_rfl) (At.blk (hs_.get 0 rfl) 0) (by kernel_rfl))) ?_
            refine r_take (i := 10) (v := (.slice (some (ad)) l.length c)) rfl (by kernel_rfl) (by kernel_rfl) (by kernel_rfl) rfl H33 (fun _ _ => by kernel_rfl) ?_
            refine r_take (i := 11) (v := (.int .i64 (((l.length : Nat) : Int)))) rfl (by kernel_rfl) (by kernel_rfl) (by kernel_rfl) rfl H33 (fun _ _ => by kernel_rfl) ?_
            by_cases hc9 : (((i : Nat) : Int) : Int) ≥ ((l.length : Nat) : Int)
            · skip
              refine r_take_eq (i := 12) (v := (.bool (decide ((((i : Nat) : Int) : Int) ≥ ((l.length : Nat) : Int))))) (v' := (.bool true)) rfl (by kernel_rfl) (by kernel_rfl) (by kernel_rfl) rfl H33 (fun _ _ => by kernel_rfl) (bt (by first | assumption | omega)) ?_
              refine r_take (i := 13) (v := (.bool true)) rfl (by kernel_rfl) (by kernel_rfl) (by kernel_rfl) rfl H33 (fun _ _ => by kernel_rfl) ?_
              refine r_take (i := 14) (v := (.bool true)) rfl (by kernel_rfl) (by kernel_rfl) (by kernel_rfl) rfl H33 (fun _ _ => by kernel_rfl) ?_
              refine r_pass (i := 15) rfl (by kernel_rfl) (by kernel_rfl) (by kernel_rfl) rfl H33 ?_
              refine r_pass (i := 16) rfl (by kernel_rfl) (by kernel_rfl) (by kernel_rfl) rfl H33 ?_
              refine r_pass (i := 17) rfl (by kernel_rfl) (by kernel_rfl) (by kernel_rfl) rfl H33 ?_
              refine r_pass (i := 18) rfl (by kernel_rfl) (by kernel_rfl) (by kernel_rfl) rfl H33 ?_
              refine r_pass (i := 19) rfl (by kernel_rfl) (by kernel_rfl) (by kernel_rfl) rfl H33 ?_
              refine r_take (i := 20) (v := (.bool true)) rfl (by kernel_rfl) (by kernel_rfl) (by kernel_rfl) rfl H33 (fun _ _ => by kernel_rfl) ?_
              refine r_take (i := 21) (v := (.bool true)) rfl (by kernel_rfl) (by kernel_rfl) (by kernel_rfl) rfl H33 (fun _ _ => by kernel_rfl) ?_
              refine r_pass (i := 22) rfl (by kernel_rfl) (by kernel_rfl) (by kernel_rfl) rfl H33 ?_
              refine r_pass (i := 23) rfl (by kernel_rfl) (by kernel_rfl) (by kernel_rfl) rfl H33 ?_
              refine r_pass (i := 24) rfl (by kernel_rfl) (by kernel_rfl) (by kernel_rfl) rfl H33 ?_
              refine r_pass (i := 25) rfl (by kernel_rfl) (by kernel_rfl) (by kernel_rfl) rfl H33 ?_
              refine r_pass (i := 26) rfl (by kernel_rfl) (by kernel_rfl) (by kernel_rfl) rfl H33 ?_
              refine r_pass (i := 27) rfl (by kernel_rfl) (by kernel_rfl) (by kernel_rfl) rfl H33 ?_
              refine r_pass (i := 28) rfl (by kernel_rfl) (by kernel_rfl) (by kernel_rfl) rfl H33 ?_
              refine r_pass (i := 29) rfl (by kernel_rfl) (by kernel_rfl) (by kernel_rfl) rfl H33 ?_
              refine r_pass (i := 30) rfl (by kernel_rfl) (by kernel_rfl) (by kernel_rfl) rfl H33 ?_
              refine r_pass (i := 31) rfl (by kernel_rfl) (by kernel_rfl) (by kernel_rfl) rfl H33 ?_
              refine r_pass (i := 32) rfl (by kernel_rfl) (by kernel_rfl) (by kernel_rfl) rfl H33 ?_
              refine r_pass (i := 33) rfl (by kernel_rfl) (by kernel_rfl) (by kernel_rfl) rfl H33 ?_
              refine r_pass (i := 34) rfl (by kernel_rfl) (by kernel_rfl) (by kernel_rfl) rfl H33 ?_
              refine r_pass (i := 35) rfl (by kernel_rfl) (by kernel_rfl) (by kernel_rfl) rfl H33 ?_
              refine r_pass (i := 36) rfl (by kernel_rfl) (by kernel_rfl) (by kernel_rfl) rfl H33 ?_
              refine r_pass (i := 37) rfl (by kernel_rfl) (by kernel_rfl) (by kernel_rfl) rfl H33 ?_
              refine r_pass (i := 38) rfl (by kernel_rfl) (by kernel_rfl) (by kernel_rfl) rfl H33 ?_
              refine r_pass (i := 39) rfl (by kernel_rfl) (by kernel_rfl) (by kernel_rfl) rfl H33 ?_
              refine r_take (i := 40) (v := (.bool true)) rfl (by kernel_rfl) (by kernel_rfl) (by kernel_rfl) rfl H33 (fun _ _ => by kernel_rfl) ?_
              refine r_done (by kernel_rfl) ?_
              refine n_then ?_
              refine k_true (by kernel_rfl) ?_
              refine wp_seq ?_
              refine k_list ?_
              refine l_cons (ev_run (v := (.bool false)) (w1 := w27.drew) rfl rfl (by kernel_rfl) ?_)
              refine l_nil ?_
              refine n_then ?_
              refine wp_ret ?_
              refine r_then ?_
              refine r_in ?_
              refine r_then ?_
              refine r_then ?_
              refine r_in ?_
              refine r_then ?_
              refine b_ret (v := (.bool false)) (resS rfl (.tmp (by kernel_rfl) .nil)) ?_
              exfalso; omega
            · skip
              refine r_take_eq (i := 12) (v := (.bool (decide ((((i : Nat) : Int) : Int) ≥ ((l.length : Nat) : Int))))) (v' := (.bool false)) rfl (by kernel_rfl) (by kernel_rfl) (by kernel_rfl) rfl H33 (fun _ _ => by kernel_rfl) (bf (by first | assumption | omega)) ?_
              refine r_take (i := 13) (v := (.bool false)) rfl (by kernel_rfl) (by kernel_rfl) (by kernel_rfl) rfl H33 (fun _ _ => by kernel_rfl) ?_
              refine r_take (i := 14) (v := (.bool false)) rfl (by kernel_rfl) (by kernel_rfl) (by kernel_rfl) rfl H33 (fun _ _ => by kernel_rfl) ?_
              refine r_take (i := 15) (v := (.slice (some (⟨gs, 0, none⟩)) l.length cm1)) rfl (by kernel_rfl) (by kernel_rfl) (by kernel_rfl) rfl H33 (fun _ _ => by kernel_rfl) ?_
              refine r_take (i := 16) (v := (.pointer (some (⟨g5, 0, none⟩)))) rfl (by kernel_rfl) (by kernel_rfl) (by kernel_rfl) rfl H33 (fun _ _ => by kernel_rfl) ?_
              refine r_take (i := 17) (v := (.int .i64 (((i : Nat) : Int)))) rfl (by kernel_rfl) (by kernel_rfl) (by kernel_rfl) rfl H33 (fun w_ hs_ => (run_ld rfl (by kernel_rfl) (At.blk (hs_.get 0 rfl) 0) (by kernel_rfl))) ?_
              refine r_take (i := 18) (v := (.pointer (some (((⟨gs, 0, none⟩ : Addr)).add (i * 1))))) rfl (by kernel_rfl) (by kernel_rfl) (by kernel_rfl) rfl H33 (fun w_ hs_ => (run_ixa (sz := 1) (q := i) (ad := ⟨gs, 0, none⟩) (len := l.length) (cap := cm1) (k := .i64) (z := ((i : Nat) : Int)) rfl (by kernel_rfl) (by kernel_rfl) rfl (by kernel_rfl) (by first | rfl | omega) (by first | omega | decide))) ?_
              refine r_take (i := 19) (v := (.bool false)) rfl (by kernel_rfl) (by kernel_rfl) (by kernel_rfl) rfl H33 (fun w_ hs_ => (run_ld rfl (by kernel_rfl) (At_scal (h1 := fun _ => rfl) (xs := sn) (enc := Value.bool) (hs_.get 2 rfl) i _ hs) (by kernel_rfl))) ?_
              refine r_take (i := 20) (v := (.bool false)) rfl (by kernel_rfl) (by kernel_rfl) (by kernel_rfl) rfl H33 (fun _ _ => by kernel_rfl) ?_
              refine r_take (i := 21) (v := (.bool false)) rfl (by kernel_rfl) (by kernel_rfl) (by kernel_rfl) rfl H33 (fun _ _ => by kernel_rfl) ?_
              refine r_take (i := 22) (v := (.agg #[(.int .i64 (((i : Nat) : Int))), (.int .i64 x.f1), (.slice Atk x.f2.length ct)])) rfl (by kernel_rfl) (by kernel_rfl) (by kernel_rfl) rfl H33 (fun w_ hs_ => (run_ld rfl (by kernel_rfl) (At.blk (hs_.get 0 rfl) 0) (by kernel_rfl))) ?_
              refine r_take (i := 23) (v := (.pointer (some (⟨g5, 0, none⟩)))) rfl (by kernel_rfl) (by kernel_rfl) (by kernel_rfl) rfl H33 (fun _ _ => by kernel_rfl) ?_
              refine r_take (i := 24) (v := (.int .i64 (((i : Nat) : Int)))) rfl (by kernel_rfl) (by kernel_rfl) (by kernel_rfl) rfl H33 (fun w_ hs_ => (run_ld rfl (by kernel_rfl) (At.blk (hs_.get 0 rfl) 0) (by kernel_rfl))) ?_
              refine r_take (i := 25) (v := (.slice (some (ad)) l.length c)) rfl (by kernel_rfl) (by kernel_rfl) (by kernel_rfl) rfl H33 (fun _ _ => by kernel_rfl) ?_
              refine r_take (i := 26) (v := (.pointer (some (⟨g5, 0, none⟩)))) rfl (by kernel_rfl) (by kernel_rfl) (by kernel_rfl) rfl H33 (fun _ _ => by kernel_rfl) ?_
              refine r_take (i := 27) (v := (.int .i64 (((i : Nat) : Int)))) rfl (by kernel_rfl) (by kernel_rfl) (by kernel_rfl) rfl H33 (fun w_ hs_ => (run_ld rfl (by kernel_rfl) (At.blk (hs_.get 0 rfl) 0) (by kernel_rfl))) ?_
              refine r_take (i := 28) (v := (.pointer (some ((ad).add (i * 3))))) rfl (by kernel_rfl) (by kernel_rfl) (by kernel_rfl) rfl H33 (fun w_ hs_ => (run_ixa (sz := 3) (q := i) (ad := ad) (len := l.length) (cap := c) (k := .i64) (z := ((i : Nat) : Int)) rfl (by kernel_rfl) (by kernel_rfl) rfl (by kernel_rfl) (by first | rfl | omega) (by first | omega | decide))) ?_
              refine r_take (i := 29) (v := (.pointer (some (((ad).add (i * 3)).add 1)))) rfl (by kernel_rfl) (by kernel_rfl) (by kernel_rfl) rfl H33 (fun _ _ => by kernel_rfl) ?_
              refine r_take (i := 30) (v := (.int .i64 x.f1)) rfl (by kernel_rfl) (by kernel_rfl) (by kernel_rfl) rfl H33 (fun w_ hs_ => (run_ld rfl (by kernel_rfl) (At.field (At.hp hxA hs_ (fun h => h)) 1) (by kernel_rfl))) ?_
              refine r_take (i := 31) (v := (.slice (some (ad)) l.length c)) rfl (by kernel_rfl) (by kernel_rfl) (by kernel_rfl) rfl H33 (fun _ _ => by kernel_rfl) ?_
              refine r_take (i := 32) (v := (.pointer (some (⟨g5, 0, none⟩)))) rfl (by kernel_rfl) (by kernel_rfl) (by kernel_rfl) rfl H33 (fun _ _ => by kernel_rfl) ?_
              refine r_take (i := 33) (v := (.int .i64 (((i : Nat) : Int)))) rfl (by kernel_rfl) (by kernel_rfl) (by kernel_rfl) rfl H33 (fun w_ hs_ => (run_ld rfl (by kernel_rfl) (At.blk (hs_.get 0 rfl) 0) (by kernel_rfl))) ?_
              refine r_take (i := 34) (v := (.pointer (some ((ad).add (i * 3))))) rfl (by kernel_rfl) (by kernel_rfl) (by kernel_rfl) rfl H33 (fun w_ hs_ => (run_ixa (sz := 3) (q := i) (ad := ad) (len := l.length) (cap := c) (k := .i64) (z := ((i : Nat) : Int)) rfl (by kernel_rfl) (by kernel_rfl) rfl (by kernel_rfl) (by first | rfl | omega) (by first | omega | decide))) ?_
              refine r_take (i := 35) (v := (.pointer (some (((ad).add (i * 3)).add 2)))) rfl (by kernel_rfl) (by kernel_rfl) (by kernel_rfl) rfl H33 (fun _ _ => by kernel_rfl) ?_
              refine r_take (i := 36) (v := (.slice A2 x.f2.length c2)) rfl (by kernel_rfl) (by kernel_rfl) (by kernel_rfl) rfl H33 (fun w_ hs_ => (run_ld rfl (by kernel_rfl) (At.field (At.hp hxA hs_ (fun h => h)) 2) (by kernel_rfl))) ?_
              refine r_take (i := 37) (v := (.agg #[(.int .i64 (((i : Nat) : Int))), (.int .i64 x.f1), (.slice A2 x.f2.length c2)])) rfl (by kernel_rfl) (by kernel_rfl) (by kernel_rfl) rfl H33 (fun _ _ => by kernel_rfl) ?_
              refine r_one (i := 38) (by kernel_rfl) rfl (ev_call (by kernel_rfl) rfl (f := 17) (args := #[(.agg #[(.int .i64 (((i : Nat) : Int))), (.int .i64 x.f1), (.slice Atk x.f2.length ct)]), (.agg #[(.int .i64 (((i : Nat) : Int))), (.int .i64 x.f1), (.slice A2 x.f2.length c2)])]) (by kernel_rfl) (same_true _ _ _ _ x.f2 _ (Rd_of (byR_le (H33.get 1 rfl)) (byR_C (H33.get 1 rfl))) (Rd_of lx2 (C_to gx2 H33))) ?_)
              rintro e w28 ⟨rfl, hb_⟩
              refine ⟨_, rfl, ?_⟩
              have H34 := H33.below hb_
              refine ⟨fun _ => H34, ?_⟩
              refine r_take (i := 39) (v := (.bool false)) rfl (by kernel_rfl) (by kernel_rfl) (by kernel_rfl) rfl H34 (fun _ _ => by kernel_rfl) ?_
              refine r_take (i := 40) (v := (.bool false)) rfl (by kernel_rfl) (by kernel_rfl) (by kernel_rfl) rfl H34 (fun _ _ => by kernel_rfl) ?_
              refine r_done (by kernel_rfl) ?_
              refine n_then ?_
              refine k_false (by kernel_rfl) ?_
              refine wp_skip ?_
              refine n_then ?_
              refine wp_seq ?_
              refine k_list ?_
              refine l_cons (ev_run (v := (.slice (some (⟨gs, 0, none⟩)) l.length cm1)) (w1 := w28) rfl rfl (by kernel_rfl) ?_)
              refine l_cons (ev_run (v := (.pointer (some (⟨g5, 0, none⟩)))) (w1 := w28) rfl rfl (by kernel_rfl) ?_)
              refine l_cons (ev_run (v := (.int .i64 (((i : Nat) : Int)))) (w1 := w28) rfl rfl (run_ld rfl (by kernel_rfl) (At.blk (H34.get 0 rfl) 0) (by kernel_rfl)) ?_)
              refine l_cons (ev_run (v := (.pointer (some (((⟨gs, 0, none⟩ : Addr)).add (i * 1))))) (w1 := w28) rfl rfl (run_ixa (sz := 1) (q := i) (ad := ⟨gs, 0, none⟩) (len := l.length) (cap := cm1) (k := .i64) (z := ((i : Nat) : Int)) rfl (by kernel_rfl) (by kernel_rfl) rfl (by kernel_rfl) (by first | rfl | omega) (by first | omega | decide)) ?_)
              refine l_cons (ev_setscal (enc := Value.bool) (k := 2) (g := gs) (m := l.length) (c := cm1) (j := i) (xs := sn) (fun _ => rfl) rfl rfl rfl H34 rfl (by kernel_rfl) true (by kernel_rfl) (by kernel_rfl) (by omega) ?_)
              intro w29 H35 hcw29
              refine l_nil ?_
              refine n_then ?_
              refine wp_seq ?_
              refine k_list ?_
              refine l_cons (ev_run (v := (.int .i64 (((k : Nat) : Int)))) (w1 := w29) rfl rfl (by kernel_rfl) ?_)
              refine l_cons (ev_run (v := (.slice (some (ad)) l.length c)) (w1 := w29) rfl rfl (by kernel_rfl) ?_)
              refine l_cons (ev_run (v := (.int .i64 (((l.length : Nat) : Int)))) (w1 := w29) rfl rfl (by kernel_rfl) ?_)
              by_cases hc10 : (((k : Nat) : Int) : Int) > ((l.length : Nat) : Int)
              · skip
                refine l_cons (ev_eq (v := (.bool (decide ((((k : Nat) : Int) : Int) > ((l.length : Nat) : Int))))) (v' := (.bool true)) (w1 := w29) rfl rfl (by kernel_rfl) (bt (by first | assumption | omega)) ?_)
                refine l_nil ?_
                refine n_then ?_
                refine k_true (by kernel_rfl) ?_
                refine wp_seq ?_
                refine k_list ?_
                refine l_cons (ev_run (v := (.bool false)) (w1 := w29) rfl rfl (by kernel_rfl) ?_)
                refine l_nil ?_
                refine n_then ?_
                refine wp_ret ?_
                refine r_in ?_
                refine r_then ?_
                refine r_then ?_
                refine r_in ?_
                refine r_then ?_
                refine b_ret (v := (.bool false)) (resS rfl (.tmp (by kernel_rfl) .nil)) ?_
                exfalso; omega
              · skip
                refine l_cons (ev_eq (v := (.bool (decide ((((k : Nat) : Int) : Int) > ((l.length : Nat) : Int))))) (v' := (.bool false)) (w1 := w29) rfl rfl (by kernel_rfl) (bf (by first | assumption | omega)) ?_)
                refine l_nil ?_
                refine n_then ?_
                refine k_false (by kernel_rfl) ?_
                refine wp_skip ?_
                refine n_in ?_
                refine n_then ?_
                refine k_list ?_
                refine l_cons (ev_run (v := (.int .i64 (((k : Nat) : Int)))) (w1 := w29) rfl rfl (by kernel_rfl) ?_)
                refine l_cons (ev_eq (v := (.int .i64 (IntKind.i64.wrap (((k : Nat) : Int) + 1)))) (v' := (.int .i64 ((((k : Nat) : Int) + 1)))) (w1 := w29) rfl rfl (by kernel_rfl) (wr64 (by omega) (by omega)) ?_)
                refine l_cons (ev_run (v := (.int .i64 ((((k : Nat) : Int) + 1)))) (w1 := w29) rfl rfl (by kernel_rfl) ?_)
                refine l_nil ?_
                refine n_then ?_
                exact k_round (k + 1, L.eraseIdx 0, (sn).set i true, F) ⟨(by first | rfl | kernel_rfl), (by first | rfl | kernel_rfl), (by first | rfl | kernel_rfl), (by first | rfl | kernel_rfl), (by first | rfl | kernel_rfl), trivial⟩ ⟨hI2, H35.sel [2, 3] (by decide)⟩ (by first | omega | (simp; omega))
end Go.Proofs.Ytmfbkbklgjpllaa
