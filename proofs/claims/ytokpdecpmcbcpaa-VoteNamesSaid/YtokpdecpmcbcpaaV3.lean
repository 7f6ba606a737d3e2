/- SHA-256: the sum. -/
import Derived.Test.YtokpdecpmcbcpaaV2
namespace Go.Proofs.Ytokpdecpmcbcpaa
open Go.RowKit Go.Proofs.YtokpdecpmcbcpaaW.PrintWords Go.Proofs.YtokpdecpmcbcpaaW.PrintLast Go.Proofs.YtokpdecpmcbcpaaW.PrintMore
open Go.Proofs.Ytokpdecpmcbcpaa.PVoteMakes
set_option linter.unusedVariables false
set_option linter.unusedSimpArgs false
set_option maxRecDepth 100000

theorem row_snoc {S0 : Nat → Prop} {W0 w : World} {A : Option Addr} {n c : Nat} {xs ys : List Int} {rs : List Res} (H : Hp S0 W0 w (rowR 5 1 A n c ((xs.map fun y => [Value.int .u8 y]) ++ (ys.map fun y => [Value.int .u8 y])) :: rs)) : Hp S0 W0 w (rowR 5 1 A n c ((xs ++ ys).map fun y => [Value.int .u8 y]) :: rs) := by
  rw [List.map_append]; exact H
def padz (n : Nat) : Nat := (119 - n % 64) % 64
/-- The length's bytes. -/
def lb (z : Int) : Nat → List Int
  | 0 => []
  | q + 1 => lb z q ++ [IntKind.u8.wrap (shr .u64 z (56 - 8 * (q : Int)))]
theorem lb_length (z : Int) (q : Nat) : (lb z q).length = q := by
  induction q with
  | zero => rfl
  | succ q ih => rw [lb, List.length_append, ih]; rfl
def z8 (z : Int) : Int := IntKind.u64.wrap (8 * z)
def padT (ys : List Int) (z : Int) : List Int := (ys ++ 128 :: List.replicate (padz ys.length) 0) ++ lb (z8 z) 8
theorem padT_length (ys : List Int) (z : Int) : (padT ys z).length = ys.length + 9 + padz ys.length := by
  simp only [padT, List.length_append, lb_length, List.length_cons, List.length_replicate]; omega
theorem padT_mod (ys : List Int) (z : Int) : (padT ys z).length % 64 = 0 := by rw [padT_length, padz]; omega
/-- A word's bytes. -/
def wb (x : Int) : List Int := [IntKind.u8.wrap (shr .u32 x 24), IntKind.u8.wrap (shr .u32 x 16), IntKind.u8.wrap (shr .u32 x 8), IntKind.u8.wrap x]
def outB (l : List Int) : Nat → List Int
  | 0 => []
  | q + 1 => outB l q ++ wb (l.getD q 0)
theorem outB_length (l : List Int) (q : Nat) : (outB l q).length = 4 * q := by
  induction q with
  | zero => rfl
  | succ q ih => rw [outB, List.length_append, ih]; show 4 * q + 4 = _; omega
def sumF (v : V8) (ys : List Int) (z : Int) : List Int := outB (blkN v (padT ys z) ((padT ys z).length / 64)).l 8
theorem cases9 (q : Nat) (h : q ≤ 8) : q = 0 ∨ q = 1 ∨ q = 2 ∨ q = 3 ∨ q = 4 ∨ q = 5 ∨ q = 6 ∨ q = 7 ∨ q = 8 := by omega
set_option maxHeartbeats 1000000 in
theorem sum_c (g : Nat) (v : V8) (A : Option Addr) (c : Nat) (z : Int) (F : Nat → Prop) (ys : List Int) (w : World) (hb : (blk g (shaCells v A ys.length c z) 81).ok w) (hr : (slR F A ys.length c ys).ok w) (hl : ys.length < 64) :
    Calls Try.prog 50 #[.pointer (some ⟨g, 0, none⟩)] w fun e w' => ∃ A' c', e = .returned (.slice A' 32 c') ∧ Hp (fun _ => False) w w' [byR A' 32 c' (sumF v ys z)] := by
  have H := Hp.start (fun _ => False) w
  refine k_enter (args := [(.pointer (some (⟨g, 0, none⟩)))]) Try.func50 rfl Try.ntmps50 (Nat.le_of_ble_eq_true rfl) ?_
  refine wp_seq ?_
  refine k_list ?_
  refine l_cons (ev_run (v := (.slice none 0 0)) (w1 := w) rfl rfl (by kernel_rfl) ?_)
  refine l_nil ?_
  refine n_then ?_
  refine wp_seq ?_
  refine k_list ?_
  refine l_cons (ev_run (v := (.pointer (some (⟨g, 0, none⟩)))) (w1 := w) rfl rfl (by kernel_rfl) ?_)
  refine l_cons (ev_run (v := (.pointer (some (⟨g, 0, none⟩)))) (w1 := w) rfl rfl (by kernel_rfl) ?_)
  refine l_cons (ev_run (v := (.pointer (some (⟨g, 0, none⟩)))) (w1 := w) rfl rfl (by kernel_rfl) ?_)
  refine l_cons (ev_run (v := (.agg #[(.int .u32 v.a), (.int .u32 v.b), (.int .u32 v.c), (.int .u32 v.d), (.int .u32 v.e), (.int .u32 v.f), (.int .u32 v.g), (.int .u32 v.h)])) (w1 := w) rfl rfl (run_ld rfl (by kernel_rfl) (At.hp (At.blk hb 0) H (fun h => h)) (by kernel_rfl)) ?_)
  refine l_cons (ev_new (cs := [(.int .u32 0), (.int .u32 0), (.int .u32 0), (.int .u32 0), (.int .u32 0), (.int .u32 0), (.int .u32 0), (.int .u32 0)]) (t := 78) rfl rfl H (by kernel_rfl) ?_)
  intro g1 w1 H1 hg1 hbw1
  refine l_cons (ev_store (i := 0) rfl rfl rfl H1 (k := 0) rfl (by kernel_rfl) (.agg #[(.int .u32 v.a), (.int .u32 v.b), (.int .u32 v.c), (.int .u32 v.d), (.int .u32 v.e), (.int .u32 v.f), (.int .u32 v.g), (.int .u32 v.h)]) (by kernel_rfl) [(.int .u32 v.a), (.int .u32 v.b), (.int .u32 v.c), (.int .u32 v.d), (.int .u32 v.e), (.int .u32 v.f), (.int .u32 v.g), (.int .u32 v.h)] (by kernel_rfl) (by kernel_rfl) (by kernel_rfl) (by kernel_rfl) [(.int .u32 v.a), (.int .u32 v.b), (.int .u32 v.c), (.int .u32 v.d), (.int .u32 v.e), (.int .u32 v.f), (.int .u32 v.g), (.int .u32 v.h)] (by kernel_rfl) ?_)
  intro w2 H2 hcw2
  refine l_nil ?_
  refine n_then ?_
  refine wp_seq ?_
  refine k_list ?_
  refine l_cons (ev_newRow (cs := []) (t := 5) (len := 0) rfl rfl H2 (by kernel_rfl) ?_)
  intro g2 w3 H3 hg2 hbw3
  refine l_cons (ev_run (v := (.pointer (some (⟨g, 0, none⟩)))) (w1 := w3) rfl rfl (by kernel_rfl) ?_)
  refine l_cons (ev_run (v := (.pointer (some (⟨g, 0, none⟩)))) (w1 := w3) rfl rfl (by kernel_rfl) ?_)
  refine l_cons (ev_run (v := (.pointer (some (⟨g, 8, none⟩)))) (w1 := w3) rfl rfl (by kernel_rfl) ?_)
  refine l_cons (ev_run (v := (.slice A ys.length c)) (w1 := w3) rfl rfl (run_ld rfl (by kernel_rfl) (At.field (At.hp (At.blk hb 0) H3 (fun h => h)) 8) (by kernel_rfl)) ?_)
  have H4 := H3.imp 0 rfl (rowR 5 1 (some ⟨g2, 0, none⟩) 0 0 ([] : List (List Value))) (fun h => rowR_blk h ([] : List (List Value)) rfl (by first | rfl | kernel_rfl) (by simp)) (fun k hk => (Option.some.inj hk).symm)
  refine l_cons (ev_append (e := 5) (sz := 1) (z := (.int .u8 0)) (bytes := 1) 0 (A := (some (⟨g2, 0, none⟩))) (m0 := 0) (c := 0) (rows := ([] : List (List Value))) (ys.map fun y => [Value.int .u8 y]) A ys.length c rfl rfl rfl Try.underlying24 (by kernel_rfl) rfl rfl rfl H4 rfl (by kernel_rfl) (by kernel_rfl) (by first | rfl | (simp; done) | assumption | omega) (fun j row hj => read_scalar (C_to (slR_C hr) H4) j row hj) (by first | omega | (simp; omega)) ys.length (by first | rfl | omega) ?_)
  intro Aa1 cc1 w4 H5 hcw4
  refine l_cons (ev_run (v := (.slice Aa1 ys.length cc1)) (w1 := w4) rfl rfl (by kernel_rfl) ?_)
  refine l_nil ?_
  refine n_then ?_
  refine wp_seq ?_
  refine k_list ?_
  refine l_cons (ev_run (v := (.slice Aa1 ys.length cc1)) (w1 := w4) rfl rfl (by kernel_rfl) ?_)
  refine l_cons (ev_newRow (cs := [(.int .u8 128)]) (t := 5) (len := 1) rfl rfl H5 (by kernel_rfl) ?_)
  intro g3 w5 H6 hg3 hbw5
  refine l_cons (ev_append (e := 5) (sz := 1) (z := (.int .u8 0)) (bytes := 1) 1 (A := Aa1) (m0 := ys.length) (c := cc1) (rows := (([] : List (List Value)) ++ (ys.map fun y => [Value.int .u8 y]))) ([[(.int .u8 128)]] : List (List Value)) (some (⟨g3, 0, none⟩)) 1 1 rfl rfl rfl Try.underlying24 (by kernel_rfl) rfl rfl rfl H6 rfl (by kernel_rfl) (by kernel_rfl) (by first | rfl | (simp; done) | assumption | omega) (fun j row hj => read_blk (H6.get 0 rfl) ([[(.int .u8 128)]] : List (List Value)) rfl (by first | rfl | kernel_rfl) j row hj) (by first | omega | (simp; omega)) (ys.length + 1) (by first | rfl | omega) ?_)
  intro Aa2 cc2 w6 H7 hcw6
  refine l_cons (ev_run (v := (.slice Aa2 ((ys.length + 1)) cc2)) (w1 := w6) rfl rfl (by kernel_rfl) ?_)
  refine l_nil ?_
  refine n_then ?_
  refine wp_seq ?_
  refine wp_block ?_
  have H8 := H7.sel [1, 0, 2] (by decide)
  have H9 : Hp (fun _ => False) w w6 [rowR 5 1 Aa2 (ys.length + 1) cc2 ((ys ++ [128]).map fun y => [Value.int .u8 y]), blk g3 [(.int .u8 128)] 5, blk g1 [(.int .u32 v.a), (.int .u32 v.b), (.int .u32 v.c), (.int .u32 v.d), (.int .u32 v.e), (.int .u32 v.f), (.int .u32 v.g), (.int .u32 v.h)] 78] := row_snoc H8
  refine k_loop (σ := Nat × Nat × List Int × Option Addr × Nat) (fun x_ => match x_ with | (z4, nt, ts, At2, ct) => [(0, (.pointer (some (⟨g, 0, none⟩)))), (3, (.pointer (some (⟨g1, 0, none⟩)))), (4, (.slice At2 nt ct))]) (fun x_ w' => match x_ with | (z4, nt, ts, At2, ct) => (z4 ≤ padz ys.length) ∧ (nt = ys.length + 1 + z4) ∧ (ts = ys ++ 128 :: List.replicate z4 0) ∧ Hp (fun _ => False) w w' [rowR 5 1 At2 nt ct ((ts).map fun y => [Value.int .u8 y]), blk g1 [(.int .u32 v.a), (.int .u32 v.b), (.int .u32 v.c), (.int .u32 v.d), (.int .u32 v.e), (.int .u32 v.f), (.int .u32 v.g), (.int .u32 v.h)] 78]) (fun x_ => match x_ with | (z4, nt, ts, At2, ct) => (120 - nt % 64) % 64) (0, (ys.length + 1), ys ++ [128], Aa2, cc2) ⟨(by first | rfl | kernel_rfl), (by first | rfl | kernel_rfl), (by first | rfl | kernel_rfl), trivial⟩ ⟨(Nat.zero_le _), (by omega), rfl, H9.sel [0, 2] (by decide)⟩ ?_
  rintro L1 ⟨z4, nt, ts, At2, ct⟩ w7 ⟨hz4, hnt, hts, H10⟩
  change Code.wp _ _ _ (Fr _ _ [(0, (.pointer (some (⟨g, 0, none⟩)))), (3, (.pointer (some (⟨g1, 0, none⟩)))), (4, (.slice At2 nt ct))]) _
  rcases Decidable.em (nt % 64 = 56) with h56 | h56
  · skip
    have hz5 : z4 = padz ys.length := by unfold padz at hz4 ⊢; omega
    have hz7 : padz ys.length < 64 := by unfold padz; omega
    refine wp_seq ?_
    refine wp_seq ?_
    refine k_list ?_
    refine l_cons (ev_run (v := (.slice At2 nt ct)) (w1 := w7) rfl rfl (by kernel_rfl) ?_)
    refine l_cons (ev_run (v := (.int .i64 (((nt : Nat) : Int)))) (w1 := w7) rfl rfl (by kernel_rfl) ?_)
    refine l_cons (ev_eq (v := (.int .i64 (Int.tmod ((nt : Nat) : Int) 64))) (v' := (.int .i64 (((nt % 64 : Nat) : Int)))) (w1 := w7) rfl rfl (run_rem (k := .i64) (a := ((nt : Nat) : Int)) (b := 64) rfl (by kernel_rfl) (by kernel_rfl) (by omega)) (by rw [Int.tmod_eq_emod_of_nonneg (by omega)]; rfl) ?_)
    refine l_cons (ev_eq (v := (.bool ((((nt % 64 : Nat) : Int) : Int) != 56))) (v' := (.bool false)) (w1 := w7) rfl rfl (by kernel_rfl) (bnef (by first | assumption | omega)) ?_)
    refine l_nil ?_
    refine n_then ?_
    refine k_false (by kernel_rfl) ?_
    refine wp_exit ?_
    refine e_then ?_
    refine e_then ?_
    refine e_in ?_
    refine n_then ?_
    refine wp_seq ?_
    refine wp_seq ?_
    refine k_list ?_
    refine l_cons (ev_run (v := (.int .i64 56)) (w1 := w7) rfl rfl (by kernel_rfl) ?_)
    refine l_nil ?_
    refine n_then ?_
    refine wp_block ?_
    rw [hz5] at hts
    refine k_loop (σ := Nat × Int × Nat × List Int × Option Addr × Nat) (fun x_ => match x_ with | (q, i5, nt3, ts3, At3, ct3) => [(0, (.pointer (some (⟨g, 0, none⟩)))), (3, (.pointer (some (⟨g1, 0, none⟩)))), (4, (.slice At3 nt3 ct3)), (5, (.int .i64 i5))]) (fun x_ w' => match x_ with | (q, i5, nt3, ts3, At3, ct3) => (q ≤ 8) ∧ (i5 = 56 - 8 * ((q : Nat) : Int)) ∧ (nt3 = nt + q) ∧ (ts3 = (ys ++ 128 :: List.replicate (padz ys.length) 0) ++ lb (z8 z) q) ∧ Hp (fun _ => False) w w' [rowR 5 1 At3 nt3 ct3 ((ts3).map fun y => [Value.int .u8 y]), blk g1 [(.int .u32 v.a), (.int .u32 v.b), (.int .u32 v.c), (.int .u32 v.d), (.int .u32 v.e), (.int .u32 v.f), (.int .u32 v.g), (.int .u32 v.h)] 78]) (fun x_ => match x_ with | (q, i5, nt3, ts3, At3, ct3) => 8 - q) (0, 56, nt, ts, At2, ct) ⟨(by first | rfl | kernel_rfl), (by first | rfl | kernel_rfl), (by first | rfl | kernel_rfl), (by first | rfl | kernel_rfl), trivial⟩ ⟨(by omega), (by omega), rfl, (by rw [hts]; exact (List.append_nil _).symm), H10⟩ ?_
    rintro L2 ⟨q, i5, nt3, ts3, At3, ct3⟩ w8 ⟨hq, hi5, hnt3, hts3, H11⟩
    change Code.wp _ _ _ (Fr _ _ [(0, (.pointer (some (⟨g, 0, none⟩)))), (3, (.pointer (some (⟨g1, 0, none⟩)))), (4, (.slice At3 nt3 ct3)), (5, (.int .i64 i5))]) _
    rcases Nat.lt_or_ge q 8 with h8 | h8
    · skip
      refine wp_seq ?_
      refine wp_seq ?_
      refine k_list ?_
      refine l_cons (ev_run (v := (.int .i64 i5)) (w1 := w8) rfl rfl (by kernel_rfl) ?_)
      refine l_cons (ev_eq (v := (.bool (decide ((i5 : Int) ≥ 0)))) (v' := (.bool true)) (w1 := w8) rfl rfl (by kernel_rfl) (bt (by first | assumption | omega)) ?_)
      refine l_nil ?_
      refine n_then ?_
      refine k_true (by kernel_rfl) ?_
      refine wp_skip ?_
      refine n_then ?_
      refine wp_seq ?_
      refine wp_block ?_
      refine k_list ?_
      refine l_cons (ev_run (v := (.slice At3 nt3 ct3)) (w1 := w8) rfl rfl (by kernel_rfl) ?_)
      refine l_cons (ev_run (v := (.pointer (some (⟨g, 0, none⟩)))) (w1 := w8) rfl rfl (by kernel_rfl) ?_)
      refine l_cons (ev_run (v := (.pointer (some (⟨g, 0, none⟩)))) (w1 := w8) rfl rfl (by kernel_rfl) ?_)
      refine l_cons (ev_run (v := (.pointer (some (⟨g, 9, none⟩)))) (w1 := w8) rfl rfl (by kernel_rfl) ?_)
      refine l_cons (ev_run (v := (.int .u64 z)) (w1 := w8) rfl rfl (run_ld rfl (by kernel_rfl) (At.field (At.hp (At.blk hb 0) H11 (fun h => h)) 9) (by kernel_rfl)) ?_)
      refine l_cons (ev_run (v := (.int .u64 (IntKind.u64.wrap (8 * z)))) (w1 := w8) rfl rfl (by kernel_rfl) ?_)
      refine l_cons (ev_run (v := (.int .i64 i5)) (w1 := w8) rfl rfl (by kernel_rfl) ?_)
      refine l_cons (ev_run (v := (.int .u64 (shr .u64 (IntKind.u64.wrap (8 * z)) i5))) (w1 := w8) rfl rfl (run_shr (yk := .i64) rfl (by kernel_rfl) (by kernel_rfl) (by first | decide | omega)) ?_)
      refine l_cons (ev_run (v := (.int .u8 (IntKind.u8.wrap (shr .u64 (IntKind.u64.wrap (8 * z)) i5)))) (w1 := w8) rfl rfl (by kernel_rfl) ?_)
      refine l_cons (ev_newRow (cs := [(.int .u8 (IntKind.u8.wrap (shr .u64 (IntKind.u64.wrap (8 * z)) i5)))]) (t := 5) (len := 1) rfl rfl H11 (by kernel_rfl) ?_)
      intro g4 w9 H12 hg4 hbw9
      refine l_cons (ev_append (e := 5) (sz := 1) (z := (.int .u8 0)) (bytes := 1) 1 (A := At3) (m0 := nt3) (c := ct3) (rows := ((ts3).map fun y => [Value.int .u8 y])) ([[(.int .u8 (IntKind.u8.wrap (shr .u64 (IntKind.u64.wrap (8 * z)) i5)))]] : List (List Value)) (some (⟨g4, 0, none⟩)) 1 1 rfl rfl rfl Try.underlying24 (by kernel_rfl) rfl rfl rfl H12 rfl (by kernel_rfl) (by kernel_rfl) (by first | rfl | (simp; done) | assumption | omega) (fun j row hj => read_blk (H12.get 0 rfl) ([[(.int .u8 (IntKind.u8.wrap (shr .u64 (IntKind.u64.wrap (8 * z)) i5)))]] : List (List Value)) rfl (by first | rfl | kernel_rfl) j row hj) (by first | omega | (simp; omega)) (nt3 + 1) (by first | rfl | omega) ?_)
      intro Aa3 cc3 w10 H13 hcw10
      refine l_cons (ev_run (v := (.slice Aa3 ((nt3 + 1)) cc3)) (w1 := w10) rfl rfl (by kernel_rfl) ?_)
      refine l_nil ?_
      refine n_in ?_
      refine n_then ?_
      refine k_list ?_
      refine l_cons (ev_run (v := (.int .i64 i5)) (w1 := w10) rfl rfl (by kernel_rfl) ?_)
      refine l_cons (ev_eq (v := (.int .i64 (IntKind.i64.wrap (i5 - 8)))) (v' := (.int .i64 ((i5 - 8)))) (w1 := w10) rfl rfl (by kernel_rfl) (wr64 (by omega) (by omega)) ?_)
      refine l_cons (ev_run (v := (.int .i64 ((i5 - 8)))) (w1 := w10) rfl rfl (by kernel_rfl) ?_)
      refine l_nil ?_
      refine n_then ?_
      have H14 := H13.sel [1, 0, 2] (by decide)
      have H15 : Hp (fun _ => False) w w10 [rowR 5 1 Aa3 (nt3 + 1) cc3 ((ts3 ++ [IntKind.u8.wrap (shr .u64 (IntKind.u64.wrap (8 * z)) i5)]).map fun y => [Value.int .u8 y]), blk g4 [(.int .u8 (IntKind.u8.wrap (shr .u64 (IntKind.u64.wrap (8 * z)) i5)))] 5, blk g1 [(.int .u32 v.a), (.int .u32 v.b), (.int .u32 v.c), (.int .u32 v.d), (.int .u32 v.e), (.int .u32 v.f), (.int .u32 v.g), (.int .u32 v.h)] 78] := row_snoc H14
      exact k_round (q + 1, (i5 - 8), (nt3 + 1), ts3 ++ [IntKind.u8.wrap (shr .u64 (IntKind.u64.wrap (8 * z)) i5)], Aa3, cc3) ⟨(by first | rfl | kernel_rfl), (by first | rfl | kernel_rfl), (by first | rfl | kernel_rfl), (by first | rfl | kernel_rfl), trivial⟩ ⟨(by omega), (by omega), (by omega), (by rw [hts3, hi5, List.append_assoc]; rfl), H15.sel [0, 2] (by decide)⟩ (by first | omega | (simp; done) | (simp; omega))
    · skip
      obtain rfl : q = 8 := by omega
      refine wp_seq ?_
      refine wp_seq ?_
      refine k_list ?_
      refine l_cons (ev_run (v := (.int .i64 i5)) (w1 := w8) rfl rfl (by kernel_rfl) ?_)
      refine l_cons (ev_eq (v := (.bool (decide ((i5 : Int) ≥ 0)))) (v' := (.bool false)) (w1 := w8) rfl rfl (by kernel_rfl) (bf (by first | assumption | omega)) ?_)
      refine l_nil ?_
      refine n_then ?_
      refine k_false (by kernel_rfl) ?_
      refine wp_exit ?_
      refine e_then ?_
      refine e_then ?_
      refine e_in ?_
      refine n_then ?_
      refine wp_seq ?_
      refine wp_block ?_
      have hpT : ts3 = padT ys z := hts3
      have hpl := padT_length ys z
      have hpm := padT_mod ys z
      rw [← hpT] at hpl hpm
      have hn3 : nt3 = ts3.length := by rw [hpl]; omega
      have H16 : Hp (fun _ => False) w w8 [slR ((byR At3 nt3 ct3 ts3).fp) At3 nt3 ct3 ts3, blk g1 [(.int .u32 v.a), (.int .u32 v.b), (.int .u32 v.c), (.int .u32 v.d), (.int .u32 v.e), (.int .u32 v.f), (.int .u32 v.g), (.int .u32 v.h)] 78] := H11.imp 0 rfl (slR (byR At3 nt3 ct3 ts3).fp At3 nt3 ct3 ts3) (fun h => slR_row h) (fun k hk => hk)
      refine k_loop (σ := Nat × V8 × Nat × List Int × Option Addr × Nat) (fun x_ => match x_ with | (j, v2, m, us, Ar, cr) => [(3, (.pointer (some (⟨g1, 0, none⟩)))), (4, (.slice Ar m cr))]) (fun x_ w' => match x_ with | (j, v2, m, us, Ar, cr) => (v2 = blkN v ts3 j) ∧ (m = ts3.length - 64 * j) ∧ (64 * j ≤ ts3.length) ∧ (us = ts3.drop (64 * j)) ∧ Hp (fun _ => False) w w' [slR ((byR At3 nt3 ct3 ts3).fp) Ar m cr us, blk g1 [(.int .u32 v2.a), (.int .u32 v2.b), (.int .u32 v2.c), (.int .u32 v2.d), (.int .u32 v2.e), (.int .u32 v2.f), (.int .u32 v2.g), (.int .u32 v2.h)] 78]) (fun x_ => match x_ with | (j, v2, m, us, Ar, cr) => m) (0, v, nt3, ts3, At3, ct3) ⟨(by first | rfl | kernel_rfl), (by first | rfl | kernel_rfl), trivial⟩ ⟨rfl, (by omega), (by omega), (by simp), H16⟩ ?_
      rintro L3 ⟨j, v2, m, us, Ar, cr⟩ w11 ⟨hv, hm, hj, hus, H17⟩
      change Code.wp _ _ _ (Fr _ _ [(3, (.pointer (some (⟨g1, 0, none⟩)))), (4, (.slice Ar m cr))]) _
      have hsl := (H17.get 0 rfl)
      have hcr : m ≤ cr := hsl.1.1
      clear hsl
      rcases Nat.eq_zero_or_pos m with h64 | h64
      · skip
        obtain rfl : j = ts3.length / 64 := by omega
        rw [hv] at H17
        refine wp_seq ?_
        refine wp_seq ?_
        refine k_list ?_
        refine l_cons (ev_run (v := (.slice Ar m cr)) (w1 := w11) rfl rfl (by kernel_rfl) ?_)
        refine l_cons (ev_run (v := (.int .i64 (((m : Nat) : Int)))) (w1 := w11) rfl rfl (by kernel_rfl) ?_)
        refine l_cons (ev_eq (v := (.bool (decide ((((m : Nat) : Int) : Int) > 0)))) (v' := (.bool false)) (w1 := w11) rfl rfl (by kernel_rfl) (bf (by first | assumption | omega)) ?_)
        refine l_nil ?_
        refine n_then ?_
        refine k_false (by kernel_rfl) ?_
        refine wp_exit ?_
        refine e_then ?_
        refine e_then ?_
        refine e_in ?_
        refine n_then ?_
        refine wp_seq ?_
        refine k_list ?_
        refine l_cons (ev_run (v := (.slice none 0 0)) (w1 := w11) rfl rfl (by kernel_rfl) ?_)
        refine l_nil ?_
        refine n_then ?_
        refine wp_seq ?_
        refine wp_seq ?_
        refine k_list ?_
        refine l_cons (ev_run (v := (.agg #[(.int .u32 ((blkN v ts3 (ts3.length / 64)).a)), (.int .u32 ((blkN v ts3 (ts3.length / 64)).b)), (.int .u32 ((blkN v ts3 (ts3.length / 64)).c)), (.int .u32 ((blkN v ts3 (ts3.length / 64)).d)), (.int .u32 ((blkN v ts3 (ts3.length / 64)).e)), (.int .u32 ((blkN v ts3 (ts3.length / 64)).f)), (.int .u32 ((blkN v ts3 (ts3.length / 64)).g)), (.int .u32 ((blkN v ts3 (ts3.length / 64)).h))])) (w1 := w11) rfl rfl (run_ld rfl (by kernel_rfl) (At.blk (H17.get 1 rfl) 0) (by kernel_rfl)) ?_)
        refine l_cons (ev_run (v := (.int .i64 0)) (w1 := w11) rfl rfl (by kernel_rfl) ?_)
        refine l_nil ?_
        refine n_then ?_
        refine wp_block ?_
        have H18 := H17.addE (rowR 5 1 none 0 0 []) (rowR_nil _ _ _) (fun k hk => by cases hk)
        refine k_loop (σ := Nat × Nat × List Int × Option Addr × Nat) (fun x_ => match x_ with | (q, no, os, Ao, co) => [(6, (.slice Ao no co)), (52, (.agg #[(.int .u32 ((blkN v ts3 (ts3.length / 64)).a)), (.int .u32 ((blkN v ts3 (ts3.length / 64)).b)), (.int .u32 ((blkN v ts3 (ts3.length / 64)).c)), (.int .u32 ((blkN v ts3 (ts3.length / 64)).d)), (.int .u32 ((blkN v ts3 (ts3.length / 64)).e)), (.int .u32 ((blkN v ts3 (ts3.length / 64)).f)), (.int .u32 ((blkN v ts3 (ts3.length / 64)).g)), (.int .u32 ((blkN v ts3 (ts3.length / 64)).h))])), (53, (.int .i64 (((q : Nat) : Int))))]) (fun x_ w' => match x_ with | (q, no, os, Ao, co) => (q ≤ 8) ∧ (no = 4 * q) ∧ (os = outB (blkN v ts3 (ts3.length / 64)).l q) ∧ Hp (fun _ => False) w w' [rowR 5 1 Ao no co ((os).map fun y => [Value.int .u8 y])]) (fun x_ => match x_ with | (q, no, os, Ao, co) => 8 - q) (0, 0, [], none, 0) ⟨(by first | rfl | kernel_rfl), (by first | rfl | kernel_rfl), (by first | rfl | kernel_rfl), trivial⟩ ⟨(by omega), rfl, rfl, H18.sel [0] (by decide)⟩ ?_
        rintro L4 ⟨q, no, os, Ao, co⟩ w12 ⟨hq, hno, hos, H19⟩
        change Code.wp _ _ _ (Fr _ _ [(6, (.slice Ao no co)), (52, (.agg #[(.int .u32 ((blkN v ts3 (ts3.length / 64)).a)), (.int .u32 ((blkN v ts3 (ts3.length / 64)).b)), (.int .u32 ((blkN v ts3 (ts3.length / 64)).c)), (.int .u32 ((blkN v ts3 (ts3.length / 64)).d)), (.int .u32 ((blkN v ts3 (ts3.length / 64)).e)), (.int .u32 ((blkN v ts3 (ts3.length / 64)).f)), (.int .u32 ((blkN v ts3 (ts3.length / 64)).g)), (.int .u32 ((blkN v ts3 (ts3.length / 64)).h))])), (53, (.int .i64 (((q : Nat) : Int))))]) _
        rcases cases9 q hq with rfl | rfl | rfl | rfl | rfl | rfl | rfl | rfl | rfl
        · skip
          refine wp_seq ?_
          refine k_list ?_
          refine l_cons (ev_run (v := (.bool true)) (w1 := w12) rfl rfl (by kernel_rfl) ?_)
          refine l_nil ?_
          refine n_then ?_
          refine wp_seq ?_
          refine k_true (by kernel_rfl) ?_
          refine wp_skip ?_
          refine n_then ?_
          refine wp_seq ?_
          refine wp_block ?_
          refine wp_seq ?_
          refine k_list ?_
          refine l_cons (ev_run (v := (.int .u32 ((blkN v ts3 (ts3.length / 64)).a))) (w1 := w12) rfl rfl (by kernel_rfl) ?_)
          refine l_cons (ev_run (v := (.int .u32 ((blkN v ts3 (ts3.length / 64)).a))) (w1 := w12) rfl rfl (by kernel_rfl) ?_)
          refine l_nil ?_
          refine n_then ?_
          refine k_list ?_
          refine l_cons (ev_run (v := (.slice Ao no co)) (w1 := w12) rfl rfl (by kernel_rfl) ?_)
          refine l_cons (ev_run (v := (.int .u32 ((blkN v ts3 (ts3.length / 64)).a))) (w1 := w12) rfl rfl (by kernel_rfl) ?_)
          refine l_cons (ev_run (v := (.int .u32 (shr .u32 ((blkN v ts3 (ts3.length / 64)).a) 24))) (w1 := w12) rfl rfl (run_shr (yk := .u64) rfl (by kernel_rfl) (by kernel_rfl) (by first | decide | omega)) ?_)
          refine l_cons (ev_run (v := (.int .u8 (IntKind.u8.wrap (shr .u32 ((blkN v ts3 (ts3.length / 64)).a) 24)))) (w1 := w12) rfl rfl (by kernel_rfl) ?_)
          refine l_cons (ev_run (v := (.int .u32 ((blkN v ts3 (ts3.length / 64)).a))) (w1 := w12) rfl rfl (by kernel_rfl) ?_)
          refine l_cons (ev_run (v := (.int .u32 (shr .u32 ((blkN v ts3 (ts3.length / 64)).a) 16))) (w1 := w12) rfl rfl (run_shr (yk := .u64) rfl (by kernel_rfl) (by kernel_rfl) (by first | decide | omega)) ?_)
          refine l_cons (ev_run (v := (.int .u8 (IntKind.u8.wrap (shr .u32 ((blkN v ts3 (ts3.length / 64)).a) 16)))) (w1 := w12) rfl rfl (by kernel_rfl) ?_)
          refine l_cons (ev_run (v := (.int .u32 ((blkN v ts3 (ts3.length / 64)).a))) (w1 := w12) rfl rfl (by kernel_rfl) ?_)
          refine l_cons (ev_run (v := (.int .u32 (shr .u32 ((blkN v ts3 (ts3.length / 64)).a) 8))) (w1 := w12) rfl rfl (run_shr (yk := .u64) rfl (by kernel_rfl) (by kernel_rfl) (by first | decide | omega)) ?_)
          refine l_cons (ev_run (v := (.int .u8 (IntKind.u8.wrap (shr .u32 ((blkN v ts3 (ts3.length / 64)).a) 8)))) (w1 := w12) rfl rfl (by kernel_rfl) ?_)
          refine l_cons (ev_run (v := (.int .u32 ((blkN v ts3 (ts3.length / 64)).a))) (w1 := w12) rfl rfl (by kernel_rfl) ?_)
          refine l_cons (ev_run (v := (.int .u8 (IntKind.u8.wrap ((blkN v ts3 (ts3.length / 64)).a)))) (w1 := w12) rfl rfl (by kernel_rfl) ?_)
          refine l_cons (ev_newRow (cs := [(.int .u8 (IntKind.u8.wrap (shr .u32 ((blkN v ts3 (ts3.length / 64)).a) 24))), (.int .u8 (IntKind.u8.wrap (shr .u32 ((blkN v ts3 (ts3.length / 64)).a) 16))), (.int .u8 (IntKind.u8.wrap (shr .u32 ((blkN v ts3 (ts3.length / 64)).a) 8))), (.int .u8 (IntKind.u8.wrap ((blkN v ts3 (ts3.length / 64)).a)))]) (t := 5) (len := 4) rfl rfl H19 (by kernel_rfl) ?_)
          intro g5 w13 H20 hg5 hbw13
          refine l_cons (ev_append (e := 5) (sz := 1) (z := (.int .u8 0)) (bytes := 1) 1 (A := Ao) (m0 := no) (c := co) (rows := ((os).map fun y => [Value.int .u8 y])) ([[(.int .u8 (IntKind.u8.wrap (shr .u32 ((blkN v ts3 (ts3.length / 64)).a) 24)))], [(.int .u8 (IntKind.u8.wrap (shr .u32 ((blkN v ts3 (ts3.length / 64)).a) 16)))], [(.int .u8 (IntKind.u8.wrap (shr .u32 ((blkN v ts3 (ts3.length / 64)).a) 8)))], [(.int .u8 (IntKind.u8.wrap ((blkN v ts3 (ts3.length / 64)).a)))]] : List (List Value)) (some (⟨g5, 0, none⟩)) 4 4 rfl rfl rfl Try.underlying24 (by kernel_rfl) rfl rfl rfl H20 rfl (by kernel_rfl) (by kernel_rfl) (by first | rfl | (simp; done) | assumption | omega) (fun j row hj => read_blk (H20.get 0 rfl) ([[(.int .u8 (IntKind.u8.wrap (shr .u32 ((blkN v ts3 (ts3.length / 64)).a) 24)))], [(.int .u8 (IntKind.u8.wrap (shr .u32 ((blkN v ts3 (ts3.length / 64)).a) 16)))], [(.int .u8 (IntKind.u8.wrap (shr .u32 ((blkN v ts3 (ts3.length / 64)).a) 8)))], [(.int .u8 (IntKind.u8.wrap ((blkN v ts3 (ts3.length / 64)).a)))]] : List (List Value)) rfl (by first | rfl | kernel_rfl) j row hj) (by first | omega | (simp; omega)) (no + 4) (by first | rfl | omega) ?_)
          intro Aa4 cc4 w14 H21 hcw14
          refine l_cons (ev_run (v := (.slice Aa4 ((no + 4)) cc4)) (w1 := w14) rfl rfl (by kernel_rfl) ?_)
          refine l_nil ?_
          refine n_in ?_
          refine n_then ?_
          refine k_list ?_
          refine l_cons (ev_run (v := (.int .i64 1)) (w1 := w14) rfl rfl (by kernel_rfl) ?_)
          refine l_cons (ev_run (v := (.int .i64 1)) (w1 := w14) rfl rfl (by kernel_rfl) ?_)
          refine l_nil ?_
          refine n_then ?_
          have H22 := H21.sel [1, 0] (by decide)
          have H23 : Hp (fun _ => False) w w14 [rowR 5 1 Aa4 (no + 4) cc4 ((os ++ (wb (blkN v ts3 (ts3.length / 64)).a)).map fun y => [Value.int .u8 y]), blk g5 [(.int .u8 (IntKind.u8.wrap (shr .u32 ((blkN v ts3 (ts3.length / 64)).a) 24))), (.int .u8 (IntKind.u8.wrap (shr .u32 ((blkN v ts3 (ts3.length / 64)).a) 16))), (.int .u8 (IntKind.u8.wrap (shr .u32 ((blkN v ts3 (ts3.length / 64)).a) 8))), (.int .u8 (IntKind.u8.wrap ((blkN v ts3 (ts3.length / 64)).a)))] 5] := row_snoc H22
          exact k_round (1, (no + 4), os ++ (wb (blkN v ts3 (ts3.length / 64)).a), Aa4, cc4) ⟨(by first | rfl | kernel_rfl), (by first | rfl | kernel_rfl), (by first | rfl | kernel_rfl), trivial⟩ ⟨(by omega), (by omega), (by rw [hos]; rfl), H23.sel [0] (by decide)⟩ (by first | omega | (simp; done) | (simp; omega))
        · skip
          refine wp_seq ?_
          refine k_list ?_
          refine l_cons (ev_run (v := (.bool true)) (w1 := w12) rfl rfl (by kernel_rfl) ?_)
          refine l_nil ?_
          refine n_then ?_
          refine wp_seq ?_
          refine k_true (by kernel_rfl) ?_
          refine wp_skip ?_
          refine n_then ?_
          refine wp_seq ?_
          refine wp_block ?_
          refine wp_seq ?_
          refine k_list ?_
          refine l_cons (ev_run (v := (.int .u32 ((blkN v ts3 (ts3.length / 64)).b))) (w1 := w12) rfl rfl (by kernel_rfl) ?_)
          refine l_cons (ev_run (v := (.int .u32 ((blkN v ts3 (ts3.length / 64)).b))) (w1 := w12) rfl rfl (by kernel_rfl) ?_)
          refine l_nil ?_
          refine n_then ?_
          refine k_list ?_
          refine l_cons (ev_run (v := (.slice Ao no co)) (w1 := w12) rfl rfl (by kernel_rfl) ?_)
          refine l_cons (ev_run (v := (.int .u32 ((blkN v ts3 (ts3.length / 64)).b))) (w1 := w12) rfl rfl (by kernel_rfl) ?_)
          refine l_cons (ev_run (v := (.int .u32 (shr .u32 ((blkN v ts3 (ts3.length / 64)).b) 24))) (w1 := w12) rfl rfl (run_shr (yk := .u64) rfl (by kernel_rfl) (by kernel_rfl) (by first | decide | omega)) ?_)
          refine l_cons (ev_run (v := (.int .u8 (IntKind.u8.wrap (shr .u32 ((blkN v ts3 (ts3.length / 64)).b) 24)))) (w1 := w12) rfl rfl (by kernel_rfl) ?_)
          refine l_cons (ev_run (v := (.int .u32 ((blkN v ts3 (ts3.length / 64)).b))) (w1 := w12) rfl rfl (by kernel_rfl) ?_)
          refine l_cons (ev_run (v := (.int .u32 (shr .u32 ((blkN v ts3 (ts3.length / 64)).b) 16))) (w1 := w12) rfl rfl (run_shr (yk := .u64) rfl (by kernel_rfl) (by kernel_rfl) (by first | decide | omega)) ?_)
          refine l_cons (ev_run (v := (.int .u8 (IntKind.u8.wrap (shr .u32 ((blkN v ts3 (ts3.length / 64)).b) 16)))) (w1 := w12) rfl rfl (by kernel_rfl) ?_)
          refine l_cons (ev_run (v := (.int .u32 ((blkN v ts3 (ts3.length / 64)).b))) (w1 := w12) rfl rfl (by kernel_rfl) ?_)
          refine l_cons (ev_run (v := (.int .u32 (shr .u32 ((blkN v ts3 (ts3.length / 64)).b) 8))) (w1 := w12) rfl rfl (run_shr (yk := .u64) rfl (by kernel_rfl) (by kernel_rfl) (by first | decide | omega)) ?_)
          refine l_cons (ev_run (v := (.int .u8 (IntKind.u8.wrap (shr .u32 ((blkN v ts3 (ts3.length / 64)).b) 8)))) (w1 := w12) rfl rfl (by kernel_rfl) ?_)
          refine l_cons (ev_run (v := (.int .u32 ((blkN v ts3 (ts3.length / 64)).b))) (w1 := w12) rfl rfl (by kernel_rfl) ?_)
          refine l_cons (ev_run (v := (.int .u8 (IntKind.u8.wrap ((blkN v ts3 (ts3.length / 64)).b)))) (w1 := w12) rfl rfl (by kernel_rfl) ?_)
          refine l_cons (ev_newRow (cs := [(.int .u8 (IntKind.u8.wrap (shr .u32 ((blkN v ts3 (ts3.length / 64)).b) 24))), (.int .u8 (IntKind.u8.wrap (shr .u32 ((blkN v ts3 (ts3.length / 64)).b) 16))), (.int .u8 (IntKind.u8.wrap (shr .u32 ((blkN v ts3 (ts3.length / 64)).b) 8))), (.int .u8 (IntKind.u8.wrap ((blkN v ts3 (ts3.length / 64)).b)))]) (t := 5) (len := 4) rfl rfl H19 (by kernel_rfl) ?_)
          intro g6 w15 H24 hg6 hbw15
          refine l_cons (ev_append (e := 5) (sz := 1) (z := (.int .u8 0)) (bytes := 1) 1 (A := Ao) (m0 := no) (c := co) (rows := ((os).map fun y => [Value.int .u8 y])) ([[(.int .u8 (IntKind.u8.wrap (shr .u32 ((blkN v ts3 (ts3.length / 64)).b) 24)))], [(.int .u8 (IntKind.u8.wrap (shr .u32 ((blkN v ts3 (ts3.length / 64)).b) 16)))], [(.int .u8 (IntKind.u8.wrap (shr .u32 ((blkN v ts3 (ts3.length / 64)).b) 8)))], [(.int .u8 (IntKind.u8.wrap ((blkN v ts3 (ts3.length / 64)).b)))]] : List (List Value)) (some (⟨g6, 0, none⟩)) 4 4 rfl rfl rfl Try.underlying24 (by kernel_rfl) rfl rfl rfl H24 rfl (by kernel_rfl) (by kernel_rfl) (by first | rfl | (simp; done) | assumption | omega) (fun j row hj => read_blk (H24.get 0 rfl) ([[(.int .u8 (IntKind.u8.wrap (shr .u32 ((blkN v ts3 (ts3.length / 64)).b) 24)))], [(.int .u8 (IntKind.u8.wrap (shr .u32 ((blkN v ts3 (ts3.length / 64)).b) 16)))], [(.int .u8 (IntKind.u8.wrap (shr .u32 ((blkN v ts3 (ts3.length / 64)).b) 8)))], [(.int .u8 (IntKind.u8.wrap ((blkN v ts3 (ts3.length / 64)).b)))]] : List (List Value)) rfl (by first | rfl | kernel_rfl) j row hj) (by first | omega | (simp; omega)) (no + 4) (by first | rfl | omega) ?_)
          intro Aa5 cc5 w16 H25 hcw16
          refine l_cons (ev_run (v := (.slice Aa5 ((no + 4)) cc5)) (w1 := w16) rfl rfl (by kernel_rfl) ?_)
          refine l_nil ?_
          refine n_in ?_
          refine n_then ?_
          refine k_list ?_
          refine l_cons (ev_run (v := (.int .i64 2)) (w1 := w16) rfl rfl (by kernel_rfl) ?_)
          refine l_cons (ev_run (v := (.int .i64 2)) (w1 := w16) rfl rfl (by kernel_rfl) ?_)
          refine l_nil ?_
          refine n_then ?_
          have H26 := H25.sel [1, 0] (by decide)
          have H27 : Hp (fun _ => False) w w16 [rowR 5 1 Aa5 (no + 4) cc5 ((os ++ (wb (blkN v ts3 (ts3.length / 64)).b)).map fun y => [Value.int .u8 y]), blk g6 [(.int .u8 (IntKind.u8.wrap (shr .u32 ((blkN v ts3 (ts3.length / 64)).b) 24))), (.int .u8 (IntKind.u8.wrap (shr .u32 ((blkN v ts3 (ts3.length / 64)).b) 16))), (.int .u8 (IntKind.u8.wrap (shr .u32 ((blkN v ts3 (ts3.length / 64)).b) 8))), (.int .u8 (IntKind.u8.wrap ((blkN v ts3 (ts3.length / 64)).b)))] 5] := row_snoc H26
          exact k_round (2, (no + 4), os ++ (wb (blkN v ts3 (ts3.length / 64)).b), Aa5, cc5) ⟨(by first | rfl | kernel_rfl), (by first | rfl | kernel_rfl), (by first | rfl | kernel_rfl), trivial⟩ ⟨(by omega), (by omega), (by rw [hos]; rfl), H27.sel [0] (by decide)⟩ (by first | omega | (simp; done) | (simp; omega))
        · skip
          refine wp_seq ?_
          refine k_list ?_
          refine l_cons (ev_run (v := (.bool true)) (w1 := w12) rfl rfl (by kernel_rfl) ?_)
          refine l_nil ?_
          refine n_then ?_
          refine wp_seq ?_
          refine k_true (by kernel_rfl) ?_
          refine wp_skip ?_
          refine n_then ?_
          refine wp_seq ?_
          refine wp_block ?_
          refine wp_seq ?_
          refine k_list ?_
          refine l_cons (ev_run (v := (.int .u32 ((blkN v ts3 (ts3.length / 64)).c))) (w1 := w12) rfl rfl (by kernel_rfl) ?_)
          refine l_cons (ev_run (v := (.int .u32 ((blkN v ts3 (ts3.length / 64)).c))) (w1 := w12) rfl rfl (by kernel_rfl) ?_)
          refine l_nil ?_
          refine n_then ?_
          refine k_list ?_
          refine l_cons (ev_run (v := (.slice Ao no co)) (w1 := w12) rfl rfl (by kernel_rfl) ?_)
          refine l_cons (ev_run (v := (.int .u32 ((blkN v ts3 (ts3.length / 64)).c))) (w1 := w12) rfl rfl (by kernel_rfl) ?_)
          refine l_cons (ev_run (v := (.int .u32 (shr .u32 ((blkN v ts3 (ts3.length / 64)).c) 24))) (w1 := w12) rfl rfl (run_shr (yk := .u64) rfl (by kernel_rfl) (by kernel_rfl) (by first | decide | omega)) ?_)
          refine l_cons (ev_run (v := (.int .u8 (IntKind.u8.wrap (shr .u32 ((blkN v ts3 (ts3.length / 64)).c) 24)))) (w1 := w12) rfl rfl (by kernel_rfl) ?_)
          refine l_cons (ev_run (v := (.int .u32 ((blkN v ts3 (ts3.length / 64)).c))) (w1 := w12) rfl rfl (by kernel_rfl) ?_)
          refine l_cons (ev_run (v := (.int .u32 (shr .u32 ((blkN v ts3 (ts3.length / 64)).c) 16))) (w1 := w12) rfl rfl (run_shr (yk := .u64) rfl (by kernel_rfl) (by kernel_rfl) (by first | decide | omega)) ?_)
          refine l_cons (ev_run (v := (.int .u8 (IntKind.u8.wrap (shr .u32 ((blkN v ts3 (ts3.length / 64)).c) 16)))) (w1 := w12) rfl rfl (by kernel_rfl) ?_)
          refine l_cons (ev_run (v := (.int .u32 ((blkN v ts3 (ts3.length / 64)).c))) (w1 := w12) rfl rfl (by kernel_rfl) ?_)
          refine l_cons (ev_run (v := (.int .u32 (shr .u32 ((blkN v ts3 (ts3.length / 64)).c) 8))) (w1 := w12) rfl rfl (run_shr (yk := .u64) rfl (by kernel_rfl) (by kernel_rfl) (by first | decide | omega)) ?_)
          refine l_cons (ev_run (v := (.int .u8 (IntKind.u8.wrap (shr .u32 ((blkN v ts3 (ts3.length / 64)).c) 8)))) (w1 := w12) rfl rfl (by kernel_rfl) ?_)
          refine l_cons (ev_run (v := (.int .u32 ((blkN v ts3 (ts3.length / 64)).c))) (w1 := w12) rfl rfl (by kernel_rfl) ?_)
          refine l_cons (ev_run (v := (.int .u8 (IntKind.u8.wrap ((blkN v ts3 (ts3.length / 64)).c)))) (w1 := w12) rfl rfl (by kernel_rfl) ?_)
          refine l_cons (ev_newRow (cs := [(.int .u8 (IntKind.u8.wrap (shr .u32 ((blkN v ts3 (ts3.length / 64)).c) 24))), (.int .u8 (IntKind.u8.wrap (shr .u32 ((blkN v ts3 (ts3.length / 64)).c) 16))), (.int .u8 (IntKind.u8.wrap (shr .u32 ((blkN v ts3 (ts3.length / 64)).c) 8))), (.int .u8 (IntKind.u8.wrap ((blkN v ts3 (ts3.length / 64)).c)))]) (t := 5) (len := 4) rfl rfl H19 (by kernel_rfl) ?_)
          intro g7 w17 H28 hg7 hbw17
          refine l_cons (ev_append (e := 5) (sz := 1) (z := (.int .u8 0)) (bytes := 1) 1 (A := Ao) (m0 := no) (c := co) (rows := ((os).map fun y => [Value.int .u8 y])) ([[(.int .u8 (IntKind.u8.wrap (shr .u32 ((blkN v ts3 (ts3.length / 64)).c) 24)))], [(.int .u8 (IntKind.u8.wrap (shr .u32 ((blkN v ts3 (ts3.length / 64)).c) 16)))], [(.int .u8 (IntKind.u8.wrap (shr .u32 ((blkN v ts3 (ts3.length / 64)).c) 8)))], [(.int .u8 (IntKind.u8.wrap ((blkN v ts3 (ts3.length / 64)).c)))]] : List (List Value)) (some (⟨g7, 0, none⟩)) 4 4 rfl rfl rfl Try.underlying24 (by kernel_rfl) rfl rfl rfl H28 rfl (by kernel_rfl) (by kernel_rfl) (by first | rfl | (simp; done) | assumption | omega) (fun j row hj => read_blk (H28.get 0 rfl) ([[(.int .u8 (IntKind.u8.wrap (shr .u32 ((blkN v ts3 (ts3.length / 64)).c) 24)))], [(.int .u8 (IntKind.u8.wrap (shr .u32 ((blkN v ts3 (ts3.length / 64)).c) 16)))], [(.int .u8 (IntKind.u8.wrap (shr .u32 ((blkN v ts3 (ts3.length / 64)).c) 8)))], [(.int .u8 (IntKind.u8.wrap ((blkN v ts3 (ts3.length / 64)).c)))]] : List (List Value)) rfl (by first | rfl | kernel_rfl) j row hj) (by first | omega | (simp; omega)) (no + 4) (by first | rfl | omega) ?_)
          intro Aa6 cc6 w18 H29 hcw18
          refine l_cons (ev_run (v := (.slice Aa6 ((no + 4)) cc6)) (w1 := w18) rfl rfl (by kernel_rfl) ?_)
          refine l_nil ?_
          refine n_in ?_
          refine n_then ?_
          refine k_list ?_
          refine l_cons (ev_run (v := (.int .i64 3)) (w1 := w18) rfl rfl (by kernel_rfl) ?_)
          refine l_cons (ev_run (v := (.int .i64 3)) (w1 := w18) rfl rfl (by kernel_rfl) ?_)
          refine l_nil ?_
          refine n_then ?_
          have H30 := H29.sel [1, 0] (by decide)
          have H31 : Hp (fun _ => False) w w18 [rowR 5 1 Aa6 (no + 4) cc6 ((os ++ (wb (blkN v ts3 (ts3.length / 64)).c)).map fun y => [Value.int .u8 y]), blk g7 [(.int .u8 (IntKind.u8.wrap (shr .u32 ((blkN v ts3 (ts3.length / 64)).c) 24))), (.int .u8 (IntKind.u8.wrap (shr .u32 ((blkN v ts3 (ts3.length / 64)).c) 16))), (.int .u8 (IntKind.u8.wrap (shr .u32 ((blkN v ts3 (ts3.length / 64)).c) 8))), (.int .u8 (IntKind.u8.wrap ((blkN v ts3 (ts3.length / 64)).c)))] 5] := row_snoc H30
          exact k_round (3, (no + 4), os ++ (wb (blkN v ts3 (ts3.length / 64)).c), Aa6, cc6) ⟨(by first | rfl | kernel_rfl), (by first | rfl | kernel_rfl), (by first | rfl | kernel_rfl), trivial⟩ ⟨(by omega), (by omega), (by rw [hos]; rfl), H31.sel [0] (by decide)⟩ (by first | omega | (simp; done) | (simp; omega))
        · skip
          refine wp_seq ?_
          refine k_list ?_
          refine l_cons (ev_run (v := (.bool true)) (w1 := w12) rfl rfl (by kernel_rfl) ?_)
          refine l_nil ?_
          refine n_then ?_
          refine wp_seq ?_
          refine k_true (by kernel_rfl) ?_
          refine wp_skip ?_
          refine n_then ?_
          refine wp_seq ?_
          refine wp_block ?_
          refine wp_seq ?_
          refine k_list ?_
          refine l_cons (ev_run (v := (.int .u32 ((blkN v ts3 (ts3.length / 64)).d))) (w1 := w12) rfl rfl (by kernel_rfl) ?_)
          refine l_cons (ev_run (v := (.int .u32 ((blkN v ts3 (ts3.length / 64)).d))) (w1 := w12) rfl rfl (by kernel_rfl) ?_)
          refine l_nil ?_
          refine n_then ?_
          refine k_list ?_
          refine l_cons (ev_run (v := (.slice Ao no co)) (w1 := w12) rfl rfl (by kernel_rfl) ?_)
          refine l_cons (ev_run (v := (.int .u32 ((blkN v ts3 (ts3.length / 64)).d))) (w1 := w12) rfl rfl (by kernel_rfl) ?_)
          refine l_cons (ev_run (v := (.int .u32 (shr .u32 ((blkN v ts3 (ts3.length / 64)).d) 24))) (w1 := w12) rfl rfl (run_shr (yk := .u64) rfl (by kernel_rfl) (by kernel_rfl) (by first | decide | omega)) ?_)
          refine l_cons (ev_run (v := (.int .u8 (IntKind.u8.wrap (shr .u32 ((blkN v ts3 (ts3.length / 64)).d) 24)))) (w1 := w12) rfl rfl (by kernel_rfl) ?_)
          refine l_cons (ev_run (v := (.int .u32 ((blkN v ts3 (ts3.length / 64)).d))) (w1 := w12) rfl rfl (by kernel_rfl) ?_)
          refine l_cons (ev_run (v := (.int .u32 (shr .u32 ((blkN v ts3 (ts3.length / 64)).d) 16))) (w1 := w12) rfl rfl (run_shr (yk := .u64) rfl (by kernel_rfl) (by kernel_rfl) (by first | decide | omega)) ?_)
          refine l_cons (ev_run (v := (.int .u8 (IntKind.u8.wrap (shr .u32 ((blkN v ts3 (ts3.length / 64)).d) 16)))) (w1 := w12) rfl rfl (by kernel_rfl) ?_)
          refine l_cons (ev_run (v := (.int .u32 ((blkN v ts3 (ts3.length / 64)).d))) (w1 := w12) rfl rfl (by kernel_rfl) ?_)
          refine l_cons (ev_run (v := (.int .u32 (shr .u32 ((blkN v ts3 (ts3.length / 64)).d) 8))) (w1 := w12) rfl rfl (run_shr (yk := .u64) rfl (by kernel_rfl) (by kernel_rfl) (by first | decide | omega)) ?_)
          refine l_cons (ev_run (v := (.int .u8 (IntKind.u8.wrap (shr .u32 ((blkN v ts3 (ts3.length / 64)).d) 8)))) (w1 := w12) rfl rfl (by kernel_rfl) ?_)
          refine l_cons (ev_run (v := (.int .u32 ((blkN v ts3 (ts3.length / 64)).d))) (w1 := w12) rfl rfl (by kernel_rfl) ?_)
          refine l_cons (ev_run (v := (.int .u8 (IntKind.u8.wrap ((blkN v ts3 (ts3.length / 64)).d)))) (w1 := w12) rfl rfl (by kernel_rfl) ?_)
          refine l_cons (ev_newRow (cs := [(.int .u8 (IntKind.u8.wrap (shr .u32 ((blkN v ts3 (ts3.length / 64)).d) 24))), (.int .u8 (IntKind.u8.wrap (shr .u32 ((blkN v ts3 (ts3.length / 64)).d) 16))), (.int .u8 (IntKind.u8.wrap (shr .u32 ((blkN v ts3 (ts3.length / 64)).d) 8))), (.int .u8 (IntKind.u8.wrap ((blkN v ts3 (ts3.length / 64)).d)))]) (t := 5) (len := 4) rfl rfl H19 (by kernel_rfl) ?_)
          intro g8 w19 H32 hg8 hbw19
          refine l_cons (ev_append (e := 5) (sz := 1) (z := (.int .u8 0)) (bytes := 1) 1 (A := Ao) (m0 := no) (c := co) (rows := ((os).map fun y => [Value.int .u8 y])) ([[(.int .u8 (IntKind.u8.wrap (shr .u32 ((blkN v ts3 (ts3.length / 64)).d) 24)))], [(.int .u8 (IntKind.u8.wrap (shr .u32 ((blkN v ts3 (ts3.length / 64)).d) 16)))], [(.int .u8 (IntKind.u8.wrap (shr .u32 ((blkN v ts3 (ts3.length / 64)).d) 8)))], [(.int .u8 (IntKind.u8.wrap ((blkN v ts3 (ts3.length / 64)).d)))]] : List (List Value)) (some (⟨g8, 0, none⟩)) 4 4 rfl rfl rfl Try.underlying24 (by kernel_rfl) rfl rfl rfl H32 rfl (by kernel_rfl) (by kernel_rfl) (by first | rfl | (simp; done) | assumption | omega) (fun j row hj => read_blk (H32.get 0 rfl) ([[(.int .u8 (IntKind.u8.wrap (shr .u32 ((blkN v ts3 (ts3.length / 64)).d) 24)))], [(.int .u8 (IntKind.u8.wrap (shr .u32 ((blkN v ts3 (ts3.length / 64)).d) 16)))], [(.int .u8 (IntKind.u8.wrap (shr .u32 ((blkN v ts3 (ts3.length / 64)).d) 8)))], [(.int .u8 (IntKind.u8.wrap ((blkN v ts3 (ts3.length / 64)).d)))]] : List (List Value)) rfl (by first | rfl | kernel_rfl) j row hj) (by first | omega | (simp; omega)) (no + 4) (by first | rfl | omega) ?_)
          intro Aa7 cc7 w20 H33 hcw20
          refine l_cons (ev_run (v := (.slice Aa7 ((no + 4)) cc7)) (w1 := w20) rfl rfl (by kernel_rfl) ?_)
          refine l_nil ?_
          refine n_in ?_
          refine n_then ?_
          refine k_list ?_
          refine l_cons (ev_run (v := (.int .i64 4)) (w1 := w20) rfl rfl (by kernel_rfl) ?_)
          refine l_cons (ev_run (v := (.int .i64 4)) (w1 := w20) rfl rfl (by kernel_rfl) ?_)
          refine l_nil ?_
          refine n_then ?_
          have H34 := H33.sel [1, 0] (by decide)
          have H35 : Hp (fun _ => False) w w20 [rowR 5 1 Aa7 (no + 4) cc7 ((os ++ (wb (blkN v ts3 (ts3.length / 64)).d)).map fun y => [Value.int .u8 y]), blk g8 [(.int .u8 (IntKind.u8.wrap (shr .u32 ((blkN v ts3 (ts3.length / 64)).d) 24))), (.int .u8 (IntKind.u8.wrap (shr .u32 ((blkN v ts3 (ts3.length / 64)).d) 16))), (.int .u8 (IntKind.u8.wrap (shr .u32 ((blkN v ts3 (ts3.length / 64)).d) 8))), (.int .u8 (IntKind.u8.wrap ((blkN v ts3 (ts3.length / 64)).d)))] 5] := row_snoc H34
          exact k_round (4, (no + 4), os ++ (wb (blkN v ts3 (ts3.length / 64)).d), Aa7, cc7) ⟨(by first | rfl | kernel_rfl), (by first | rfl | kernel_rfl), (by first | rfl | kernel_rfl), trivial⟩ ⟨(by omega), (by omega), (by rw [hos]; rfl), H35.sel [0] (by decide)⟩ (by first | omega | (simp; done) | (simp; omega))
        · skip
          refine wp_seq ?_
          refine k_list ?_
          refine l_cons (ev_run (v := (.bool true)) (w1 := w12) rfl rfl (by kernel_rfl) ?_)
          refine l_nil ?_
          refine n_then ?_
          refine wp_seq ?_
          refine k_true (by kernel_rfl) ?_
          refine wp_skip ?_
          refine n_then ?_
          refine wp_seq ?_
          refine wp_block ?_
          refine wp_seq ?_
          refine k_list ?_
          refine l_cons (ev_run (v := (.int .u32 ((blkN v ts3 (ts3.length / 64)).e))) (w1 := w12) rfl rfl (by kernel_rfl) ?_)
          refine l_cons (ev_run (v := (.int .u32 ((blkN v ts3 (ts3.length / 64)).e))) (w1 := w12) rfl rfl (by kernel_rfl) ?_)
          refine l_nil ?_
          refine n_then ?_
          refine k_list ?_
          refine l_cons (ev_run (v := (.slice Ao no co)) (w1 := w12) rfl rfl (by kernel_rfl) ?_)
          refine l_cons (ev_run (v := (.int .u32 ((blkN v ts3 (ts3.length / 64)).e))) (w1 := w12) rfl rfl (by kernel_rfl) ?_)
          refine l_cons (ev_run (v := (.int .u32 (shr .u32 ((blkN v ts3 (ts3.length / 64)).e) 24))) (w1 := w12) rfl rfl (run_shr (yk := .u64) rfl (by kernel_rfl) (by kernel_rfl) (by first | decide | omega)) ?_)
          refine l_cons (ev_run (v := (.int .u8 (IntKind.u8.wrap (shr .u32 ((blkN v ts3 (ts3.length / 64)).e) 24)))) (w1 := w12) rfl rfl (by kernel_rfl) ?_)
          refine l_cons (ev_run (v := (.int .u32 ((blkN v ts3 (ts3.length / 64)).e))) (w1 := w12) rfl rfl (by kernel_rfl) ?_)
          refine l_cons (ev_run (v := (.int .u32 (shr .u32 ((blkN v ts3 (ts3.length / 64)).e) 16))) (w1 := w12) rfl rfl (run_shr (yk := .u64) rfl (by kernel_rfl) (by kernel_rfl) (by first | decide | omega)) ?_)
          refine l_cons (ev_run (v := (.int .u8 (IntKind.u8.wrap (shr .u32 ((blkN v ts3 (ts3.length / 64)).e) 16)))) (w1 := w12) rfl rfl (by kernel_rfl) ?_)
          refine l_cons (ev_run (v := (.int .u32 ((blkN v ts3 (ts3.length / 64)).e))) (w1 := w12) rfl rfl (by kernel_rfl) ?_)
          refine l_cons (ev_run (v := (.int .u32 (shr .u32 ((blkN v ts3 (ts3.length / 64)).e) 8))) (w1 := w12) rfl rfl (run_shr (yk := .u64) rfl (by kernel_rfl) (by kernel_rfl) (by first | decide | omega)) ?_)
          refine l_cons (ev_run (v := (.int .u8 (IntKind.u8.wrap (shr .u32 ((blkN v ts3 (ts3.length / 64)).e) 8)))) (w1 := w12) rfl rfl (by kernel_rfl) ?_)
          refine l_cons (ev_run (v := (.int .u32 ((blkN v ts3 (ts3.length / 64)).e))) (w1 := w12) rfl rfl (by kernel_rfl) ?_)
          refine l_cons (ev_run (v := (.int .u8 (IntKind.u8.wrap ((blkN v ts3 (ts3.length / 64)).e)))) (w1 := w12) rfl rfl (by kernel_rfl) ?_)
          refine l_cons (ev_newRow (cs := [(.int .u8 (IntKind.u8.wrap (shr .u32 ((blkN v ts3 (ts3.length / 64)).e) 24))), (.int .u8 (IntKind.u8.wrap (shr .u32 ((blkN v ts3 (ts3.length / 64)).e) 16))), (.int .u8 (IntKind.u8.wrap (shr .u32 ((blkN v ts3 (ts3.length / 64)).e) 8))), (.int .u8 (IntKind.u8.wrap ((blkN v ts3 (ts3.length / 64)).e)))]) (t := 5) (len := 4) rfl rfl H19 (by kernel_rfl) ?_)
          intro g9 w21 H36 hg9 hbw21
          refine l_cons (ev_append (e := 5) (sz := 1) (z := (.int .u8 0)) (bytes := 1) 1 (A := Ao) (m0 := no) (c := co) (rows := ((os).map fun y => [Value.int .u8 y])) ([[(.int .u8 (IntKind.u8.wrap (shr .u32 ((blkN v ts3 (ts3.length / 64)).e) 24)))], [(.int .u8 (IntKind.u8.wrap (shr .u32 ((blkN v ts3 (ts3.length / 64)).e) 16)))], [(.int .u8 (IntKind.u8.wrap (shr .u32 ((blkN v ts3 (ts3.length / 64)).e) 8)))], [(.int .u8 (IntKind.u8.wrap ((blkN v ts3 (ts3.length / 64)).e)))]] : List (List Value)) (some (⟨g9, 0, none⟩)) 4 4 rfl rfl rfl Try.underlying24 (by kernel_rfl) rfl rfl rfl H36 rfl (by kernel_rfl) (by kernel_rfl) (by first | rfl | (simp; done) | assumption | omega) (fun j row hj => read_blk (H36.get 0 rfl) ([[(.int .u8 (IntKind.u8.wrap (shr .u32 ((blkN v ts3 (ts3.length / 64)).e) 24)))], [(.int .u8 (IntKind.u8.wrap (shr .u32 ((blkN v ts3 (ts3.length / 64)).e) 16)))], [(.int .u8 (IntKind.u8.wrap (shr .u32 ((blkN v ts3 (ts3.length / 64)).e) 8)))], [(.int .u8 (IntKind.u8.wrap ((blkN v ts3 (ts3.length / 64)).e)))]] : List (List Value)) rfl (by first | rfl | kernel_rfl) j row hj) (by first | omega | (simp; omega)) (no + 4) (by first | rfl | omega) ?_)
          intro Aa8 cc8 w22 H37 hcw22
          refine l_cons (ev_run (v := (.slice Aa8 ((no + 4)) cc8)) (w1 := w22) rfl rfl (by kernel_rfl) ?_)
          refine l_nil ?_
          refine n_in ?_
          refine n_then ?_
          refine k_list ?_
          refine l_cons (ev_run (v := (.int .i64 5)) (w1 := w22) rfl rfl (by kernel_rfl) ?_)
          refine l_cons (ev_run (v := (.int .i64 5)) (w1 := w22) rfl rfl (by kernel_rfl) ?_)
          refine l_nil ?_
          refine n_then ?_
          have H38 := H37.sel [1, 0] (by decide)
          have H39 : Hp (fun _ => False) w w22 [rowR 5 1 Aa8 (no + 4) cc8 ((os ++ (wb (blkN v ts3 (ts3.length / 64)).e)).map fun y => [Value.int .u8 y]), blk g9 [(.int .u8 (IntKind.u8.wrap (shr .u32 ((blkN v ts3 (ts3.length / 64)).e) 24))), (.int .u8 (IntKind.u8.wrap (shr .u32 ((blkN v ts3 (ts3.length / 64)).e) 16))), (.int .u8 (IntKind.u8.wrap (shr .u32 ((blkN v ts3 (ts3.length / 64)).e) 8))), (.int .u8 (IntKind.u8.wrap ((blkN v ts3 (ts3.length / 64)).e)))] 5] := row_snoc H38
          exact k_round (5, (no + 4), os ++ (wb (blkN v ts3 (ts3.length / 64)).e), Aa8, cc8) ⟨(by first | rfl | kernel_rfl), (by first | rfl | kernel_rfl), (by first | rfl | kernel_rfl), trivial⟩ ⟨(by omega), (by omega), (by rw [hos]; rfl), H39.sel [0] (by decide)⟩ (by first | omega | (simp; done) | (simp; omega))
        · skip
          refine wp_seq ?_
          refine k_list ?_
          refine l_cons (ev_run (v := (.bool true)) (w1 := w12) rfl rfl (by kernel_rfl) ?_)
          refine l_nil ?_
          refine n_then ?_
          refine wp_seq ?_
          refine k_true (by kernel_rfl) ?_
          refine wp_skip ?_
          refine n_then ?_
          refine wp_seq ?_
          refine wp_block ?_
          refine wp_seq ?_
          refine k_list ?_
          refine l_cons (ev_run (v := (.int .u32 ((blkN v ts3 (ts3.length / 64)).f))) (w1 := w12) rfl rfl (by kernel_rfl) ?_)
          refine l_cons (ev_run (v := (.int .u32 ((blkN v ts3 (ts3.length / 64)).f))) (w1 := w12) rfl rfl (by kernel_rfl) ?_)
          refine l_nil ?_
          refine n_then ?_
          refine k_list ?_
          refine l_cons (ev_run (v := (.slice Ao no co)) (w1 := w12) rfl rfl (by kernel_rfl) ?_)
          refine l_cons (ev_run (v := (.int .u32 ((blkN v ts3 (ts3.length / 64)).f))) (w1 := w12) rfl rfl (by kernel_rfl) ?_)
          refine l_cons (ev_run (v := (.int .u32 (shr .u32 ((blkN v ts3 (ts3.length / 64)).f) 24))) (w1 := w12) rfl rfl (run_shr (yk := .u64) rfl (by kernel_rfl) (by kernel_rfl) (by first | decide | omega)) ?_)
          refine l_cons (ev_run (v := (.int .u8 (IntKind.u8.wrap (shr .u32 ((blkN v ts3 (ts3.length / 64)).f) 24)))) (w1 := w12) rfl rfl (by kernel_rfl) ?_)
          refine l_cons (ev_run (v := (.int .u32 ((blkN v ts3 (ts3.length / 64)).f))) (w1 := w12) rfl rfl (by kernel_rfl) ?_)
          refine l_cons (ev_run (v := (.int .u32 (shr .u32 ((blkN v ts3 (ts3.length / 64)).f) 16))) (w1 := w12) rfl rfl (run_shr (yk := .u64) rfl (by kernel_rfl) (by kernel_rfl) (by first | decide | omega)) ?_)
          refine l_cons (ev_run (v := (.int .u8 (IntKind.u8.wrap (shr .u32 ((blkN v ts3 (ts3.length / 64)).f) 16)))) (w1 := w12) rfl rfl (by kernel_rfl) ?_)
          refine l_cons (ev_run (v := (.int .u32 ((blkN v ts3 (ts3.length / 64)).f))) (w1 := w12) rfl rfl (by kernel_rfl) ?_)
          refine l_cons (ev_run (v := (.int .u32 (shr .u32 ((blkN v ts3 (ts3.length / 64)).f) 8))) (w1 := w12) rfl rfl (run_shr (yk := .u64) rfl (by kernel_rfl) (by kernel_rfl) (by first | decide | omega)) ?_)
          refine l_cons (ev_run (v := (.int .u8 (IntKind.u8.wrap (shr .u32 ((blkN v ts3 (ts3.length / 64)).f) 8)))) (w1 := w12) rfl rfl (by kernel_rfl) ?_)
          refine l_cons (ev_run (v := (.int .u32 ((blkN v ts3 (ts3.length / 64)).f))) (w1 := w12) rfl rfl (by kernel_rfl) ?_)
          refine l_cons (ev_run (v := (.int .u8 (IntKind.u8.wrap ((blkN v ts3 (ts3.length / 64)).f)))) (w1 := w12) rfl rfl (by kernel_rfl) ?_)
          refine l_cons (ev_newRow (cs := [(.int .u8 (IntKind.u8.wrap (shr .u32 ((blkN v ts3 (ts3.length / 64)).f) 24))), (.int .u8 (IntKind.u8.wrap (shr .u32 ((blkN v ts3 (ts3.length / 64)).f) 16))), (.int .u8 (IntKind.u8.wrap (shr .u32 ((blkN v ts3 (ts3.length / 64)).f) 8))), (.int .u8 (IntKind.u8.wrap ((blkN v ts3 (ts3.length / 64)).f)))]) (t := 5) (len := 4) rfl rfl H19 (by kernel_rfl) ?_)
          intro g10 w23 H40 hg10 hbw23
          refine l_cons (ev_append (e := 5) (sz := 1) (z := (.int .u8 0)) (bytes := 1) 1 (A := Ao) (m0 := no) (c := co) (rows := ((os).map fun y => [Value.int .u8 y])) ([[(.int .u8 (IntKind.u8.wrap (shr .u32 ((blkN v ts3 (ts3.length / 64)).f) 24)))], [(.int .u8 (IntKind.u8.wrap (shr .u32 ((blkN v ts3 (ts3.length / 64)).f) 16)))], [(.int .u8 (IntKind.u8.wrap (shr .u32 ((blkN v ts3 (ts3.length / 64)).f) 8)))], [(.int .u8 (IntKind.u8.wrap ((blkN v ts3 (ts3.length / 64)).f)))]] : List (List Value)) (some (⟨g10, 0, none⟩)) 4 4 rfl rfl rfl Try.underlying24 (by kernel_rfl) rfl rfl rfl H40 rfl (by kernel_rfl) (by kernel_rfl) (by first | rfl | (simp; done) | assumption | omega) (fun j row hj => read_blk (H40.get 0 rfl) ([[(.int .u8 (IntKind.u8.wrap (shr .u32 ((blkN v ts3 (ts3.length / 64)).f) 24)))], [(.int .u8 (IntKind.u8.wrap (shr .u32 ((blkN v ts3 (ts3.length / 64)).f) 16)))], [(.int .u8 (IntKind.u8.wrap (shr .u32 ((blkN v ts3 (ts3.length / 64)).f) 8)))], [(.int .u8 (IntKind.u8.wrap ((blkN v ts3 (ts3.length / 64)).f)))]] : List (List Value)) rfl (by first | rfl | kernel_rfl) j row hj) (by first | omega | (simp; omega)) (no + 4) (by first | rfl | omega) ?_)
          intro Aa9 cc9 w24 H41 hcw24
          refine l_cons (ev_run (v := (.slice Aa9 ((no + 4)) cc9)) (w1 := w24) rfl rfl (by kernel_rfl) ?_)
          refine l_nil ?_
          refine n_in ?_
          refine n_then ?_
          refine k_list ?_
          refine l_cons (ev_run (v := (.int .i64 6)) (w1 := w24) rfl rfl (by kernel_rfl) ?_)
          refine l_cons (ev_run (v := (.int .i64 6)) (w1 := w24) rfl rfl (by kernel_rfl) ?_)
          refine l_nil ?_
          refine n_then ?_
          have H42 := H41.sel [1, 0] (by decide)
          have H43 : Hp (fun _ => False) w w24 [rowR 5 1 Aa9 (no + 4) cc9 ((os ++ (wb (blkN v ts3 (ts3.length / 64)).f)).map fun y => [Value.int .u8 y]), blk g10 [(.int .u8 (IntKind.u8.wrap (shr .u32 ((blkN v ts3 (ts3.length / 64)).f) 24))), (.int .u8 (IntKind.u8.wrap (shr .u32 ((blkN v ts3 (ts3.length / 64)).f) 16))), (.int .u8 (IntKind.u8.wrap (shr .u32 ((blkN v ts3 (ts3.length / 64)).f) 8))), (.int .u8 (IntKind.u8.wrap ((blkN v ts3 (ts3.length / 64)).f)))] 5] := row_snoc H42
          exact k_round (6, (no + 4), os ++ (wb (blkN v ts3 (ts3.length / 64)).f), Aa9, cc9) ⟨(by first | rfl | kernel_rfl), (by first | rfl | kernel_rfl), (by first | rfl | kernel_rfl), trivial⟩ ⟨(by omega), (by omega), (by rw [hos]; rfl), H43.sel [0] (by decide)⟩ (by first | omega | (simp; done) | (simp; omega))
        · skip
          refine wp_seq ?_
          refine k_list ?_
          refine l_cons (ev_run (v := (.bool true)) (w1 := w12) rfl rfl (by kernel_rfl) ?_)
          refine l_nil ?_
          refine n_then ?_
          refine wp_seq ?_
          refine k_true (by kernel_rfl) ?_
          refine wp_skip ?_
          refine n_then ?_
          refine wp_seq ?_
          refine wp_block ?_
          refine wp_seq ?_
          refine k_list ?_
          refine l_cons (ev_run (v := (.int .u32 ((blkN v ts3 (ts3.length / 64)).g))) (w1 := w12) rfl rfl (by kernel_rfl) ?_)
          refine l_cons (ev_run (v := (.int .u32 ((blkN v ts3 (ts3.length / 64)).g))) (w1 := w12) rfl rfl (by kernel_rfl) ?_)
          refine l_nil ?_
          refine n_then ?_
          refine k_list ?_
          refine l_cons (ev_run (v := (.slice Ao no co)) (w1 := w12) rfl rfl (by kernel_rfl) ?_)
          refine l_cons (ev_run (v := (.int .u32 ((blkN v ts3 (ts3.length / 64)).g))) (w1 := w12) rfl rfl (by kernel_rfl) ?_)
          refine l_cons (ev_run (v := (.int .u32 (shr .u32 ((blkN v ts3 (ts3.length / 64)).g) 24))) (w1 := w12) rfl rfl (run_shr (yk := .u64) rfl (by kernel_rfl) (by kernel_rfl) (by first | decide | omega)) ?_)
          refine l_cons (ev_run (v := (.int .u8 (IntKind.u8.wrap (shr .u32 ((blkN v ts3 (ts3.length / 64)).g) 24)))) (w1 := w12) rfl rfl (by kernel_rfl) ?_)
          refine l_cons (ev_run (v := (.int .u32 ((blkN v ts3 (ts3.length / 64)).g))) (w1 := w12) rfl rfl (by kernel_rfl) ?_)
          refine l_cons (ev_run (v := (.int .u32 (shr .u32 ((blkN v ts3 (ts3.length / 64)).g) 16))) (w1 := w12) rfl rfl (run_shr (yk := .u64) rfl (by kernel_rfl) (by kernel_rfl) (by first | decide | omega)) ?_)
          refine l_cons (ev_run (v := (.int .u8 (IntKind.u8.wrap (shr .u32 ((blkN v ts3 (ts3.length / 64)).g) 16)))) (w1 := w12) rfl rfl (by kernel_rfl) ?_)
          refine l_cons (ev_run (v := (.int .u32 ((blkN v ts3 (ts3.length / 64)).g))) (w1 := w12) rfl rfl (by kernel_rfl) ?_)
          refine l_cons (ev_run (v := (.int .u32 (shr .u32 ((blkN v ts3 (ts3.length / 64)).g) 8))) (w1 := w12) rfl rfl (run_shr (yk := .u64) rfl (by kernel_rfl) (by kernel_rfl) (by first | decide | omega)) ?_)
          refine l_cons (ev_run (v := (.int .u8 (IntKind.u8.wrap (shr .u32 ((blkN v ts3 (ts3.length / 64)).g) 8)))) (w1 := w12) rfl rfl (by kernel_rfl) ?_)
          refine l_cons (ev_run (v := (.int .u32 ((blkN v ts3 (ts3.length / 64)).g))) (w1 := w12) rfl rfl (by kernel_rfl) ?_)
          refine l_cons (ev_run (v := (.int .u8 (IntKind.u8.wrap ((blkN v ts3 (ts3.length / 64)).g)))) (w1 := w12) rfl rfl (by kernel_rfl) ?_)
          refine l_cons (ev_newRow (cs := [(.int .u8 (IntKind.u8.wrap (shr .u32 ((blkN v ts3 (ts3.length / 64)).g) 24))), (.int .u8 (IntKind.u8.wrap (shr .u32 ((blkN v ts3 (ts3.length / 64)).g) 16))), (.int .u8 (IntKind.u8.wrap (shr .u32 ((blkN v ts3 (ts3.length / 64)).g) 8))), (.int .u8 (IntKind.u8.wrap ((blkN v ts3 (ts3.length / 64)).g)))]) (t := 5) (len := 4) rfl rfl H19 (by kernel_rfl) ?_)
          intro g11 w25 H44 hg11 hbw25
          refine l_cons (ev_append (e := 5) (sz := 1) (z := (.int .u8 0)) (bytes := 1) 1 (A := Ao) (m0 := no) (c := co) (rows := ((os).map fun y => [Value.int .u8 y])) ([[(.int .u8 (IntKind.u8.wrap (shr .u32 ((blkN v ts3 (ts3.length / 64)).g) 24)))], [(.int .u8 (IntKind.u8.wrap (shr .u32 ((blkN v ts3 (ts3.length / 64)).g) 16)))], [(.int .u8 (IntKind.u8.wrap (shr .u32 ((blkN v ts3 (ts3.length / 64)).g) 8)))], [(.int .u8 (IntKind.u8.wrap ((blkN v ts3 (ts3.length / 64)).g)))]] : List (List Value)) (some (⟨g11, 0, none⟩)) 4 4 rfl rfl rfl Try.underlying24 (by kernel_rfl) rfl rfl rfl H44 rfl (by kernel_rfl) (by kernel_rfl) (by first | rfl | (simp; done) | assumption | omega) (fun j row hj => read_blk (H44.get 0 rfl) ([[(.int .u8 (IntKind.u8.wrap (shr .u32 ((blkN v ts3 (ts3.length / 64)).g) 24)))], [(.int .u8 (IntKind.u8.wrap (shr .u32 ((blkN v ts3 (ts3.length / 64)).g) 16)))], [(.int .u8 (IntKind.u8.wrap (shr .u32 ((blkN v ts3 (ts3.length / 64)).g) 8)))], [(.int .u8 (IntKind.u8.wrap ((blkN v ts3 (ts3.length / 64)).g)))]] : List (List Value)) rfl (by first | rfl | kernel_rfl) j row hj) (by first | omega | (simp; omega)) (no + 4) (by first | rfl | omega) ?_)
          intro Aa10 cc10 w26 H45 hcw26
          refine l_cons (ev_run (v := (.slice Aa10 ((no + 4)) cc10)) (w1 := w26) rfl rfl (by kernel_rfl) ?_)
          refine l_nil ?_
          refine n_in ?_
          refine n_then ?_
          refine k_list ?_
          refine l_cons (ev_run (v := (.int .i64 7)) (w1 := w26) rfl rfl (by kernel_rfl) ?_)
          refine l_cons (ev_run (v := (.int .i64 7)) (w1 := w26) rfl rfl (by kernel_rfl) ?_)
          refine l_nil ?_
          refine n_then ?_
          have H46 := H45.sel [1, 0] (by decide)
          have H47 : Hp (fun _ => False) w w26 [rowR 5 1 Aa10 (no + 4) cc10 ((os ++ (wb (blkN v ts3 (ts3.length / 64)).g)).map fun y => [Value.int .u8 y]), blk g11 [(.int .u8 (IntKind.u8.wrap (shr .u32 ((blkN v ts3 (ts3.length / 64)).g) 24))), (.int .u8 (IntKind.u8.wrap (shr .u32 ((blkN v ts3 (ts3.length / 64)).g) 16))), (.int .u8 (IntKind.u8.wrap (shr .u32 ((blkN v ts3 (ts3.length / 64)).g) 8))), (.int .u8 (IntKind.u8.wrap ((blkN v ts3 (ts3.length / 64)).g)))] 5] := row_snoc H46
          exact k_round (7, (no + 4), os ++ (wb (blkN v ts3 (ts3.length / 64)).g), Aa10, cc10) ⟨(by first | rfl | kernel_rfl), (by first | rfl | kernel_rfl), (by first | rfl | kernel_rfl), trivial⟩ ⟨(by omega), (by omega), (by rw [hos]; rfl), H47.sel [0] (by decide)⟩ (by first | omega | (simp; done) | (simp; omega))
        · skip
          refine wp_seq ?_
          refine k_list ?_
          refine l_cons (ev_run (v := (.bool true)) (w1 := w12) rfl rfl (by kernel_rfl) ?_)
          refine l_nil ?_
          refine n_then ?_
          refine wp_seq ?_
          refine k_true (by kernel_rfl) ?_
          refine wp_skip ?_
          refine n_then ?_
          refine wp_seq ?_
          refine wp_block ?_
          refine wp_seq ?_
          refine k_list ?_
          refine l_cons (ev_run (v := (.int .u32 ((blkN v ts3 (ts3.length / 64)).h))) (w1 := w12) rfl rfl (by kernel_rfl) ?_)
          refine l_cons (ev_run (v := (.int .u32 ((blkN v ts3 (ts3.length / 64)).h))) (w1 := w12) rfl rfl (by kernel_rfl) ?_)
          refine l_nil ?_
          refine n_then ?_
          refine k_list ?_
          refine l_cons (ev_run (v := (.slice Ao no co)) (w1 := w12) rfl rfl (by kernel_rfl) ?_)
          refine l_cons (ev_run (v := (.int .u32 ((blkN v ts3 (ts3.length / 64)).h))) (w1 := w12) rfl rfl (by kernel_rfl) ?_)
          refine l_cons (ev_run (v := (.int .u32 (shr .u32 ((blkN v ts3 (ts3.length / 64)).h) 24))) (w1 := w12) rfl rfl (run_shr (yk := .u64) rfl (by kernel_rfl) (by kernel_rfl) (by first | decide | omega)) ?_)
          refine l_cons (ev_run (v := (.int .u8 (IntKind.u8.wrap (shr .u32 ((blkN v ts3 (ts3.length / 64)).h) 24)))) (w1 := w12) rfl rfl (by kernel_rfl) ?_)
          refine l_cons (ev_run (v := (.int .u32 ((blkN v ts3 (ts3.length / 64)).h))) (w1 := w12) rfl rfl (by kernel_rfl) ?_)
          refine l_cons (ev_run (v := (.int .u32 (shr .u32 ((blkN v ts3 (ts3.length / 64)).h) 16))) (w1 := w12) rfl rfl (run_shr (yk := .u64) rfl (by kernel_rfl) (by kernel_rfl) (by first | decide | omega)) ?_)
          refine l_cons (ev_run (v := (.int .u8 (IntKind.u8.wrap (shr .u32 ((blkN v ts3 (ts3.length / 64)).h) 16)))) (w1 := w12) rfl rfl (by kernel_rfl) ?_)
          refine l_cons (ev_run (v := (.int .u32 ((blkN v ts3 (ts3.length / 64)).h))) (w1 := w12) rfl rfl (by kernel_rfl) ?_)
          refine l_cons (ev_run (v := (.int .u32 (shr .u32 ((blkN v ts3 (ts3.length / 64)).h) 8))) (w1 := w12) rfl rfl (run_shr (yk := .u64) rfl (by kernel_rfl) (by kernel_rfl) (by first | decide | omega)) ?_)
          refine l_cons (ev_run (v := (.int .u8 (IntKind.u8.wrap (shr .u32 ((blkN v ts3 (ts3.length / 64)).h) 8)))) (w1 := w12) rfl rfl (by kernel_rfl) ?_)
          refine l_cons (ev_run (v := (.int .u32 ((blkN v ts3 (ts3.length / 64)).h))) (w1 := w12) rfl rfl (by kernel_rfl) ?_)
          refine l_cons (ev_run (v := (.int .u8 (IntKind.u8.wrap ((blkN v ts3 (ts3.length / 64)).h)))) (w1 := w12) rfl rfl (by kernel_rfl) ?_)
          refine l_cons (ev_newRow (cs := [(.int .u8 (IntKind.u8.wrap (shr .u32 ((blkN v ts3 (ts3.length / 64)).h) 24))), (.int .u8 (IntKind.u8.wrap (shr .u32 ((blkN v ts3 (ts3.length / 64)).h) 16))), (.int .u8 (IntKind.u8.wrap (shr .u32 ((blkN v ts3 (ts3.length / 64)).h) 8))), (.int .u8 (IntKind.u8.wrap ((blkN v ts3 (ts3.length / 64)).h)))]) (t := 5) (len := 4) rfl rfl H19 (by kernel_rfl) ?_)
          intro g12 w27 H48 hg12 hbw27
          refine l_cons (ev_append (e := 5) (sz := 1) (z := (.int .u8 0)) (bytes := 1) 1 (A := Ao) (m0 := no) (c := co) (rows := ((os).map fun y => [Value.int .u8 y])) ([[(.int .u8 (IntKind.u8.wrap (shr .u32 ((blkN v ts3 (ts3.length / 64)).h) 24)))], [(.int .u8 (IntKind.u8.wrap (shr .u32 ((blkN v ts3 (ts3.length / 64)).h) 16)))], [(.int .u8 (IntKind.u8.wrap (shr .u32 ((blkN v ts3 (ts3.length / 64)).h) 8)))], [(.int .u8 (IntKind.u8.wrap ((blkN v ts3 (ts3.length / 64)).h)))]] : List (List Value)) (some (⟨g12, 0, none⟩)) 4 4 rfl rfl rfl Try.underlying24 (by kernel_rfl) rfl rfl rfl H48 rfl (by kernel_rfl) (by kernel_rfl) (by first | rfl | (simp; done) | assumption | omega) (fun j row hj => read_blk (H48.get 0 rfl) ([[(.int .u8 (IntKind.u8.wrap (shr .u32 ((blkN v ts3 (ts3.length / 64)).h) 24)))], [(.int .u8 (IntKind.u8.wrap (shr .u32 ((blkN v ts3 (ts3.length / 64)).h) 16)))], [(.int .u8 (IntKind.u8.wrap (shr .u32 ((blkN v ts3 (ts3.length / 64)).h) 8)))], [(.int .u8 (IntKind.u8.wrap ((blkN v ts3 (ts3.length / 64)).h)))]] : List (List Value)) rfl (by first | rfl | kernel_rfl) j row hj) (by first | omega | (simp; omega)) (no + 4) (by first | rfl | omega) ?_)
          intro Aa11 cc11 w28 H49 hcw28
          refine l_cons (ev_run (v := (.slice Aa11 ((no + 4)) cc11)) (w1 := w28) rfl rfl (by kernel_rfl) ?_)
          refine l_nil ?_
          refine n_in ?_
          refine n_then ?_
          refine k_list ?_
          refine l_cons (ev_run (v := (.int .i64 8)) (w1 := w28) rfl rfl (by kernel_rfl) ?_)
          refine l_cons (ev_run (v := (.int .i64 8)) (w1 := w28) rfl rfl (by kernel_rfl) ?_)
          refine l_nil ?_
          refine n_then ?_
          have H50 := H49.sel [1, 0] (by decide)
          have H51 : Hp (fun _ => False) w w28 [rowR 5 1 Aa11 (no + 4) cc11 ((os ++ (wb (blkN v ts3 (ts3.length / 64)).h)).map fun y => [Value.int .u8 y]), blk g12 [(.int .u8 (IntKind.u8.wrap (shr .u32 ((blkN v ts3 (ts3.length / 64)).h) 24))), (.int .u8 (IntKind.u8.wrap (shr .u32 ((blkN v ts3 (ts3.length / 64)).h) 16))), (.int .u8 (IntKind.u8.wrap (shr .u32 ((blkN v ts3 (ts3.length / 64)).h) 8))), (.int .u8 (IntKind.u8.wrap ((blkN v ts3 (ts3.length / 64)).h)))] 5] := row_snoc H50
          exact k_round (8, (no + 4), os ++ (wb (blkN v ts3 (ts3.length / 64)).h), Aa11, cc11) ⟨(by first | rfl | kernel_rfl), (by first | rfl | kernel_rfl), (by first | rfl | kernel_rfl), trivial⟩ ⟨(by omega), (by omega), (by rw [hos]; rfl), H51.sel [0] (by decide)⟩ (by first | omega | (simp; done) | (simp; omega))
        · skip
          refine wp_seq ?_
          refine k_list ?_
          refine l_cons (ev_run (v := (.bool false)) (w1 := w12) rfl rfl (by kernel_rfl) ?_)
          refine l_nil ?_
          refine n_then ?_
          refine wp_seq ?_
          refine k_false (by kernel_rfl) ?_
          refine wp_exit ?_
          refine e_then ?_
          refine e_then ?_
          refine e_in ?_
          refine n_then ?_
          refine wp_seq ?_
          refine k_list ?_
          refine l_cons (ev_run (v := (.slice Ao no co)) (w1 := w12) rfl rfl (by kernel_rfl) ?_)
          refine l_cons (ev_run (v := (.slice Ao no co)) (w1 := w12) rfl rfl (by kernel_rfl) ?_)
          refine l_nil ?_
          refine n_then ?_
          refine wp_ret ?_
          refine b_ret (v := (.slice Ao no co)) (resS rfl (.tmp (by kernel_rfl) .nil)) ?_
          have hf : os = sumF v ys z := by rw [sumF, ← hpT]; exact hos
          subst hf
          rw [hno]
          rw [hno] at H19
          exact ⟨Ao, co, rfl, H19⟩
      · skip
        have h64' : 64 ≤ m := by omega
        refine wp_seq ?_
        refine wp_seq ?_
        refine k_list ?_
        refine l_cons (ev_run (v := (.slice Ar m cr)) (w1 := w11) rfl rfl (by kernel_rfl) ?_)
        refine l_cons (ev_run (v := (.int .i64 (((m : Nat) : Int)))) (w1 := w11) rfl rfl (by kernel_rfl) ?_)
        refine l_cons (ev_eq (v := (.bool (decide ((((m : Nat) : Int) : Int) > 0)))) (v' := (.bool true)) (w1 := w11) rfl rfl (by kernel_rfl) (bt (by first | assumption | omega)) ?_)
        refine l_nil ?_
        refine n_then ?_
        refine k_true (by kernel_rfl) ?_
        refine wp_skip ?_
        refine n_then ?_
        refine wp_seq ?_
        refine wp_block ?_
        refine k_list ?_
        refine l_cons (ev_run (v := (.slice Ar m cr)) (w1 := w11) rfl rfl (by kernel_rfl) ?_)
        refine l_cons (ev_run (v := (.slice Ar 64 cr)) (w1 := w11) rfl rfl (run_slhi (sz := 1) (q := 64) (len := m) (e := 5) (k := .i64) rfl (by kernel_rfl) (by kernel_rfl) (by kernel_rfl) (by kernel_rfl) (by first | rfl | omega) (by omega)) ?_)
        refine l_cons (ev_call rfl rfl (f := 56) (args := #[(.pointer (some (⟨g1, 0, none⟩))), (.slice Ar 64 cr)]) (by kernel_rfl) (blockH (v := v2) (tl := []) H17 1 0 rfl rfl (by decide) h64') ?_)
        rintro e w29 ⟨rfl, hH_, hcw29⟩
        refine ⟨_, rfl, ?_⟩
        have H52 := hH_
        refine l_nil ?_
        refine n_in ?_
        refine n_then ?_
        refine k_list ?_
        refine l_cons (ev_run (v := (.slice Ar m cr)) (w1 := w29) rfl rfl (by kernel_rfl) ?_)
        refine l_cons (ev_run (v := (.slice (if cr = 64 then Ar else (Ar).map (·.add (64 * 1))) (m - 64) (cr - 64))) (w1 := w29) rfl rfl (run_sllo (sz := 1) (q := 64) (len := m) (cap := cr) (e := 5) (k := .i64) rfl (by kernel_rfl) (by kernel_rfl) (by kernel_rfl) (by kernel_rfl) (by first | rfl | omega) (by omega)) ?_)
        refine l_cons (ev_run (v := (.slice (if cr = 64 then Ar else (Ar).map (·.add (64 * 1))) (m - 64) (cr - 64))) (w1 := w29) rfl rfl (by kernel_rfl) ?_)
        refine l_nil ?_
        refine n_then ?_
        have H53 := H52.imp 0 rfl (slR (byR At3 nt3 ct3 ts3).fp (if cr = 64 then Ar else Ar.map (·.add (64 * 1))) (m - 64) (cr - 64) (us.drop 64)) (fun h => slR_cut h h64') (fun k hk => hk)
        exact k_round (j + 1, blkV v2 (us.take 64), m - 64, us.drop 64, (if cr = 64 then Ar else Ar.map (·.add (64 * 1))), cr - 64) ⟨(by first | rfl | kernel_rfl), (by first | rfl | kernel_rfl), trivial⟩ ⟨(by rw [hv, hus]; rfl), (by omega), (by omega), (by rw [hus, List.drop_drop, show 64 * j + 64 = 64 * (j + 1) by omega]), H53⟩ (by first | omega | (simp; done) | (simp; omega))
  · skip
    have hz6 : z4 < padz ys.length := by unfold padz at hz4 ⊢; omega
    have hz7 : padz ys.length < 64 := by unfold padz; omega
    refine wp_seq ?_
    refine wp_seq ?_
    refine k_list ?_
    refine l_cons (ev_run (v := (.slice At2 nt ct)) (w1 := w7) rfl rfl (by kernel_rfl) ?_)
    refine l_cons (ev_run (v := (.int .i64 (((nt : Nat) : Int)))) (w1 := w7) rfl rfl (by kernel_rfl) ?_)
    refine l_cons (ev_eq (v := (.int .i64 (Int.tmod ((nt : Nat) : Int) 64))) (v' := (.int .i64 (((nt % 64 : Nat) : Int)))) (w1 := w7) rfl rfl (run_rem (k := .i64) (a := ((nt : Nat) : Int)) (b := 64) rfl (by kernel_rfl) (by kernel_rfl) (by omega)) (by rw [Int.tmod_eq_emod_of_nonneg (by omega)]; rfl) ?_)
    refine l_cons (ev_eq (v := (.bool ((((nt % 64 : Nat) : Int) : Int) != 56))) (v' := (.bool true)) (w1 := w7) rfl rfl (by kernel_rfl) (bnet (by first | assumption | omega)) ?_)
    refine l_nil ?_
    refine n_then ?_
    refine k_true (by kernel_rfl) ?_
    refine wp_skip ?_
    refine n_then ?_
    refine wp_block ?_
    refine k_list ?_
    refine l_cons (ev_run (v := (.slice At2 nt ct)) (w1 := w7) rfl rfl (by kernel_rfl) ?_)
    refine l_cons (ev_newRow (cs := [(.int .u8 0)]) (t := 5) (len := 1) rfl rfl H10 (by kernel_rfl) ?_)
    intro g13 w30 H54 hg13 hbw30
    refine l_cons (ev_append (e := 5) (sz := 1) (z := (.int .u8 0)) (bytes := 1) 1 (A := At2) (m0 := nt) (c := ct) (rows := ((ts).map fun y => [Value.int .u8 y])) ([[(.int .u8 0)]] : List (List Value)) (some (⟨g13, 0, none⟩)) 1 1 rfl rfl rfl Try.underlying24 (by kernel_rfl) rfl rfl rfl H54 rfl (by kernel_rfl) (by kernel_rfl) (by first | rfl | (simp; done) | assumption | omega) (fun j row hj => read_blk (H54.get 0 rfl) ([[(.int .u8 0)]] : List (List Value)) rfl (by first | rfl | kernel_rfl) j row hj) (by first | omega | (simp; omega)) (nt + 1) (by first | rfl | omega) ?_)
    intro Aa12 cc12 w31 H55 hcw31
    refine l_cons (ev_run (v := (.slice Aa12 ((nt + 1)) cc12)) (w1 := w31) rfl rfl (by kernel_rfl) ?_)
    refine l_nil ?_
    refine n_in ?_
    refine n_then ?_
    have H56 := H55.sel [1, 0, 2] (by decide)
    have H57 : Hp (fun _ => False) w w31 [rowR 5 1 Aa12 (nt + 1) cc12 ((ts ++ [0]).map fun y => [Value.int .u8 y]), blk g13 [(.int .u8 0)] 5, blk g1 [(.int .u32 v.a), (.int .u32 v.b), (.int .u32 v.c), (.int .u32 v.d), (.int .u32 v.e), (.int .u32 v.f), (.int .u32 v.g), (.int .u32 v.h)] 78] := row_snoc H56
    exact k_round (z4 + 1, (nt + 1), ts ++ [0], Aa12, cc12) ⟨(by first | rfl | kernel_rfl), (by first | rfl | kernel_rfl), (by first | rfl | kernel_rfl), trivial⟩ ⟨(by omega), (by omega), (by rw [hts, List.append_assoc, List.cons_append, ← List.replicate_succ']), H57.sel [0, 2] (by decide)⟩ (by first | omega | (simp; done) | (simp; omega))
end Go.Proofs.Ytokpdecpmcbcpaa
