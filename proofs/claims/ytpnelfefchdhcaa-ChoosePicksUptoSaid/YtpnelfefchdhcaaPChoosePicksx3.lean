-- PRINTED BY print.sh 35421559b90ae4d0a3588c463048766b98c2df88dd9212a6774a882060cdf62d: not written by this session
import Derived.Test.YtpnelfefchdhcaaPChoosePicksx0
import Derived.Test.YtpnelfefchdhcaaPChoosePicksx2
namespace Go.Proofs.Ytpnelfefchdhcaa.PChoosePicks
open Go.RowKit Go.Proofs.YtpnelfefchdhcaaW.PrintWords Go.Proofs.YtpnelfefchdhcaaW.PrintLast Go.Proofs.YtpnelfefchdhcaaW.PrintMore
attribute [local go_sem] max2_int min2_int max_two min_two max_three min_three max_four min_four   -- for this text's walks alone
set_option linter.unusedVariables false
set_option linter.unusedSimpArgs false

/-! ### catenaryref05_CopyReport: function 6 -/
def catenaryref05_CopyReport.l0 : Nat → List (S45) → List (S45) → Int → Int → Int → Int → Int → Int → List Int → List (S57) → List (S45) → List Int → Option (Int × Int × Int × Int × List Int × (List (S57)) × (List (S45)) × List Int)
  | 0, _, _, _, _, _, _, _, _, _, _, _, _ => none
  | k + 1, x3, x22, x23, x24, x162000, x162001, x162002, x162003, x162004, x162005, x162006, x162007 => if x24 < x23 then (if 0 ≤ x24 then (if x24 < (x22.length : Int) then ((catenaryref05_CopyReq.f ((rd_T45 x22 x24).f2.f0) ((rd_T45 x22 x24).f2.f1) ((rd_T45 x22 x24).f2.f2) ((rd_T45 x22 x24).f2.f3)).bind fun bt183 => ((catenaryref05_CopyVotes.f k ((rd_T45 x22 x24).f3)).bind fun t191 => (if x3.length < 1256584717458 then (catenaryref05_CopyReport.l0 k (x3 ++ [(⟨(rd_T45 x22 x24).f0, (⟨(rd_T45 x22 x24).f1.f0, (rd_T45 x22 x24).f1.f1⟩ : S25), (⟨bt183.1, bt183.2.1, bt183.2.2.1, bt183.2.2.2⟩ : S36), t191⟩ : S45)]) x22 x23 (wrap64 (x24 + 1)) x162000 x162001 x162002 x162003 x162004 x162005 x162006 x162007) else (none)))) else (none)) else (none)) else (some (x162000, x162001, x162002, x162003, x162004, x162005, x3, x162007))
def catenaryref05_CopyReport.f (k : Nat) (a0_0 : Int) (a0_1 : Int) (a0_2 : Int) (a0_3 : Int) (l0_4 : List Int) (l0_5 : List (S57)) (l0_6 : List (S45)) (l0_7 : List Int) : Option (Int × Int × Int × Int × List Int × (List (S57)) × (List (S45)) × List Int) := (some (([] : List Int) : List Int)).bind fun y163 => (if y163.length + l0_4.length < 140737488355328 then ((some (([] : List Int) : List Int)).bind fun y169 => (if y169.length + l0_7.length < 140737488355328 then ((catenaryref05_CopyVotes.f k l0_5).bind fun t175 => (catenaryref05_CopyReport.l0 k (([] : List (S45))) l0_6 (l0_6.length : Int) 0 a0_0 a0_1 a0_2 a0_3 (y163 ++ l0_4) t175 l0_6 (y169 ++ l0_7))) else (none))) else (none))
theorem catenaryref05_CopyReport.mono_l : ∀ k, (∀ y0 y1 y2 y3 y4 y5 y6 y7 y8 y9 y10 y11, LeO (catenaryref05_CopyReport.l0 k y0 y1 y2 y3 y4 y5 y6 y7 y8 y9 y10 y11) (catenaryref05_CopyReport.l0 (k + 1) y0 y1 y2 y3 y4 y5 y6 y7 y8 y9 y10 y11))
  | 0 => fun _ _ _ _ _ _ _ _ _ _ _ _ r h => by simp [catenaryref05_CopyReport.l0] at h
  | k + 1 => by
    have ih0 := catenaryref05_CopyReport.mono_l k
    · intro y0 y1 y2 y3 y4 y5 y6 y7 y8 y9 y10 y11
      unfold catenaryref05_CopyReport.l0
      repeat' first
      | (with_reducible exact ih0 _ _ _ _ _ _ _ _ _ _ _ _)
      | (with_reducible exact catenaryref05_CopyVotes.mono _ _)
      | (with_reducible exact LeO.refl _)
      | (with_reducible exact LeO.none _)
      | (with_reducible refine LeO.ite ?_ ?_)
      | (with_reducible refine LeO.bind ?_ (fun _ => ?_))
      | exact ih0 _ _ _ _ _ _ _ _ _ _ _ _
      | exact catenaryref05_CopyVotes.mono _ _
      | exact LeO.none _
      | refine LeO.ite ?_ ?_
      | refine LeO.bind ?_ (fun _ => ?_)
theorem catenaryref05_CopyReport.mono : ∀ a0 a1 a2 a3 a4 a5 a6 a7 k, LeO (catenaryref05_CopyReport.f k a0 a1 a2 a3 a4 a5 a6 a7) (catenaryref05_CopyReport.f (k + 1) a0 a1 a2 a3 a4 a5 a6 a7) := by
  intro a0 a1 a2 a3 a4 a5 a6 a7 k
  have ih0 := catenaryref05_CopyReport.mono_l k
  unfold catenaryref05_CopyReport.f
  repeat' first
      | (with_reducible exact ih0 _ _ _ _ _ _ _ _ _ _ _ _)
      | (with_reducible exact catenaryref05_CopyVotes.mono _ _)
      | (with_reducible exact LeO.refl _)
      | (with_reducible exact LeO.none _)
      | (with_reducible refine LeO.ite ?_ ?_)
      | (with_reducible refine LeO.bind ?_ (fun _ => ?_))
      | exact ih0 _ _ _ _ _ _ _ _ _ _ _ _
      | exact catenaryref05_CopyVotes.mono _ _
      | exact LeO.none _
      | refine LeO.ite ?_ ?_
      | refine LeO.bind ?_ (fun _ => ?_)
def catenaryref05_CopyReport.T8 : Bool × List (List Nat × List Nat) := (true, [([], []), ([], []), ([1], [1]), ([], []), ([3], [3]), ([], []), ([5], [5]), ([6], [6]), ([], []), ([8], [8]), ([9, 7], [9]), ([2, 4, 7, 10], [2, 4, 7, 10]), ([11], [11]), ([0, 12, 10], [0, 12]), ([13, 13, 0, 1, 2, 3, 4, 5, 6, 7, 8, 9, 10, 11, 12, 13], [0, 13])])
def catenaryref05_CopyReport.B8 : List Nat := [0, 0, 2, 0, 8, 0, 32, 96, 0, 256, 992, 2046, 4094, 8191, 16383]
theorem catenaryref05_CopyReport.tab8 : rtab .any (opsOf Try.f6 8) = catenaryref05_CopyReport.T8 := by kernel_rfl
theorem catenaryref05_CopyReport.bits8 : waitsOk catenaryref05_CopyReport.T8.2 catenaryref05_CopyReport.B8 = true := by kernel_rfl
set_option maxHeartbeats 8000000 in
set_option maxRecDepth 100000 in
theorem catenaryref05_CopyReport.calls (k : Nat) (a0_0 : Int) (a0_1 : Int) (a0_2 : Int) (a0_3 : Int) (A0_4 : Option Addr) (c0_4 : Nat) (l0_4 : List Int) (A0_5 : Option Addr) (c0_5 : Nat) (l0_5 : List (S57)) (A0_6 : Option Addr) (c0_6 : Nat) (l0_6 : List (S45)) (A0_7 : Option Addr) (c0_7 : Nat) (l0_7 : List Int) (r1 : Int) (r2 : Int) (r3 : Int) (r4 : Int) (r5 : List Int) (r6 : List (S57)) (r7 : List (S45)) (r8 : List Int) (w : World) (hr0_4 : Kd.C (Kd.int .u8) w A0_4 l0_4.length l0_4) (hc0_4 : l0_4.length ≤ c0_4) (hr0_5 : Kd.C k57 w A0_5 l0_5.length l0_5) (hc0_5 : l0_5.length ≤ c0_5) (hr0_6 : Kd.C k45 w A0_6 l0_6.length l0_6) (hc0_6 : l0_6.length ≤ c0_6) (hr0_7 : Kd.C (Kd.int .u8) w A0_7 l0_7.length l0_7) (hc0_7 : l0_7.length ≤ c0_7) (h : catenaryref05_CopyReport.f k a0_0 a0_1 a0_2 a0_3 l0_4 l0_5 l0_6 l0_7 = some (r1, r2, r3, r4, r5, r6, r7, r8)) :
    Calls Try.prog 6 #[.agg #[.int .i64 a0_0, .int .i64 a0_1, .int .i64 a0_2, .int .i64 a0_3, .slice A0_4 l0_4.length c0_4, .slice A0_5 l0_5.length c0_5, .slice A0_6 l0_6.length c0_6, .slice A0_7 l0_7.length c0_7]] w fun e w' => ∃ v4_ v5_ v6_ v7_ : Value, e = .returned (.agg #[.int .i64 r1, .int .i64 r2, .int .i64 r3, .int .i64 r4, v4_, v5_, v6_, v7_]) ∧ Kd.R (Kd.int .u8) 5 w' w.heap.size (fun k_ => some k_ ≠ (v7_ : Value).ownBlock) v4_ r5 ∧ Kd.S k57 57 w' w.heap.size (fun k_ => some k_ ≠ (v4_ : Value).ownBlock ∧ some k_ ≠ (v7_ : Value).ownBlock) v5_ r6 ∧ Kd.R k45 45 w' w.heap.size (fun k_ => some k_ ≠ (v4_ : Value).ownBlock ∧ some k_ ≠ (v5_ : Value).ownBlock ∧ some k_ ≠ (v7_ : Value).ownBlock) v6_ r7 ∧ Kd.R (Kd.int .u8) 5 w' w.heap.size (fun k_ => some k_ ≠ (v4_ : Value).ownBlock) v7_ r8 ∧ Below w.heap.size w w' := by
  have hu30 := Try.underlying30
  have hu45 := Try.underlying45
  have hu25 := Try.underlying25
  have hu36 := Try.underlying36
  have HR0_4 := Aside0.mk hr0_4
  have HC0_4 := Aside0.mk hc0_4
  clear hr0_4 hc0_4
  have HR0_5 := Aside0.mk hr0_5
  have HC0_5 := Aside0.mk hc0_5
  clear hr0_5 hc0_5
  have HR0_6 := Aside0.mk hr0_6
  have HC0_6 := Aside0.mk hc0_6
  clear hr0_6 hc0_6
  have HR0_7 := Aside0.mk hr0_7
  have HC0_7 := Aside0.mk hc0_7
  clear hr0_7 hc0_7
  have HB := Aside0.mk (Below.refl w.heap.size w)
  have H : ((some (([] : List Int) : List Int)).bind fun y163 => (if y163.length + l0_4.length < 140737488355328 then ((some (([] : List Int) : List Int)).bind fun y169 => (if y169.length + l0_7.length < 140737488355328 then ((catenaryref05_CopyVotes.f k l0_5).bind fun t175 => (catenaryref05_CopyReport.l0 k (([] : List (S45))) l0_6 (l0_6.length : Int) 0 a0_0 a0_1 a0_2 a0_3 (y163 ++ l0_4) t175 l0_6 (y169 ++ l0_7))) else (none))) else (none))) = some (r1, r2, r3, r4, r5, r6, r7, r8) := h
  clear h
  obtain ⟨y163, hy163⟩ : ∃ y_ : List Int, y_ = (([] : List Int)) := ⟨_, rfl⟩
  replace H : (if y163.length + l0_4.length < 140737488355328 then ((some (([] : List Int) : List Int)).bind fun y169 => (if y169.length + l0_7.length < 140737488355328 then ((catenaryref05_CopyVotes.f k l0_5).bind fun t175 => (catenaryref05_CopyReport.l0 k (([] : List (S45))) l0_6 (l0_6.length : Int) 0 a0_0 a0_1 a0_2 a0_3 (y163 ++ l0_4) t175 l0_6 (y169 ++ l0_7))) else (none))) else (none)) = some (r1, r2, r3, r4, r5, r6, r7, r8) := by first | (rw [hy163]; with_reducible exact H) | (have H2_ := (Option.bind_some _ _).symm.trans H; rw [hy163]; with_reducible exact H2_) | (have H2_ := (Option.bind_some _ _).symm.trans H; with_reducible exact H2_) | with_reducible exact H | (rw [hy163]; exact H) | exact H
  have Ny163 := Aside0.mk hy163
  clear hy163
  by_cases c2 : y163.length + l0_4.length < 140737488355328
  · rw [if_pos c2] at H
    have LMc2 := Aside0.mk c2
    clear c2
    obtain ⟨y166, hy166⟩ : ∃ y_ : List Int, y_ = (y163 ++ l0_4) := ⟨_, rfl⟩
    replace H : ((some (([] : List Int) : List Int)).bind fun y169 => (if y169.length + l0_7.length < 140737488355328 then ((catenaryref05_CopyVotes.f k l0_5).bind fun t175 => (catenaryref05_CopyReport.l0 k (([] : List (S45))) l0_6 (l0_6.length : Int) 0 a0_0 a0_1 a0_2 a0_3 y166 t175 l0_6 (y169 ++ l0_7))) else (none))) = some (r1, r2, r3, r4, r5, r6, r7, r8) := by first | (rw [hy166]; with_reducible exact H) | (have H2_ := (Option.bind_some _ _).symm.trans H; rw [hy166]; with_reducible exact H2_) | (have H2_ := (Option.bind_some _ _).symm.trans H; with_reducible exact H2_) | with_reducible exact H | (rw [hy166]; exact H) | exact H
    have Ny166 := Aside0.mk hy166
    clear hy166
    obtain ⟨y169, hy169⟩ : ∃ y_ : List Int, y_ = (([] : List Int)) := ⟨_, rfl⟩
    replace H : (if y169.length + l0_7.length < 140737488355328 then ((catenaryref05_CopyVotes.f k l0_5).bind fun t175 => (catenaryref05_CopyReport.l0 k (([] : List (S45))) l0_6 (l0_6.length : Int) 0 a0_0 a0_1 a0_2 a0_3 y166 t175 l0_6 (y169 ++ l0_7))) else (none)) = some (r1, r2, r3, r4, r5, r6, r7, r8) := by first | (rw [hy169]; with_reducible exact H) | (have H2_ := (Option.bind_some _ _).symm.trans H; rw [hy169]; with_reducible exact H2_) | (have H2_ := (Option.bind_some _ _).symm.trans H; with_reducible exact H2_) | with_reducible exact H | (rw [hy169]; exact H) | exact H
    have Ny169 := Aside0.mk hy169
    clear hy169
    by_cases c3 : y169.length + l0_7.length < 140737488355328
    · rw [if_pos c3] at H
      have LMc3 := Aside0.mk c3
      clear c3
      obtain ⟨y172, hy172⟩ : ∃ y_ : List Int, y_ = (y169 ++ l0_7) := ⟨_, rfl⟩
      replace H : ((catenaryref05_CopyVotes.f k l0_5).bind fun t175 => (catenaryref05_CopyReport.l0 k (([] : List (S45))) l0_6 (l0_6.length : Int) 0 a0_0 a0_1 a0_2 a0_3 y166 t175 l0_6 y172)) = some (r1, r2, r3, r4, r5, r6, r7, r8) := by first | (rw [hy172]; with_reducible exact H) | (have H2_ := (Option.bind_some _ _).symm.trans H; rw [hy172]; with_reducible exact H2_) | (have H2_ := (Option.bind_some _ _).symm.trans H; with_reducible exact H2_) | with_reducible exact H | (rw [hy172]; exact H) | exact H
      have Ny172 := Aside0.mk hy172
      clear hy172
      replace H := Option.bind_eq_some_iff.mp H
      obtain ⟨t175, A40, H⟩ := H
      replace H : (catenaryref05_CopyReport.l0 k (([] : List (S45))) l0_6 (l0_6.length : Int) 0 a0_0 a0_1 a0_2 a0_3 y166 t175 l0_6 y172) = some (r1, r2, r3, r4, r5, r6, r7, r8) := H
      have A4 := Aside0.mk A40
      clear A40
      obtain ⟨y178, hy178⟩ : ∃ y_ : List (S45), y_ = (([] : List (S45))) := ⟨_, rfl⟩
      replace H : (catenaryref05_CopyReport.l0 k y178 l0_6 (l0_6.length : Int) 0 a0_0 a0_1 a0_2 a0_3 y166 t175 l0_6 y172) = some (r1, r2, r3, r4, r5, r6, r7, r8) := by first | (rw [hy178]; with_reducible exact H) | (have H2_ := (Option.bind_some _ _).symm.trans H; rw [hy178]; with_reducible exact H2_) | (have H2_ := (Option.bind_some _ _).symm.trans H; with_reducible exact H2_) | with_reducible exact H | (rw [hy178]; exact H) | exact H
      have Ny178 := Aside0.mk hy178
      clear hy178
      have H' := Aside0.mk H
      clear H
      go_enter Try.func6, Try.ntmps6
      go_wp2_with (first | ((with_reducible refine gate_dst (N := 1) rfl ?_); refine box_event ?hg (N := 1) ?hd (cs := #[.int .i64 a0_0, .int .i64 a0_1, .int .i64 a0_2, .int .i64 a0_3, .slice A0_4 l0_4.length c0_4, .slice A0_5 l0_5.length c0_5, .slice A0_6 l0_6.length c0_6, .slice A0_7 l0_7.length c0_7]) (t := 30) ?hr ?_; (case hd => rfl); (case hg => rfl); (case hr => first | (go_simp; done) | (go_simp; rfl)); intro gb161 hg w5 hbox hb; have n0_ := Aside0.mk (below_step (by repeat (first | (with_reducible first | exact HB.out | apply below_alloc | apply pw_below_drewN | apply below_drew1) | exact HB.out)) hb); have n1_ := Aside0.mk (hbox); have n2_ := Aside0.mk ((by rw [hg]; exact (below_size (by repeat (first | (with_reducible first | exact HB.out | apply below_alloc | apply pw_below_drewN | apply below_drew1) | exact HB.out))) : w.heap.size ≤ gb161)); have n3_ := Aside0.mk ((by rw [hg]; exact (below_size (by repeat (first | (with_reducible first | exact HB.out | apply below_alloc | apply pw_below_drewN | apply below_drew1) | exact HB.out))) : w.heap.size ≤ gb161)); clear HB; have HB := n0_; have BK161 := n1_; have GW161 := n2_; have GE161 := n3_; clear n0_ n1_ n2_ n3_; clear hb hbox hg) | ((with_reducible refine gate_dst (N := 2) rfl ?_); refine box_event ?hg (N := 2) ?hd (cs := #[.int .i64 0, .int .i64 0, .int .i64 0, .int .i64 0, .slice none 0 0, .slice none 0 0, .slice none 0 0, .slice none 0 0]) (t := 30) ?hr ?_; (case hd => rfl); (case hg => rfl); (case hr => first | (go_simp; done) | (go_simp; rfl)); intro gb162 hg w6 hbox hb; have n0_ := Aside0.mk (blk_below (g := gb161) (o := .cells #[.int .i64 a0_0, .int .i64 a0_1, .int .i64 a0_2, .int .i64 a0_3, .slice A0_4 l0_4.length c0_4, .slice A0_5 l0_5.length c0_5, .slice A0_6 l0_6.length c0_6, .slice A0_7 l0_7.length c0_7] 30 (0, 0)) (by (with_reducible repeat (first | refine blk_drewN ?_ _ | refine blk_drew ?_ | refine blk_alloc ?_ _)); exact BK161.out) hb); have n1_ := Aside0.mk (below_step (by repeat (first | (with_reducible first | exact HB.out | apply below_alloc | apply pw_below_drewN | apply below_drew1 | refine below_set ?_ GE161.out) | exact HB.out)) hb); have n2_ := Aside0.mk (hbox); have n3_ := Aside0.mk ((by rw [hg]; exact (below_size (by repeat (first | (with_reducible first | exact HB.out | apply below_alloc | apply pw_below_drewN | apply below_drew1 | refine below_set ?_ GE161.out) | exact HB.out))) : w.heap.size ≤ gb162)); have n4_ := Aside0.mk ((by rw [hg]; exact (below_size (by repeat (first | (with_reducible first | exact HB.out | apply below_alloc | apply pw_below_drewN | apply below_drew1 | refine below_set ?_ GE161.out) | exact HB.out))) : w.heap.size ≤ gb162)); have n5_ := Aside0.mk ((by rw [hg]; exact Nat.ne_of_lt (blk_lt (g := gb161) (o := .cells #[.int .i64 a0_0, .int .i64 a0_1, .int .i64 a0_2, .int .i64 a0_3, .slice A0_4 l0_4.length c0_4, .slice A0_5 l0_5.length c0_5, .slice A0_6 l0_6.length c0_6, .slice A0_7 l0_7.length c0_7] 30 (0, 0)) (by (with_reducible repeat (first | refine blk_drewN ?_ _ | refine blk_drew ?_ | refine blk_alloc ?_ _)); exact BK161.out)) : gb161 ≠ gb162)); have n6_ := Aside0.mk ((by rw [hg]; exact Nat.ne_of_gt (blk_lt (g := gb161) (o := .cells #[.int .i64 a0_0, .int .i64 a0_1, .int .i64 a0_2, .int .i64 a0_3, .slice A0_4 l0_4.length c0_4, .slice A0_5 l0_5.length c0_5, .slice A0_6 l0_6.length c0_6, .slice A0_7 l0_7.length c0_7] 30 (0, 0)) (by (with_reducible repeat (first | refine blk_drewN ?_ _ | refine blk_drew ?_ | refine blk_alloc ?_ _)); exact BK161.out)) : gb162 ≠ gb161)); clear BK161; clear HB; have BK161 := n0_; have HB := n1_; have BK162 := n2_; have GW162 := n3_; have GE162 := n4_; have NB161_162 := n5_; have NB162_161 := n6_; clear n0_ n1_ n2_ n3_ n4_ n5_ n6_; clear hb hbox hg) | ((with_reducible refine gate_dst (N := 6) rfl ?_); refine Kd.R_lit (Kd.int .u8) _ 5 ?hg (N := 6) ?hd (xs := ([] : List Int)) (inner := []) (ok := fun _ => True) (okp := fun _ => True) ?hr ?hp (fun _ hk => hk) trivial (Below.refl _ _) (Nat.le_refl _) (by simp) ?_; (case hd => rfl); (case hg => rfl); (case hr => first | (go_simp; done) | (go_simp; rfl)); (case hp => exact (Reps.none _ _)); intro v164 w7 ho8 hb hg_ hnew_; clear hg_ hnew_; (first | rw [← Ny163.out] at ho8 | (simp only [Int.reduceToNat] at ho8; rw [← Ny163.out] at ho8)); have n0_ := Aside0.mk (Kd.R_lower ho8 (below_size (by repeat (first | (with_reducible first | exact HB.out | apply below_alloc | apply pw_below_drewN | apply below_drew1 | refine below_set ?_ GE161.out | refine below_set ?_ GE162.out) | exact HB.out)))); have n1_ := Aside0.mk (blk_below (g := gb161) (o := .cells #[.int .i64 a0_0, .int .i64 a0_1, .int .i64 a0_2, .int .i64 a0_3, .slice A0_4 l0_4.length c0_4, .slice A0_5 l0_5.length c0_5, .slice A0_6 l0_6.length c0_6, .slice A0_7 l0_7.length c0_7] 30 (0, 0)) (by (with_reducible repeat (first | refine blk_drewN ?_ _ | refine blk_drew ?_ | refine blk_alloc ?_ _)); exact BK161.out) hb); have n2_ := Aside0.mk (blk_below (g := gb162) (o := .cells #[.int .i64 0, .int .i64 0, .int .i64 0, .int .i64 0, .slice none 0 0, .slice none 0 0, .slice none 0 0, .slice none 0 0] 30 (0, 0)) (by (with_reducible repeat (first | refine blk_drewN ?_ _ | refine blk_drew ?_ | refine blk_alloc ?_ _)); exact BK162.out) hb); have n3_ := Aside0.mk (below_step (by repeat (first | (with_reducible first | exact HB.out | apply below_alloc | apply pw_below_drewN | apply below_drew1 | refine below_set ?_ GE161.out | refine below_set ?_ GE162.out) | exact HB.out)) hb); clear BK161; clear BK162; clear HB; have HO165 := n0_; have BK161 := n1_; have BK162 := n2_; have HB := n3_; clear n0_ n1_ n2_ n3_; clear hb ho8; have hnb9 := NB161_162.out; have hnc9 := NB162_161.out; have hcz10_0 : w7.cell? ⟨gb161, 0, none⟩ = some (.int .i64 a0_0) := (blk_cell BK161.out 0).trans rfl; have hcz10_1 : w7.cell? ⟨gb161, 1, none⟩ = some (.int .i64 a0_1) := (blk_cell BK161.out 1).trans rfl; have hcz10_2 : w7.cell? ⟨gb161, 2, none⟩ = some (.int .i64 a0_2) := (blk_cell BK161.out 2).trans rfl; have hcz10_3 : w7.cell? ⟨gb161, 3, none⟩ = some (.int .i64 a0_3) := (blk_cell BK161.out 3).trans rfl; have hcz10_4 : w7.cell? ⟨gb161, 4, none⟩ = some (.slice A0_4 l0_4.length c0_4) := (blk_cell BK161.out 4).trans rfl; have hcz10_5 : w7.cell? ⟨gb161, 5, none⟩ = some (.slice A0_5 l0_5.length c0_5) := (blk_cell BK161.out 5).trans rfl; have hcz10_6 : w7.cell? ⟨gb161, 6, none⟩ = some (.slice A0_6 l0_6.length c0_6) := (blk_cell BK161.out 6).trans rfl; have hcz10_7 : w7.cell? ⟨gb161, 7, none⟩ = some (.slice A0_7 l0_7.length c0_7) := (blk_cell BK161.out 7).trans rfl; have hfz10_0 := blk_frozen BK161.out 0; have hfz10_1 := blk_frozen BK161.out 1; have hfz10_2 := blk_frozen BK161.out 2; have hfz10_3 := blk_frozen BK161.out 3; have hfz10_4 := blk_frozen BK161.out 4; have hfz10_5 := blk_frozen BK161.out 5; have hfz10_6 := blk_frozen BK161.out 6; have hfz10_7 := blk_frozen BK161.out 7) | ((with_reducible refine gate_builtin (b := .append) (xs := #[.tmp 6, .tmp 8]) rfl ?_); at_builtin; refine Kd.R_append_rows (Kd.int .u8) (w0 := w) w.heap.size rfl (.tmp 6) (.tmp 8) 26 5 (.int .u8 0) 1 rfl Try.underlying26 info5 rfl (by decide) (by omega) v164 y163 l0_4 _ _ _ (fun _ => True) (fun _ => False) rfl rfl ?aO ?aR (fun _ _ h => h) (fun _ h => h.elim) ?aF ?aB ?aS ?aL ?_; (case aR => repeat (first | exact (Kd.C_below HR0_4.out HB.out) | (with_reducible refine Kd.C_alloc ?_ _) | (with_reducible refine Kd.C_drewN ?_ _) | (with_reducible refine Kd.C_drew ?_))); (case aB => exact (by repeat (first | (with_reducible first | exact HB.out | apply below_alloc | apply pw_below_drewN | apply below_drew1 | refine below_set ?_ GE161.out | refine below_set ?_ GE162.out) | exact HB.out))); (case aF => exact (fun _ _ => trivial)); (case aO => exact (by (with_reducible repeat (first | apply Kd.R_alloc | apply Kd.R_drewN | apply Kd.R_drew)); exact HO165.out)); (case aS => exact (below_size (by repeat (first | (with_reducible first | exact HB.out | apply below_alloc | apply pw_below_drewN | apply below_drew1 | refine below_set ?_ GE161.out | refine below_set ?_ GE162.out) | exact HB.out)))); (case aL => have := LMc2.out; omega); intro v167 w11 ho hb hg hat; rw [← Ny166.out] at ho; have n0_ := Aside0.mk (blk_grown (g := gb161) (o := .cells #[.int .i64 a0_0, .int .i64 a0_1, .int .i64 a0_2, .int .i64 a0_3, .slice A0_4 l0_4.length c0_4, .slice A0_5 l0_5.length c0_5, .slice A0_6 l0_6.length c0_6, .slice A0_7 l0_7.length c0_7] 30 (0, 0)) (by (with_reducible repeat (first | refine blk_drewN ?_ _ | refine blk_drew ?_ | refine blk_alloc ?_ _)); exact BK161.out) hg (Kd.R_ne HO165.out BK161.out (by decide))); have n1_ := Aside0.mk (blk_grown (g := gb162) (o := .cells #[.int .i64 0, .int .i64 0, .int .i64 0, .int .i64 0, .slice none 0 0, .slice none 0 0, .slice none 0 0, .slice none 0 0] 30 (0, 0)) (by (with_reducible repeat (first | refine blk_drewN ?_ _ | refine blk_drew ?_ | refine blk_alloc ?_ _)); exact BK162.out) hg (Kd.R_ne HO165.out BK162.out (by decide))); have n2_ := Aside0.mk (hb); have n3_ := Aside0.mk (ho); clear BK161; clear BK162; clear HB; clear HO165; have BK161 := n0_; have BK162 := n1_; have HB := n2_; have HO168 := n3_; clear n0_ n1_ n2_ n3_; clear ho hb hg hat; obtain ⟨Ao12, co12, eo12⟩ := Kd.R_slice HO168.out; subst eo12; have hcz13_0 : w11.cell? ⟨gb161, 0, none⟩ = some (.int .i64 a0_0) := (blk_cell BK161.out 0).trans rfl; have hcz13_1 : w11.cell? ⟨gb161, 1, none⟩ = some (.int .i64 a0_1) := (blk_cell BK161.out 1).trans rfl; have hcz13_2 : w11.cell? ⟨gb161, 2, none⟩ = some (.int .i64 a0_2) := (blk_cell BK161.out 2).trans rfl; have hcz13_3 : w11.cell? ⟨gb161, 3, none⟩ = some (.int .i64 a0_3) := (blk_cell BK161.out 3).trans rfl; have hcz13_4 : w11.cell? ⟨gb161, 4, none⟩ = some (.slice A0_4 l0_4.length c0_4) := (blk_cell BK161.out 4).trans rfl; have hcz13_5 : w11.cell? ⟨gb161, 5, none⟩ = some (.slice A0_5 l0_5.length c0_5) := (blk_cell BK161.out 5).trans rfl; have hcz13_6 : w11.cell? ⟨gb161, 6, none⟩ = some (.slice A0_6 l0_6.length c0_6) := (blk_cell BK161.out 6).trans rfl; have hcz13_7 : w11.cell? ⟨gb161, 7, none⟩ = some (.slice A0_7 l0_7.length c0_7) := (blk_cell BK161.out 7).trans rfl; have hfz13_0 := blk_frozen BK161.out 0; have hfz13_1 := blk_frozen BK161.out 1; have hfz13_2 := blk_frozen BK161.out 2; have hfz13_3 := blk_frozen BK161.out 3; have hfz13_4 := blk_frozen BK161.out 4; have hfz13_5 := blk_frozen BK161.out 5; have hfz13_6 := blk_frozen BK161.out 6; have hfz13_7 := blk_frozen BK161.out 7) | ((with_reducible refine gate_dst (N := 11) rfl ?_); refine Kd.R_lit (Kd.int .u8) _ 5 ?hg (N := 11) ?hd (xs := ([] : List Int)) (inner := []) (ok := fun _ => True) (okp := fun _ => True) ?hr ?hp (fun _ hk => hk) trivial (Below.refl _ _) (Nat.le_refl _) (by simp) ?_; (case hd => rfl); (case hg => rfl); (case hr => first | (go_simp; done) | (go_simp; rfl)); (case hp => exact (Reps.none _ _)); intro v170 w14 ho15 hb hg_ hnew_; clear hg_ hnew_; (first | rw [← Ny169.out] at ho15 | (simp only [Int.reduceToNat] at ho15; rw [← Ny169.out] at ho15)); have n0_ := Aside0.mk (Kd.R_elder' (by (with_reducible repeat (first | apply Kd.R_alloc | apply Kd.R_drewN | apply Kd.R_drew)); exact (Kd.R_mono (Kd.R_far (p := ⟨gb161, 4, none⟩) (Kd.R_types HO168.out BK161.out (by decide)) (fun _ hk => hk.2) (.slice Ao12 y166.length co12)) (fun _ h_ => h_.1))) (Kd.R_base ho15) hb); have n1_ := Aside0.mk (Kd.R_lower (Kd.R_new' ho15 (Kd.R_lt (by (with_reducible repeat (first | apply Kd.R_alloc | apply Kd.R_drewN | apply Kd.R_drew)); exact (Kd.R_mono (Kd.R_far (p := ⟨gb161, 4, none⟩) (Kd.R_types HO168.out BK161.out (by decide)) (fun _ hk => hk.2) (.slice Ao12 y166.length co12)) (fun _ h_ => h_.1))))) (below_size (by repeat (first | (with_reducible first | exact HB.out | apply below_alloc | apply pw_below_drewN | apply below_drew1 | refine below_set ?_ GE161.out | refine below_set ?_ GE162.out) | exact HB.out)))); have n2_ := Aside0.mk (blk_below (g := gb161) (o := .cells #[.int .i64 a0_0, .int .i64 a0_1, .int .i64 a0_2, .int .i64 a0_3, .slice Ao12 y166.length co12, .slice A0_5 l0_5.length c0_5, .slice A0_6 l0_6.length c0_6, .slice A0_7 l0_7.length c0_7] 30 (0, 0)) (by (with_reducible repeat (first | refine blk_drewN ?_ _ | refine blk_drew ?_ | refine blk_alloc ?_ _)); refine blk_put (cs := #[.int .i64 a0_0, .int .i64 a0_1, .int .i64 a0_2, .int .i64 a0_3, .slice A0_4 l0_4.length c0_4, .slice A0_5 l0_5.length c0_5, .slice A0_6 l0_6.length c0_6, .slice A0_7 l0_7.length c0_7]) ?_ 4 _ rfl; (with_reducible repeat (first | refine blk_drewN ?_ _ | refine blk_drew ?_ | refine blk_alloc ?_ _)); exact BK161.out) hb); have n3_ := Aside0.mk (blk_below (g := gb162) (o := .cells #[.int .i64 0, .int .i64 0, .int .i64 0, .int .i64 0, .slice none 0 0, .slice none 0 0, .slice none 0 0, .slice none 0 0] 30 (0, 0)) (by (with_reducible repeat (first | refine blk_drewN ?_ _ | refine blk_drew ?_ | refine blk_alloc ?_ _)); refine blk_far ?_ NB162_161.out _; (with_reducible repeat (first | refine blk_drewN ?_ _ | refine blk_drew ?_ | refine blk_alloc ?_ _)); exact BK162.out) hb); have n4_ := Aside0.mk (below_step (by repeat (first | (with_reducible first | exact HB.out | apply below_alloc | apply pw_below_drewN | apply below_drew1 | refine below_set ?_ GE161.out | refine below_set ?_ GE162.out) | exact HB.out)) hb); clear HO168; clear BK161; clear BK162; clear HB; have HO168 := n0_; have HO171 := n1_; have BK161 := n2_; have BK162 := n3_; have HB := n4_; clear n0_ n1_ n2_ n3_ n4_; clear hb ho15; have hcz16_0 : w14.cell? ⟨gb161, 0, none⟩ = some (.int .i64 a0_0) := (blk_cell BK161.out 0).trans rfl; have hcz16_1 : w14.cell? ⟨gb161, 1, none⟩ = some (.int .i64 a0_1) := (blk_cell BK161.out 1).trans rfl; have hcz16_2 : w14.cell? ⟨gb161, 2, none⟩ = some (.int .i64 a0_2) := (blk_cell BK161.out 2).trans rfl; have hcz16_3 : w14.cell? ⟨gb161, 3, none⟩ = some (.int .i64 a0_3) := (blk_cell BK161.out 3).trans rfl; have hcz16_4 : w14.cell? ⟨gb161, 4, none⟩ = some (.slice Ao12 y166.length co12) := (blk_cell BK161.out 4).trans rfl; have hcz16_5 : w14.cell? ⟨gb161, 5, none⟩ = some (.slice A0_5 l0_5.length c0_5) := (blk_cell BK161.out 5).trans rfl; have hcz16_6 : w14.cell? ⟨gb161, 6, none⟩ = some (.slice A0_6 l0_6.length c0_6) := (blk_cell BK161.out 6).trans rfl; have hcz16_7 : w14.cell? ⟨gb161, 7, none⟩ = some (.slice A0_7 l0_7.length c0_7) := (blk_cell BK161.out 7).trans rfl; have hfz16_0 := blk_frozen BK161.out 0; have hfz16_1 := blk_frozen BK161.out 1; have hfz16_2 := blk_frozen BK161.out 2; have hfz16_3 := blk_frozen BK161.out 3; have hfz16_4 := blk_frozen BK161.out 4; have hfz16_5 := blk_frozen BK161.out 5; have hfz16_6 := blk_frozen BK161.out 6; have hfz16_7 := blk_frozen BK161.out 7) | ((with_reducible refine gate_builtin (b := .append) (xs := #[.tmp 11, .tmp 13]) rfl ?_); at_builtin; refine Kd.R_append_rows (Kd.int .u8) (w0 := w) w.heap.size rfl (.tmp 11) (.tmp 13) 26 5 (.int .u8 0) 1 rfl Try.underlying26 info5 rfl (by decide) (by omega) v170 y169 l0_7 _ _ _ (fun k_ => some k_ ≠ (.slice Ao12 y166.length co12 : Value).ownBlock) (fun _ => False) rfl rfl ?aO ?aR (fun _ _ h => h) (fun _ h => h.elim) ?aF ?aB ?aS ?aL ?_; (case aR => repeat (first | exact (Kd.C_below HR0_7.out HB.out) | (with_reducible refine Kd.C_alloc ?_ _) | (with_reducible refine Kd.C_drewN ?_ _) | (with_reducible refine Kd.C_drew ?_))); (case aB => exact (by repeat (first | (with_reducible first | exact HB.out | apply below_alloc | apply pw_below_drewN | apply below_drew1 | refine below_set ?_ GE161.out | refine below_set ?_ GE162.out) | exact HB.out))); (case aF => exact (fun k_ hk => Kd.fresh' (Kd.R_lt (by (with_reducible repeat (first | apply Kd.R_alloc | apply Kd.R_drewN | apply Kd.R_drew)); exact HO168.out)) k_ hk)); (case aO => exact (by (with_reducible repeat (first | apply Kd.R_alloc | apply Kd.R_drewN | apply Kd.R_drew)); exact Kd.R_mono HO171.out (fun _ hk => hk.2))); (case aS => exact (below_size (by repeat (first | (with_reducible first | exact HB.out | apply below_alloc | apply pw_below_drewN | apply below_drew1 | refine below_set ?_ GE161.out | refine below_set ?_ GE162.out) | exact HB.out)))); (case aL => have := LMc3.out; omega); intro v173 w17 ho hb hg hat; rw [← Ny172.out] at ho; have n0_ := Aside0.mk (blk_grown (g := gb161) (o := .cells #[.int .i64 a0_0, .int .i64 a0_1, .int .i64 a0_2, .int .i64 a0_3, .slice Ao12 y166.length co12, .slice A0_5 l0_5.length c0_5, .slice A0_6 l0_6.length c0_6, .slice A0_7 l0_7.length c0_7] 30 (0, 0)) (by (with_reducible repeat (first | refine blk_drewN ?_ _ | refine blk_drew ?_ | refine blk_alloc ?_ _)); exact BK161.out) hg (Kd.R_ne HO171.out BK161.out (by decide))); have n1_ := Aside0.mk (blk_grown (g := gb162) (o := .cells #[.int .i64 0, .int .i64 0, .int .i64 0, .int .i64 0, .slice none 0 0, .slice none 0 0, .slice none 0 0, .slice none 0 0] 30 (0, 0)) (by (with_reducible repeat (first | refine blk_drewN ?_ _ | refine blk_drew ?_ | refine blk_alloc ?_ _)); exact BK162.out) hg (Kd.R_ne HO171.out BK162.out (by decide))); have n2_ := Aside0.mk (Kd.R_after (ok := (fun _ => True)) (by (with_reducible repeat (first | apply Kd.R_alloc | apply Kd.R_drewN | apply Kd.R_drew)); exact HO168.out) hg hat); have n3_ := Aside0.mk (hb); have n4_ := Aside0.mk (ho); clear BK161; clear BK162; clear HO168; clear HB; clear HO171; have BK161 := n0_; have BK162 := n1_; have HO168 := n2_; have HB := n3_; have HO174 := n4_; clear n0_ n1_ n2_ n3_ n4_; clear ho hb hg hat; obtain ⟨Ao18, co18, eo18⟩ := Kd.R_slice HO174.out; subst eo18; have hcz19_0 : w17.cell? ⟨gb161, 0, none⟩ = some (.int .i64 a0_0) := (blk_cell BK161.out 0).trans rfl; have hcz19_1 : w17.cell? ⟨gb161, 1, none⟩ = some (.int .i64 a0_1) := (blk_cell BK161.out 1).trans rfl; have hcz19_2 : w17.cell? ⟨gb161, 2, none⟩ = some (.int .i64 a0_2) := (blk_cell BK161.out 2).trans rfl; have hcz19_3 : w17.cell? ⟨gb161, 3, none⟩ = some (.int .i64 a0_3) := (blk_cell BK161.out 3).trans rfl; have hcz19_4 : w17.cell? ⟨gb161, 4, none⟩ = some (.slice Ao12 y166.length co12) := (blk_cell BK161.out 4).trans rfl; have hcz19_5 : w17.cell? ⟨gb161, 5, none⟩ = some (.slice A0_5 l0_5.length c0_5) := (blk_cell BK161.out 5).trans rfl; have hcz19_6 : w17.cell? ⟨gb161, 6, none⟩ = some (.slice A0_6 l0_6.length c0_6) := (blk_cell BK161.out 6).trans rfl; have hcz19_7 : w17.cell? ⟨gb161, 7, none⟩ = some (.slice A0_7 l0_7.length c0_7) := (blk_cell BK161.out 7).trans rfl; have hfz19_0 := blk_frozen BK161.out 0; have hfz19_1 := blk_frozen BK161.out 1; have hfz19_2 := blk_frozen BK161.out 2; have hfz19_3 := blk_frozen BK161.out 3; have hfz19_4 := blk_frozen BK161.out 4; have hfz19_5 := blk_frozen BK161.out 5; have hfz19_6 := blk_frozen BK161.out 6; have hfz19_7 := blk_frozen BK161.out 7) | ((with_reducible refine gate_callee (f := 18) rfl ?_); refine goesL_ (some 18) rfl rfl Try.func18 (by kernel_rfl) rfl #[.slice A0_5 l0_5.length c0_5] rfl (by (try simp only [List.map_toArray, List.map_cons, List.map_nil]); first | done | rfl | (simp only [List.length_drop, List.length_take]; rfl)) ?_; (with_reducible refine (catenaryref05_CopyVotes.calls k _ _ l0_5 t175 _ ?side1 ?side2 A4.out).mono ?_); (case side1 => exact Kd.C_below HR0_5.out (by repeat (first | (with_reducible first | exact HB.out | apply below_alloc | apply pw_below_drewN | apply below_drew1 | refine below_set ?_ GE161.out | refine below_set ?_ GE162.out) | exact HB.out))); (case side2 => exact HC0_5.out); rintro e w20 ⟨v176, rfl, ho0, hb⟩; refine ⟨_, rfl, ?_⟩; have n0_ := Aside0.mk (Kd.R_below (by (with_reducible repeat (first | apply Kd.R_alloc | apply Kd.R_drewN | apply Kd.R_drew)); exact (Kd.R_mono (Kd.R_far (p := ⟨gb161, 7, none⟩) (Kd.R_types HO168.out BK161.out (by decide)) (fun _ hk => hk.2) (.slice Ao18 y172.length co18)) (fun _ h_ => h_.1))) hb); have n1_ := Aside0.mk (Kd.R_below (by (with_reducible repeat (first | apply Kd.R_alloc | apply Kd.R_drewN | apply Kd.R_drew)); exact (Kd.R_mono (Kd.R_far (p := ⟨gb161, 7, none⟩) (Kd.R_types HO174.out BK161.out (by decide)) (fun _ hk => hk.2) (.slice Ao18 y172.length co18)) (fun _ h_ => h_.1))) hb); have n2_ := Aside0.mk (Kd.S_lower (Kd.S_new' (Kd.S_new' ho0 (Kd.R_lt (by (with_reducible repeat (first | apply Kd.R_alloc | apply Kd.R_drewN | apply Kd.R_drew)); exact (Kd.R_mono (Kd.R_far (p := ⟨gb161, 7, none⟩) (Kd.R_types HO168.out BK161.out (by decide)) (fun _ hk => hk.2) (.slice Ao18 y172.length co18)) (fun _ h_ => h_.1))))) (Kd.R_lt (by (with_reducible repeat (first | apply Kd.R_alloc | apply Kd.R_drewN | apply Kd.R_drew)); exact (Kd.R_mono (Kd.R_far (p := ⟨gb161, 7, none⟩) (Kd.R_types HO174.out BK161.out (by decide)) (fun _ hk => hk.2) (.slice Ao18 y172.length co18)) (fun _ h_ => h_.1))))) (below_size (by repeat (first | (with_reducible first | exact HB.out | apply below_alloc | apply pw_below_drewN | apply below_drew1 | refine below_set ?_ GE161.out | refine below_set ?_ GE162.out) | exact HB.out)))); have n3_ := Aside0.mk (blk_below (g := gb161) (o := .cells #[.int .i64 a0_0, .int .i64 a0_1, .int .i64 a0_2, .int .i64 a0_3, .slice Ao12 y166.length co12, .slice A0_5 l0_5.length c0_5, .slice A0_6 l0_6.length c0_6, .slice Ao18 y172.length co18] 30 (0, 0)) (by (with_reducible repeat (first | refine blk_drewN ?_ _ | refine blk_drew ?_ | refine blk_alloc ?_ _)); refine blk_put (cs := #[.int .i64 a0_0, .int .i64 a0_1, .int .i64 a0_2, .int .i64 a0_3, .slice Ao12 y166.length co12, .slice A0_5 l0_5.length c0_5, .slice A0_6 l0_6.length c0_6, .slice A0_7 l0_7.length c0_7]) ?_ 7 _ rfl; (with_reducible repeat (first | refine blk_drewN ?_ _ | refine blk_drew ?_ | refine blk_alloc ?_ _)); exact BK161.out) hb); have n4_ := Aside0.mk (blk_below (g := gb162) (o := .cells #[.int .i64 0, .int .i64 0, .int .i64 0, .int .i64 0, .slice none 0 0, .slice none 0 0, .slice none 0 0, .slice none 0 0] 30 (0, 0)) (by (with_reducible repeat (first | refine blk_drewN ?_ _ | refine blk_drew ?_ | refine blk_alloc ?_ _)); refine blk_far ?_ NB162_161.out _; (with_reducible repeat (first | refine blk_drewN ?_ _ | refine blk_drew ?_ | refine blk_alloc ?_ _)); exact BK162.out) hb); have n5_ := Aside0.mk (below_step (by repeat (first | (with_reducible first | exact HB.out | apply below_alloc | apply pw_below_drewN | apply below_drew1 | refine below_set ?_ GE161.out | refine below_set ?_ GE162.out) | exact HB.out)) hb); clear HO168; clear HO174; clear BK161; clear BK162; clear HB; have HO168 := n0_; have HO174 := n1_; have HO177 := n2_; have BK161 := n3_; have BK162 := n4_; have HB := n5_; clear n0_ n1_ n2_ n3_ n4_ n5_; (try clear hb); (try clear hb2); (try clear hk); (try clear hi); (try clear ho0); obtain ⟨Ao21, co21, eo21⟩ := Kd.S_slice HO177.out; subst eo21; have hcz22_0 : w20.cell? ⟨gb161, 0, none⟩ = some (.int .i64 a0_0) := (blk_cell BK161.out 0).trans rfl; have hcz22_1 : w20.cell? ⟨gb161, 1, none⟩ = some (.int .i64 a0_1) := (blk_cell BK161.out 1).trans rfl; have hcz22_2 : w20.cell? ⟨gb161, 2, none⟩ = some (.int .i64 a0_2) := (blk_cell BK161.out 2).trans rfl; have hcz22_3 : w20.cell? ⟨gb161, 3, none⟩ = some (.int .i64 a0_3) := (blk_cell BK161.out 3).trans rfl; have hcz22_4 : w20.cell? ⟨gb161, 4, none⟩ = some (.slice Ao12 y166.length co12) := (blk_cell BK161.out 4).trans rfl; have hcz22_5 : w20.cell? ⟨gb161, 5, none⟩ = some (.slice A0_5 l0_5.length c0_5) := (blk_cell BK161.out 5).trans rfl; have hcz22_6 : w20.cell? ⟨gb161, 6, none⟩ = some (.slice A0_6 l0_6.length c0_6) := (blk_cell BK161.out 6).trans rfl; have hcz22_7 : w20.cell? ⟨gb161, 7, none⟩ = some (.slice Ao18 y172.length co18) := (blk_cell BK161.out 7).trans rfl; have hfz22_0 := blk_frozen BK161.out 0; have hfz22_1 := blk_frozen BK161.out 1; have hfz22_2 := blk_frozen BK161.out 2; have hfz22_3 := blk_frozen BK161.out 3; have hfz22_4 := blk_frozen BK161.out 4; have hfz22_5 := blk_frozen BK161.out 5; have hfz22_6 := blk_frozen BK161.out 6; have hfz22_7 := blk_frozen BK161.out 7) | ((with_reducible refine gate_dst (N := 20) rfl ?_); refine Kd.R_lit k45 _ 45 ?hg (N := 20) ?hd (xs := ([] : List (S45))) (inner := []) (ok := fun _ => True) (okp := fun _ => True) ?hr ?hp (fun _ hk => hk) trivial (Below.refl _ _) (Nat.le_refl _) (by simp) ?_; (case hd => rfl); (case hg => rfl); (case hr => first | (go_simp; done) | (go_simp; rfl)); (case hp => exact (Reps.none _ _)); intro v179 w23 ho24 hb hg_ hnew_; clear hg_ hnew_; (first | rw [← Ny178.out] at ho24 | (simp only [Int.reduceToNat] at ho24; rw [← Ny178.out] at ho24)); have n0_ := Aside0.mk (Kd.R_below (by (with_reducible repeat (first | apply Kd.R_alloc | apply Kd.R_drewN | apply Kd.R_drew)); exact (Kd.R_mono (Kd.R_far (p := ⟨gb161, 5, none⟩) (Kd.R_types HO168.out BK161.out (by decide)) (fun _ hk => hk.2) (.slice Ao21 t175.length co21)) (fun _ h_ => h_.1))) hb); have n1_ := Aside0.mk (Kd.R_below (by (with_reducible repeat (first | apply Kd.R_alloc | apply Kd.R_drewN | apply Kd.R_drew)); exact (Kd.R_mono (Kd.R_far (p := ⟨gb161, 5, none⟩) (Kd.R_types HO174.out BK161.out (by decide)) (fun _ hk => hk.2) (.slice Ao21 t175.length co21)) (fun _ h_ => h_.1))) hb); have n2_ := Aside0.mk (Kd.S_below (by (with_reducible repeat (first | apply Kd.S_alloc | apply Kd.S_drewN | apply Kd.S_drew)); exact (Kd.S_mono (Kd.S_far (p := ⟨gb161, 5, none⟩) (Kd.S_types HO177.out BK161.out (by decide)) (fun _ hk => hk.2) (.slice Ao21 t175.length co21)) (fun _ h_ => h_.1))) hb); have n3_ := Aside0.mk (Kd.R_lower (Kd.R_new' (Kd.R_new' (Kd.R_new' ho24 (Kd.R_lt (by (with_reducible repeat (first | apply Kd.R_alloc | apply Kd.R_drewN | apply Kd.R_drew)); exact (Kd.R_mono (Kd.R_far (p := ⟨gb161, 5, none⟩) (Kd.R_types HO168.out BK161.out (by decide)) (fun _ hk => hk.2) (.slice Ao21 t175.length co21)) (fun _ h_ => h_.1))))) (Kd.R_lt (by (with_reducible repeat (first | apply Kd.R_alloc | apply Kd.R_drewN | apply Kd.R_drew)); exact (Kd.R_mono (Kd.R_far (p := ⟨gb161, 5, none⟩) (Kd.R_types HO174.out BK161.out (by decide)) (fun _ hk => hk.2) (.slice Ao21 t175.length co21)) (fun _ h_ => h_.1))))) (Kd.S_lt (by (with_reducible repeat (first | apply Kd.S_alloc | apply Kd.S_drewN | apply Kd.S_drew)); exact (Kd.S_mono (Kd.S_far (p := ⟨gb161, 5, none⟩) (Kd.S_types HO177.out BK161.out (by decide)) (fun _ hk => hk.2) (.slice Ao21 t175.length co21)) (fun _ h_ => h_.1))))) (below_size (by repeat (first | (with_reducible first | exact HB.out | apply below_alloc | apply pw_below_drewN | apply below_drew1 | refine below_set ?_ GE161.out | refine below_set ?_ GE162.out) | exact HB.out)))); have n4_ := Aside0.mk (blk_below (g := gb161) (o := .cells #[.int .i64 a0_0, .int .i64 a0_1, .int .i64 a0_2, .int .i64 a0_3, .slice Ao12 y166.length co12, .slice Ao21 t175.length co21, .slice A0_6 l0_6.length c0_6, .slice Ao18 y172.length co18] 30 (0, 0)) (by (with_reducible repeat (first | refine blk_drewN ?_ _ | refine blk_drew ?_ | refine blk_alloc ?_ _)); refine blk_put (cs := #[.int .i64 a0_0, .int .i64 a0_1, .int .i64 a0_2, .int .i64 a0_3, .slice Ao12 y166.length co12, .slice A0_5 l0_5.length c0_5, .slice A0_6 l0_6.length c0_6, .slice Ao18 y172.length co18]) ?_ 5 _ rfl; (with_reducible repeat (first | refine blk_drewN ?_ _ | refine blk_drew ?_ | refine blk_alloc ?_ _)); exact BK161.out) hb); have n5_ := Aside0.mk (blk_below (g := gb162) (o := .cells #[.int .i64 0, .int .i64 0, .int .i64 0, .int .i64 0, .slice none 0 0, .slice none 0 0, .slice none 0 0, .slice none 0 0] 30 (0, 0)) (by (with_reducible repeat (first | refine blk_drewN ?_ _ | refine blk_drew ?_ | refine blk_alloc ?_ _)); refine blk_far ?_ NB162_161.out _; (with_reducible repeat (first | refine blk_drewN ?_ _ | refine blk_drew ?_ | refine blk_alloc ?_ _)); exact BK162.out) hb); have n6_ := Aside0.mk (below_step (by repeat (first | (with_reducible first | exact HB.out | apply below_alloc | apply pw_below_drewN | apply below_drew1 | refine below_set ?_ GE161.out | refine below_set ?_ GE162.out) | exact HB.out)) hb); clear HO168; clear HO174; clear HO177; clear BK161; clear BK162; clear HB; have HO168 := n0_; have HO174 := n1_; have HO177 := n2_; have HO180 := n3_; have BK161 := n4_; have BK162 := n5_; have HB := n6_; clear n0_ n1_ n2_ n3_ n4_ n5_ n6_; clear hb ho24; have hcz25_0 : w23.cell? ⟨gb161, 0, none⟩ = some (.int .i64 a0_0) := (blk_cell BK161.out 0).trans rfl; have hcz25_1 : w23.cell? ⟨gb161, 1, none⟩ = some (.int .i64 a0_1) := (blk_cell BK161.out 1).trans rfl; have hcz25_2 : w23.cell? ⟨gb161, 2, none⟩ = some (.int .i64 a0_2) := (blk_cell BK161.out 2).trans rfl; have hcz25_3 : w23.cell? ⟨gb161, 3, none⟩ = some (.int .i64 a0_3) := (blk_cell BK161.out 3).trans rfl; have hcz25_4 : w23.cell? ⟨gb161, 4, none⟩ = some (.slice Ao12 y166.length co12) := (blk_cell BK161.out 4).trans rfl; have hcz25_5 : w23.cell? ⟨gb161, 5, none⟩ = some (.slice Ao21 t175.length co21) := (blk_cell BK161.out 5).trans rfl; have hcz25_6 : w23.cell? ⟨gb161, 6, none⟩ = some (.slice A0_6 l0_6.length c0_6) := (blk_cell BK161.out 6).trans rfl; have hcz25_7 : w23.cell? ⟨gb161, 7, none⟩ = some (.slice Ao18 y172.length co18) := (blk_cell BK161.out 7).trans rfl; have hfz25_0 := blk_frozen BK161.out 0; have hfz25_1 := blk_frozen BK161.out 1; have hfz25_2 := blk_frozen BK161.out 2; have hfz25_3 := blk_frozen BK161.out 3; have hfz25_4 := blk_frozen BK161.out 4; have hfz25_5 := blk_frozen BK161.out 5; have hfz25_6 := blk_frozen BK161.out 6; have hfz25_7 := blk_frozen BK161.out 7))
      go_loopg [3, 24] k (fun kq v3 v24 w' => ∃ (x3_1 : List (S45)) (x24_1 : Int), v24 = .int .i64 x24_1 ∧ Aside0 (catenaryref05_CopyReport.l0 kq x3_1 l0_6 (l0_6.length : Int) x24_1 a0_0 a0_1 a0_2 a0_3 y166 t175 l0_6 y172 = some (r1, r2, r3, r4, r5, r6, r7, r8)) ∧ Aside0 (kq ≤ k) ∧ Aside0 (Kd.R k45 45 w' w.heap.size (fun k_ => some k_ ≠ ((.slice Ao12 y166.length co12) : Value).ownBlock ∧ some k_ ≠ ((.slice Ao21 t175.length co21) : Value).ownBlock ∧ some k_ ≠ ((.slice Ao18 y172.length co18) : Value).ownBlock) v3 x3_1) ∧ Aside0 (Kd.R (Kd.int .u8) 5 w' w.heap.size (fun k_ => some k_ ≠ ((.slice Ao18 y172.length co18) : Value).ownBlock) (.slice Ao12 y166.length co12) y166) ∧ Aside0 (Kd.S k57 57 w' w.heap.size (fun k_ => some k_ ≠ ((.slice Ao12 y166.length co12) : Value).ownBlock ∧ some k_ ≠ ((.slice Ao18 y172.length co18) : Value).ownBlock) (.slice Ao21 t175.length co21) t175) ∧ Aside0 (Kd.R (Kd.int .u8) 5 w' w.heap.size (fun k_ => some k_ ≠ ((.slice Ao12 y166.length co12) : Value).ownBlock) (.slice Ao18 y172.length co18) y172) ∧ Aside0 (w'.heap[gb161]? = some (.cells #[.int .i64 a0_0, .int .i64 a0_1, .int .i64 a0_2, .int .i64 a0_3, (.slice Ao12 y166.length co12), (.slice Ao21 t175.length co21), (.slice A0_6 l0_6.length c0_6), (.slice Ao18 y172.length co18)] 30 (0, 0))) ∧ Aside0 (w'.heap[gb162]? = some (.cells #[.int .i64 0, .int .i64 0, .int .i64 0, .int .i64 0, (.slice none 0 0), (.slice none 0 0), (.slice none 0 0), (.slice none 0 0)] 30 (0, 0))) ∧ Aside0 (Below w.heap.size w w'))
      case atStart => exact ⟨(y178), (0), (by first | rfl | (simp; done) | (simp [*]; done)), H', ⟨Nat.le_refl _⟩, ⟨by (with_reducible repeat (first | apply Kd.R_alloc | apply Kd.R_drewN | apply Kd.R_drew)); exact Kd.R_mono HO180.out (fun _ hk => ⟨hk.1.1.2, ⟨hk.2, hk.1.2⟩⟩)⟩, ⟨by (with_reducible repeat (first | apply Kd.R_alloc | apply Kd.R_drewN | apply Kd.R_drew)); exact Kd.R_mono HO168.out (fun _ hk => hk.2)⟩, ⟨by (with_reducible repeat (first | apply Kd.S_alloc | apply Kd.S_drewN | apply Kd.S_drew)); exact Kd.S_mono HO177.out (fun _ hk => ⟨hk.1.2, hk.2⟩)⟩, ⟨by (with_reducible repeat (first | apply Kd.R_alloc | apply Kd.R_drewN | apply Kd.R_drew)); exact HO174.out⟩, ⟨by (with_reducible repeat (first | refine blk_drewN ?_ _ | refine blk_drew ?_ | refine blk_alloc ?_ _)); exact BK161.out⟩, ⟨by (with_reducible repeat (first | refine blk_drewN ?_ _ | refine blk_drew ?_ | refine blk_alloc ?_ _)); exact BK162.out⟩, ⟨by repeat (first | (with_reducible first | exact HB.out | apply below_alloc | apply pw_below_drewN | apply below_drew1 | refine below_set ?_ GE161.out | refine below_set ?_ GE162.out) | exact HB.out)⟩⟩
      case round =>
        clear H'
        try clear c1
        try clear c2
        try clear p2
        try clear c3
        try clear c6
        try clear c9
        try clear c18
        try clear hcz10_0
        try clear hcz10_1
        try clear hcz10_2
        try clear hcz10_3
        try clear hcz10_4
        try clear hcz10_5
        try clear hcz10_6
        try clear hcz10_7
        try clear hcz13_0
        try clear hcz13_1
        try clear hcz13_2
        try clear hcz13_3
        try clear hcz13_4
        try clear hcz13_5
        try clear hcz13_6
        try clear hcz13_7
        try clear hcz16_0
        try clear hcz16_1
        try clear hcz16_2
        try clear hcz16_3
        try clear hcz16_4
        try clear hcz16_5
        try clear hcz16_6
        try clear hcz16_7
        try clear hcz19_0
        try clear hcz19_1
        try clear hcz19_2
        try clear hcz19_3
        try clear hcz19_4
        try clear hcz19_5
        try clear hcz19_6
        try clear hcz19_7
        try clear hcz22_0
        try clear hcz22_1
        try clear hcz22_2
        try clear hcz22_3
        try clear hcz22_4
        try clear hcz22_5
        try clear hcz22_6
        try clear hcz22_7
        try clear hcz25_0
        try clear hcz25_1
        try clear hcz25_2
        try clear hcz25_3
        try clear hcz25_4
        try clear hcz25_5
        try clear hcz25_6
        try clear hcz25_7
        try clear hfz10_0
        try clear hfz10_1
        try clear hfz10_2
        try clear hfz10_3
        try clear hfz10_4
        try clear hfz10_5
        try clear hfz10_6
        try clear hfz10_7
        try clear hfz13_0
        try clear hfz13_1
        try clear hfz13_2
        try clear hfz13_3
        try clear hfz13_4
        try clear hfz13_5
        try clear hfz13_6
        try clear hfz13_7
        try clear hfz16_0
        try clear hfz16_1
        try clear hfz16_2
        try clear hfz16_3
        try clear hfz16_4
        try clear hfz16_5
        try clear hfz16_6
        try clear hfz16_7
        try clear hfz19_0
        try clear hfz19_1
        try clear hfz19_2
        try clear hfz19_3
        try clear hfz19_4
        try clear hfz19_5
        try clear hfz19_6
        try clear hfz19_7
        try clear hfz22_0
        try clear hfz22_1
        try clear hfz22_2
        try clear hfz22_3
        try clear hfz22_4
        try clear hfz22_5
        try clear hfz22_6
        try clear hfz22_7
        try clear hfz25_0
        try clear hfz25_1
        try clear hfz25_2
        try clear hfz25_3
        try clear hfz25_4
        try clear hfz25_5
        try clear hfz25_6
        try clear hfz25_7
        obtain ⟨x3_1, x24_1, rfl, HA, HK1, HO_3, HO_162004, HO_162005, HO_162007, BK161, BK162, HB⟩ := hrel
        cases gk with
        | zero => exact absurd HA.out (by simp [catenaryref05_CopyReport.l0])
        | succ k1 =>
          have H := HA.out
          clear HA
          simp only [catenaryref05_CopyReport.l0] at H
          by_cases c26 : x24_1 < (l0_6.length : Int)
          · rw [if_pos c26] at H
            have c26b0 : decide (x24_1 < (l0_6.length : Int)) = true := decide_eq_true c26
            clear c26
            by_cases c27 : 0 ≤ x24_1
            · rw [if_pos c27] at H
              have c27b0 : decide (0 ≤ x24_1) = true := decide_eq_true c27
              clear c27
              by_cases c28 : x24_1 < (l0_6.length : Int)
              · rw [if_pos c28] at H
                have c28b0 : decide (x24_1 < (l0_6.length : Int)) = true := decide_eq_true c28
                clear c28
                replace H := Option.bind_eq_some_iff.mp H
                obtain ⟨⟨t183, t184, t185, t188⟩, A290, H⟩ := H
                replace H : ((catenaryref05_CopyVotes.f k1 ((rd_T45 l0_6 x24_1).f3)).bind fun t191 => (if x3_1.length < 1256584717458 then (catenaryref05_CopyReport.l0 k1 (x3_1 ++ [(⟨(rd_T45 l0_6 x24_1).f0, (⟨(rd_T45 l0_6 x24_1).f1.f0, (rd_T45 l0_6 x24_1).f1.f1⟩ : S25), (⟨t183, t184, t185, t188⟩ : S36), t191⟩ : S45)]) l0_6 (l0_6.length : Int) (wrap64 (x24_1 + 1)) a0_0 a0_1 a0_2 a0_3 y166 t175 l0_6 y172) else (none))) = some (r1, r2, r3, r4, r5, r6, r7, r8) := H
                have A29 := Aside0.mk A290
                clear A290
                replace H := Option.bind_eq_some_iff.mp H
                obtain ⟨t191, A300, H⟩ := H
                replace H : (if x3_1.length < 1256584717458 then (catenaryref05_CopyReport.l0 k1 (x3_1 ++ [(⟨(rd_T45 l0_6 x24_1).f0, (⟨(rd_T45 l0_6 x24_1).f1.f0, (rd_T45 l0_6 x24_1).f1.f1⟩ : S25), (⟨t183, t184, t185, t188⟩ : S36), t191⟩ : S45)]) l0_6 (l0_6.length : Int) (wrap64 (x24_1 + 1)) a0_0 a0_1 a0_2 a0_3 y166 t175 l0_6 y172) else (none)) = some (r1, r2, r3, r4, r5, r6, r7, r8) := H
                have A30 := Aside0.mk A300
                clear A300
                by_cases c31 : x3_1.length < 1256584717458
                · rw [if_pos c31] at H
                  have LMc31 := Aside0.mk c31
                  clear c31
                  obtain ⟨y194, hy194⟩ : ∃ y_ : List (S45), y_ = (x3_1 ++ [(⟨(rd_T45 l0_6 x24_1).f0, (⟨(rd_T45 l0_6 x24_1).f1.f0, (rd_T45 l0_6 x24_1).f1.f1⟩ : S25), (⟨t183, t184, t185, t188⟩ : S36), t191⟩ : S45)]) := ⟨_, rfl⟩
                  replace H : (catenaryref05_CopyReport.l0 k1 y194 l0_6 (l0_6.length : Int) (wrap64 (x24_1 + 1)) a0_0 a0_1 a0_2 a0_3 y166 t175 l0_6 y172) = some (r1, r2, r3, r4, r5, r6, r7, r8) := by first | (rw [hy194]; with_reducible exact H) | (have H2_ := (Option.bind_some _ _).symm.trans H; rw [hy194]; with_reducible exact H2_) | (have H2_ := (Option.bind_some _ _).symm.trans H; with_reducible exact H2_) | with_reducible exact H | (rw [hy194]; exact H) | exact H
                  have Ny194 := Aside0.mk hy194
                  clear hy194
                  have H' := Aside0.mk H
                  clear H
                  have p181 : 0 ≤ (x24_1 : Int) := of_decide_eq_true (by first | (with_reducible assumption) | assumption)
                  have q181 : x24_1 < (l0_6.length : Int) := of_decide_eq_true (by first | (with_reducible assumption) | assumption)
                  obtain ⟨ad181, A181_5, c181_5, A181_6, c181_6, A181_7, c181_7, e181, hx181_0, hx181_1, hx181_2, hx181_3, hx181_4, hx181_5, hx181_6, hx181_7, hl181_5, hi181_5, hl181_6, hi181_6, hl181_7, hi181_7⟩ := at_T45 HR0_6.out x24_1 p181 q181
                  cases e181
                  replace hx181_0 := (HB.out.cell (World.block_lt_of_cell? w _ hx181_0)).trans hx181_0
                  replace hx181_1 := (HB.out.cell (World.block_lt_of_cell? w _ hx181_1)).trans hx181_1
                  replace hx181_2 := (HB.out.cell (World.block_lt_of_cell? w _ hx181_2)).trans hx181_2
                  replace hx181_3 := (HB.out.cell (World.block_lt_of_cell? w _ hx181_3)).trans hx181_3
                  replace hx181_4 := (HB.out.cell (World.block_lt_of_cell? w _ hx181_4)).trans hx181_4
                  replace hx181_5 := (HB.out.cell (World.block_lt_of_cell? w _ hx181_5)).trans hx181_5
                  replace hx181_6 := (HB.out.cell (World.block_lt_of_cell? w _ hx181_6)).trans hx181_6
                  replace hx181_7 := (HB.out.cell (World.block_lt_of_cell? w _ hx181_7)).trans hx181_7
                  have HR181_5 := Aside0.mk hi181_5
                  have HC181_5 := Aside0.mk hl181_5
                  clear hi181_5 hl181_5
                  have HR181_6 := Aside0.mk hi181_6
                  have HC181_6 := Aside0.mk hl181_6
                  clear hi181_6 hl181_6
                  have HR181_7 := Aside0.mk hi181_7
                  have HC181_7 := Aside0.mk hl181_7
                  clear hi181_7 hl181_7
                  replace p181 := eq_true p181
                  replace q181 := eq_true q181
                  try go_wp2_with (first | ((with_reducible refine gate_dst (N := 5) rfl ?_); refine box_event ?hg (N := 5) ?hd (cs := #[.int .i64 0, .int .i64 0, .int .i64 0, .int .i64 0, .int .i64 0, .slice none 0 0, .slice none 0 0, .slice none 0 0]) (t := 45) ?hr ?_; (case hd => rfl); (case hg => rfl); (case hr => first | (go_simp; done) | (go_simp; rfl)); intro gb182 hg w32 hbox hb; have n0_ := Aside0.mk (Kd.R_below (Kd.R_elderB (by (with_reducible repeat (first | apply Kd.R_alloc | apply Kd.R_drewN | apply Kd.R_drew)); exact HO_3.out) gb182 (Nat.le_of_eq hg.symm)) hb); have n1_ := Aside0.mk (Kd.R_below (by (with_reducible repeat (first | apply Kd.R_alloc | apply Kd.R_drewN | apply Kd.R_drew)); exact HO_162004.out) hb); have n2_ := Aside0.mk (Kd.S_below (by (with_reducible repeat (first | apply Kd.S_alloc | apply Kd.S_drewN | apply Kd.S_drew)); exact HO_162005.out) hb); have n3_ := Aside0.mk (Kd.R_below (by (with_reducible repeat (first | apply Kd.R_alloc | apply Kd.R_drewN | apply Kd.R_drew)); exact HO_162007.out) hb); have n4_ := Aside0.mk (blk_below (g := gb161) (o := .cells #[.int .i64 a0_0, .int .i64 a0_1, .int .i64 a0_2, .int .i64 a0_3, .slice Ao12 y166.length co12, .slice Ao21 t175.length co21, .slice (some ad181) l0_6.length c0_6, .slice Ao18 y172.length co18] 30 (0, 0)) (by (with_reducible repeat (first | refine blk_drewN ?_ _ | refine blk_drew ?_ | refine blk_alloc ?_ _)); exact BK161.out) hb); have n5_ := Aside0.mk (blk_below (g := gb162) (o := .cells #[.int .i64 0, .int .i64 0, .int .i64 0, .int .i64 0, .slice none 0 0, .slice none 0 0, .slice none 0 0, .slice none 0 0] 30 (0, 0)) (by (with_reducible repeat (first | refine blk_drewN ?_ _ | refine blk_drew ?_ | refine blk_alloc ?_ _)); exact BK162.out) hb); have n6_ := Aside0.mk (below_step (by repeat (first | (with_reducible first | exact HB.out | apply below_alloc | apply pw_below_drewN | apply below_drew1 | refine below_set ?_ GE161.out | refine below_set ?_ GE162.out) | exact HB.out)) hb); have n7_ := Aside0.mk (hbox); have n8_ := Aside0.mk ((by rw [hg]; exact (below_size (by repeat (first | (with_reducible first | exact HB.out | apply below_alloc | apply pw_below_drewN | apply below_drew1 | refine below_set ?_ GE161.out | refine below_set ?_ GE162.out) | exact HB.out))) : w.heap.size ≤ gb182)); have n9_ := Aside0.mk ((by rw [hg]; exact (below_size (by repeat (first | (with_reducible first | exact HB.out | apply below_alloc | apply pw_below_drewN | apply below_drew1 | refine below_set ?_ GE161.out | refine below_set ?_ GE162.out) | exact HB.out))) : w.heap.size ≤ gb182)); have n10_ := Aside0.mk ((by rw [hg]; exact Nat.ne_of_lt (blk_lt (g := gb161) (o := .cells #[.int .i64 a0_0, .int .i64 a0_1, .int .i64 a0_2, .int .i64 a0_3, .slice Ao12 y166.length co12, .slice Ao21 t175.length co21, .slice (some ad181) l0_6.length c0_6, .slice Ao18 y172.length co18] 30 (0, 0)) (by (with_reducible repeat (first | refine blk_drewN ?_ _ | refine blk_drew ?_ | refine blk_alloc ?_ _)); exact BK161.out)) : gb161 ≠ gb182)); have n11_ := Aside0.mk ((by rw [hg]; exact Nat.ne_of_gt (blk_lt (g := gb161) (o := .cells #[.int .i64 a0_0, .int .i64 a0_1, .int .i64 a0_2, .int .i64 a0_3, .slice Ao12 y166.length co12, .slice Ao21 t175.length co21, .slice (some ad181) l0_6.length c0_6, .slice Ao18 y172.length co18] 30 (0, 0)) (by (with_reducible repeat (first | refine blk_drewN ?_ _ | refine blk_drew ?_ | refine blk_alloc ?_ _)); exact BK161.out)) : gb182 ≠ gb161)); have n12_ := Aside0.mk ((by rw [hg]; exact Nat.ne_of_lt (blk_lt (g := gb162) (o := .cells #[.int .i64 0, .int .i64 0, .int .i64 0, .int .i64 0, .slice none 0 0, .slice none 0 0, .slice none 0 0, .slice none 0 0] 30 (0, 0)) (by (with_reducible repeat (first | refine blk_drewN ?_ _ | refine blk_drew ?_ | refine blk_alloc ?_ _)); exact BK162.out)) : gb162 ≠ gb182)); have n13_ := Aside0.mk ((by rw [hg]; exact Nat.ne_of_gt (blk_lt (g := gb162) (o := .cells #[.int .i64 0, .int .i64 0, .int .i64 0, .int .i64 0, .slice none 0 0, .slice none 0 0, .slice none 0 0, .slice none 0 0] 30 (0, 0)) (by (with_reducible repeat (first | refine blk_drewN ?_ _ | refine blk_drew ?_ | refine blk_alloc ?_ _)); exact BK162.out)) : gb182 ≠ gb162)); clear HO_3; clear HO_162004; clear HO_162005; clear HO_162007; clear BK161; clear BK162; clear HB; have HO_3 := n0_; have HO_162004 := n1_; have HO_162005 := n2_; have HO_162007 := n3_; have BK161 := n4_; have BK162 := n5_; have HB := n6_; have BK182 := n7_; have GW182 := n8_; have GE182 := n9_; have NB161_182 := n10_; have NB182_161 := n11_; have NB162_182 := n12_; have NB182_162 := n13_; clear n0_ n1_ n2_ n3_ n4_ n5_ n6_ n7_ n8_ n9_ n10_ n11_ n12_ n13_; clear hb hbox hg; have hnb33 := NB182_161.out; have hnc33 := NB161_182.out; have hnb34 := NB182_162.out; have hnc34 := NB162_182.out; have hcz35_0 : w32.cell? ⟨gb182, 0, none⟩ = some (.int .i64 0) := (blk_cell BK182.out 0).trans rfl; have hcz35_1 : w32.cell? ⟨gb182, 1, none⟩ = some (.int .i64 0) := (blk_cell BK182.out 1).trans rfl; have hcz35_2 : w32.cell? ⟨gb182, 2, none⟩ = some (.int .i64 0) := (blk_cell BK182.out 2).trans rfl; have hcz35_3 : w32.cell? ⟨gb182, 3, none⟩ = some (.int .i64 0) := (blk_cell BK182.out 3).trans rfl; have hcz35_4 : w32.cell? ⟨gb182, 4, none⟩ = some (.int .i64 0) := (blk_cell BK182.out 4).trans rfl; have hcz35_5 : w32.cell? ⟨gb182, 5, none⟩ = some (.slice none 0 0) := (blk_cell BK182.out 5).trans rfl; have hcz35_6 : w32.cell? ⟨gb182, 6, none⟩ = some (.slice none 0 0) := (blk_cell BK182.out 6).trans rfl; have hcz35_7 : w32.cell? ⟨gb182, 7, none⟩ = some (.slice none 0 0) := (blk_cell BK182.out 7).trans rfl; have hfz35_0 := blk_frozen BK182.out 0; have hfz35_1 := blk_frozen BK182.out 1; have hfz35_2 := blk_frozen BK182.out 2; have hfz35_3 := blk_frozen BK182.out 3; have hfz35_4 := blk_frozen BK182.out 4; have hfz35_5 := blk_frozen BK182.out 5; have hfz35_6 := blk_frozen BK182.out 6; have hfz35_7 := blk_frozen BK182.out 7))
                  have n0_ : Aside0 (Kd.R k45 45 ((((((((w32.setCell ⟨gb182, 0, none⟩ (.int .i64 ((rd_T45 l0_6 x24_1).f0))).setCell ⟨gb182, 1, none⟩ (.int .i64 ((rd_T45 l0_6 x24_1).f1.f0))).setCell ⟨gb182, 2, none⟩ (.int .i64 ((rd_T45 l0_6 x24_1).f1.f1))).setCell ⟨gb182, 3, none⟩ (.int .i64 ((rd_T45 l0_6 x24_1).f2.f0))).setCell ⟨gb182, 4, none⟩ (.int .i64 ((rd_T45 l0_6 x24_1).f2.f1))).setCell ⟨gb182, 5, none⟩ (.slice A181_5 ((rd_T45 l0_6 x24_1).f2.f2).length c181_5)).setCell ⟨gb182, 6, none⟩ (.slice A181_6 ((rd_T45 l0_6 x24_1).f2.f3).length c181_6)).setCell ⟨gb182, 7, none⟩ (.slice A181_7 ((rd_T45 l0_6 x24_1).f3).length c181_7)) w.heap.size (fun k_ => some k_ ≠ (.slice Ao12 y166.length co12 : Value).ownBlock ∧ some k_ ≠ (.slice Ao21 t175.length co21 : Value).ownBlock ∧ some k_ ≠ (.slice Ao18 y172.length co18 : Value).ownBlock ∧ k_ ≠ gb182) u3 x3_1) := ⟨by (with_reducible repeat (first | apply Kd.R_alloc | apply Kd.R_drewN | apply Kd.R_drew)); exact Kd.R_mono (Kd.R_far (p := ⟨gb182, 7, none⟩) (Kd.R_far (p := ⟨gb182, 6, none⟩) (Kd.R_far (p := ⟨gb182, 5, none⟩) (Kd.R_far (p := ⟨gb182, 4, none⟩) (Kd.R_far (p := ⟨gb182, 3, none⟩) (Kd.R_far (p := ⟨gb182, 2, none⟩) (Kd.R_far (p := ⟨gb182, 1, none⟩) (Kd.R_far (p := ⟨gb182, 0, none⟩) (Kd.R_mono HO_3.out (fun k_ hk => (⟨hk, hk.2⟩ : _ ∧ k_ ≠ gb182))) (fun _ hk => hk.2) (.int .i64 ((rd_T45 l0_6 x24_1).f0))) (fun _ hk => hk.2) (.int .i64 ((rd_T45 l0_6 x24_1).f1.f0))) (fun _ hk => hk.2) (.int .i64 ((rd_T45 l0_6 x24_1).f1.f1))) (fun _ hk => hk.2) (.int .i64 ((rd_T45 l0_6 x24_1).f2.f0))) (fun _ hk => hk.2) (.int .i64 ((rd_T45 l0_6 x24_1).f2.f1))) (fun _ hk => hk.2) (.slice A181_5 ((rd_T45 l0_6 x24_1).f2.f2).length c181_5)) (fun _ hk => hk.2) (.slice A181_6 ((rd_T45 l0_6 x24_1).f2.f3).length c181_6)) (fun _ hk => hk.2) (.slice A181_7 ((rd_T45 l0_6 x24_1).f3).length c181_7)) (fun _ hk => ⟨hk.1.1.1, ⟨hk.1.1.2.1, ⟨hk.1.1.2.2, hk.1.2⟩⟩⟩)⟩
                  have n1_ : Aside0 (Kd.R (Kd.int .u8) 5 ((((((((w32.setCell ⟨gb182, 0, none⟩ (.int .i64 ((rd_T45 l0_6 x24_1).f0))).setCell ⟨gb182, 1, none⟩ (.int .i64 ((rd_T45 l0_6 x24_1).f1.f0))).setCell ⟨gb182, 2, none⟩ (.int .i64 ((rd_T45 l0_6 x24_1).f1.f1))).setCell ⟨gb182, 3, none⟩ (.int .i64 ((rd_T45 l0_6 x24_1).f2.f0))).setCell ⟨gb182, 4, none⟩ (.int .i64 ((rd_T45 l0_6 x24_1).f2.f1))).setCell ⟨gb182, 5, none⟩ (.slice A181_5 ((rd_T45 l0_6 x24_1).f2.f2).length c181_5)).setCell ⟨gb182, 6, none⟩ (.slice A181_6 ((rd_T45 l0_6 x24_1).f2.f3).length c181_6)).setCell ⟨gb182, 7, none⟩ (.slice A181_7 ((rd_T45 l0_6 x24_1).f3).length c181_7)) w.heap.size (fun k_ => some k_ ≠ (.slice Ao18 y172.length co18 : Value).ownBlock) (.slice Ao12 y166.length co12) y166) := ⟨by (with_reducible repeat (first | apply Kd.R_alloc | apply Kd.R_drewN | apply Kd.R_drew)); exact Kd.R_mono (Kd.R_far (p := ⟨gb182, 7, none⟩) (Kd.R_far (p := ⟨gb182, 6, none⟩) (Kd.R_far (p := ⟨gb182, 5, none⟩) (Kd.R_far (p := ⟨gb182, 4, none⟩) (Kd.R_far (p := ⟨gb182, 3, none⟩) (Kd.R_far (p := ⟨gb182, 2, none⟩) (Kd.R_far (p := ⟨gb182, 1, none⟩) (Kd.R_far (p := ⟨gb182, 0, none⟩) (Kd.R_types HO_162004.out BK182.out (by decide)) (fun _ hk => hk.2) (.int .i64 ((rd_T45 l0_6 x24_1).f0))) (fun _ hk => hk.2) (.int .i64 ((rd_T45 l0_6 x24_1).f1.f0))) (fun _ hk => hk.2) (.int .i64 ((rd_T45 l0_6 x24_1).f1.f1))) (fun _ hk => hk.2) (.int .i64 ((rd_T45 l0_6 x24_1).f2.f0))) (fun _ hk => hk.2) (.int .i64 ((rd_T45 l0_6 x24_1).f2.f1))) (fun _ hk => hk.2) (.slice A181_5 ((rd_T45 l0_6 x24_1).f2.f2).length c181_5)) (fun _ hk => hk.2) (.slice A181_6 ((rd_T45 l0_6 x24_1).f2.f3).length c181_6)) (fun _ hk => hk.2) (.slice A181_7 ((rd_T45 l0_6 x24_1).f3).length c181_7)) (fun _ hk => hk.1)⟩
                  have n2_ : Aside0 (Kd.S k57 57 ((((((((w32.setCell ⟨gb182, 0, none⟩ (.int .i64 ((rd_T45 l0_6 x24_1).f0))).setCell ⟨gb182, 1, none⟩ (.int .i64 ((rd_T45 l0_6 x24_1).f1.f0))).setCell ⟨gb182, 2, none⟩ (.int .i64 ((rd_T45 l0_6 x24_1).f1.f1))).setCell ⟨gb182, 3, none⟩ (.int .i64 ((rd_T45 l0_6 x24_1).f2.f0))).setCell ⟨gb182, 4, none⟩ (.int .i64 ((rd_T45 l0_6 x24_1).f2.f1))).setCell ⟨gb182, 5, none⟩ (.slice A181_5 ((rd_T45 l0_6 x24_1).f2.f2).length c181_5)).setCell ⟨gb182, 6, none⟩ (.slice A181_6 ((rd_T45 l0_6 x24_1).f2.f3).length c181_6)).setCell ⟨gb182, 7, none⟩ (.slice A181_7 ((rd_T45 l0_6 x24_1).f3).length c181_7)) w.heap.size (fun k_ => some k_ ≠ (.slice Ao12 y166.length co12 : Value).ownBlock ∧ some k_ ≠ (.slice Ao18 y172.length co18 : Value).ownBlock) (.slice Ao21 t175.length co21) t175) := ⟨by (with_reducible repeat (first | apply Kd.S_alloc | apply Kd.S_drewN | apply Kd.S_drew)); exact Kd.S_mono (Kd.S_far (p := ⟨gb182, 7, none⟩) (Kd.S_far (p := ⟨gb182, 6, none⟩) (Kd.S_far (p := ⟨gb182, 5, none⟩) (Kd.S_far (p := ⟨gb182, 4, none⟩) (Kd.S_far (p := ⟨gb182, 3, none⟩) (Kd.S_far (p := ⟨gb182, 2, none⟩) (Kd.S_far (p := ⟨gb182, 1, none⟩) (Kd.S_far (p := ⟨gb182, 0, none⟩) (Kd.S_types HO_162005.out BK182.out (by decide)) (fun _ hk => hk.2) (.int .i64 ((rd_T45 l0_6 x24_1).f0))) (fun _ hk => hk.2) (.int .i64 ((rd_T45 l0_6 x24_1).f1.f0))) (fun _ hk => hk.2) (.int .i64 ((rd_T45 l0_6 x24_1).f1.f1))) (fun _ hk => hk.2) (.int .i64 ((rd_T45 l0_6 x24_1).f2.f0))) (fun _ hk => hk.2) (.int .i64 ((rd_T45 l0_6 x24_1).f2.f1))) (fun _ hk => hk.2) (.slice A181_5 ((rd_T45 l0_6 x24_1).f2.f2).length c181_5)) (fun _ hk => hk.2) (.slice A181_6 ((rd_T45 l0_6 x24_1).f2.f3).length c181_6)) (fun _ hk => hk.2) (.slice A181_7 ((rd_T45 l0_6 x24_1).f3).length c181_7)) (fun _ hk => ⟨hk.1.1, hk.1.2⟩)⟩
                  have n3_ : Aside0 (Kd.R (Kd.int .u8) 5 ((((((((w32.setCell ⟨gb182, 0, none⟩ (.int .i64 ((rd_T45 l0_6 x24_1).f0))).setCell ⟨gb182, 1, none⟩ (.int .i64 ((rd_T45 l0_6 x24_1).f1.f0))).setCell ⟨gb182, 2, none⟩ (.int .i64 ((rd_T45 l0_6 x24_1).f1.f1))).setCell ⟨gb182, 3, none⟩ (.int .i64 ((rd_T45 l0_6 x24_1).f2.f0))).setCell ⟨gb182, 4, none⟩ (.int .i64 ((rd_T45 l0_6 x24_1).f2.f1))).setCell ⟨gb182, 5, none⟩ (.slice A181_5 ((rd_T45 l0_6 x24_1).f2.f2).length c181_5)).setCell ⟨gb182, 6, none⟩ (.slice A181_6 ((rd_T45 l0_6 x24_1).f2.f3).length c181_6)).setCell ⟨gb182, 7, none⟩ (.slice A181_7 ((rd_T45 l0_6 x24_1).f3).length c181_7)) w.heap.size (fun k_ => some k_ ≠ (.slice Ao12 y166.length co12 : Value).ownBlock) (.slice Ao18 y172.length co18) y172) := ⟨by (with_reducible repeat (first | apply Kd.R_alloc | apply Kd.R_drewN | apply Kd.R_drew)); exact Kd.R_mono (Kd.R_far (p := ⟨gb182, 7, none⟩) (Kd.R_far (p := ⟨gb182, 6, none⟩) (Kd.R_far (p := ⟨gb182, 5, none⟩) (Kd.R_far (p := ⟨gb182, 4, none⟩) (Kd.R_far (p := ⟨gb182, 3, none⟩) (Kd.R_far (p := ⟨gb182, 2, none⟩) (Kd.R_far (p := ⟨gb182, 1, none⟩) (Kd.R_far (p := ⟨gb182, 0, none⟩) (Kd.R_types HO_162007.out BK182.out (by decide)) (fun _ hk => hk.2) (.int .i64 ((rd_T45 l0_6 x24_1).f0))) (fun _ hk => hk.2) (.int .i64 ((rd_T45 l0_6 x24_1).f1.f0))) (fun _ hk => hk.2) (.int .i64 ((rd_T45 l0_6 x24_1).f1.f1))) (fun _ hk => hk.2) (.int .i64 ((rd_T45 l0_6 x24_1).f2.f0))) (fun _ hk => hk.2) (.int .i64 ((rd_T45 l0_6 x24_1).f2.f1))) (fun _ hk => hk.2) (.slice A181_5 ((rd_T45 l0_6 x24_1).f2.f2).length c181_5)) (fun _ hk => hk.2) (.slice A181_6 ((rd_T45 l0_6 x24_1).f2.f3).length c181_6)) (fun _ hk => hk.2) (.slice A181_7 ((rd_T45 l0_6 x24_1).f3).length c181_7)) (fun _ hk => hk.1)⟩
                  have n4_ : Aside0 (((((((((w32.setCell ⟨gb182, 0, none⟩ (.int .i64 ((rd_T45 l0_6 x24_1).f0))).setCell ⟨gb182, 1, none⟩ (.int .i64 ((rd_T45 l0_6 x24_1).f1.f0))).setCell ⟨gb182, 2, none⟩ (.int .i64 ((rd_T45 l0_6 x24_1).f1.f1))).setCell ⟨gb182, 3, none⟩ (.int .i64 ((rd_T45 l0_6 x24_1).f2.f0))).setCell ⟨gb182, 4, none⟩ (.int .i64 ((rd_T45 l0_6 x24_1).f2.f1))).setCell ⟨gb182, 5, none⟩ (.slice A181_5 ((rd_T45 l0_6 x24_1).f2.f2).length c181_5)).setCell ⟨gb182, 6, none⟩ (.slice A181_6 ((rd_T45 l0_6 x24_1).f2.f3).length c181_6)).setCell ⟨gb182, 7, none⟩ (.slice A181_7 ((rd_T45 l0_6 x24_1).f3).length c181_7)).heap[gb161]? = some (.cells #[.int .i64 a0_0, .int .i64 a0_1, .int .i64 a0_2, .int .i64 a0_3, .slice Ao12 y166.length co12, .slice Ao21 t175.length co21, .slice (some ad181) l0_6.length c0_6, .slice Ao18 y172.length co18] 30 (0, 0))) := ⟨by (with_reducible repeat (first | refine blk_drewN ?_ _ | refine blk_drew ?_ | refine blk_alloc ?_ _)); refine blk_far ?_ NB161_182.out _; (with_reducible repeat (first | refine blk_drewN ?_ _ | refine blk_drew ?_ | refine blk_alloc ?_ _)); refine blk_far ?_ NB161_182.out _; (with_reducible repeat (first | refine blk_drewN ?_ _ | refine blk_drew ?_ | refine blk_alloc ?_ _)); refine blk_far ?_ NB161_182.out _; (with_reducible repeat (first | refine blk_drewN ?_ _ | refine blk_drew ?_ | refine blk_alloc ?_ _)); refine blk_far ?_ NB161_182.out _; (with_reducible repeat (first | refine blk_drewN ?_ _ | refine blk_drew ?_ | refine blk_alloc ?_ _)); refine blk_far ?_ NB161_182.out _; (with_reducible repeat (first | refine blk_drewN ?_ _ | refine blk_drew ?_ | refine blk_alloc ?_ _)); refine blk_far ?_ NB161_182.out _; (with_reducible repeat (first | refine blk_drewN ?_ _ | refine blk_drew ?_ | refine blk_alloc ?_ _)); refine blk_far ?_ NB161_182.out _; (with_reducible repeat (first | refine blk_drewN ?_ _ | refine blk_drew ?_ | refine blk_alloc ?_ _)); refine blk_far ?_ NB161_182.out _; (with_reducible repeat (first | refine blk_drewN ?_ _ | refine blk_drew ?_ | refine blk_alloc ?_ _)); exact BK161.out⟩
                  have n5_ : Aside0 (((((((((w32.setCell ⟨gb182, 0, none⟩ (.int .i64 ((rd_T45 l0_6 x24_1).f0))).setCell ⟨gb182, 1, none⟩ (.int .i64 ((rd_T45 l0_6 x24_1).f1.f0))).setCell ⟨gb182, 2, none⟩ (.int .i64 ((rd_T45 l0_6 x24_1).f1.f1))).setCell ⟨gb182, 3, none⟩ (.int .i64 ((rd_T45 l0_6 x24_1).f2.f0))).setCell ⟨gb182, 4, none⟩ (.int .i64 ((rd_T45 l0_6 x24_1).f2.f1))).setCell ⟨gb182, 5, none⟩ (.slice A181_5 ((rd_T45 l0_6 x24_1).f2.f2).length c181_5)).setCell ⟨gb182, 6, none⟩ (.slice A181_6 ((rd_T45 l0_6 x24_1).f2.f3).length c181_6)).setCell ⟨gb182, 7, none⟩ (.slice A181_7 ((rd_T45 l0_6 x24_1).f3).length c181_7)).heap[gb162]? = some (.cells #[.int .i64 0, .int .i64 0, .int .i64 0, .int .i64 0, .slice none 0 0, .slice none 0 0, .slice none 0 0, .slice none 0 0] 30 (0, 0))) := ⟨by (with_reducible repeat (first | refine blk_drewN ?_ _ | refine blk_drew ?_ | refine blk_alloc ?_ _)); refine blk_far ?_ NB162_182.out _; (with_reducible repeat (first | refine blk_drewN ?_ _ | refine blk_drew ?_ | refine blk_alloc ?_ _)); refine blk_far ?_ NB162_182.out _; (with_reducible repeat (first | refine blk_drewN ?_ _ | refine blk_drew ?_ | refine blk_alloc ?_ _)); refine blk_far ?_ NB162_182.out _; (with_reducible repeat (first | refine blk_drewN ?_ _ | refine blk_drew ?_ | refine blk_alloc ?_ _)); refine blk_far ?_ NB162_182.out _; (with_reducible repeat (first | refine blk_drewN ?_ _ | refine blk_drew ?_ | refine blk_alloc ?_ _)); refine blk_far ?_ NB162_182.out _; (with_reducible repeat (first | refine blk_drewN ?_ _ | refine blk_drew ?_ | refine blk_alloc ?_ _)); refine blk_far ?_ NB162_182.out _; (with_reducible repeat (first | refine blk_drewN ?_ _ | refine blk_drew ?_ | refine blk_alloc ?_ _)); refine blk_far ?_ NB162_182.out _; (with_reducible repeat (first | refine blk_drewN ?_ _ | refine blk_drew ?_ | refine blk_alloc ?_ _)); refine blk_far ?_ NB162_182.out _; (with_reducible repeat (first | refine blk_drewN ?_ _ | refine blk_drew ?_ | refine blk_alloc ?_ _)); exact BK162.out⟩
                  have n6_ : Aside0 (((((((((w32.setCell ⟨gb182, 0, none⟩ (.int .i64 ((rd_T45 l0_6 x24_1).f0))).setCell ⟨gb182, 1, none⟩ (.int .i64 ((rd_T45 l0_6 x24_1).f1.f0))).setCell ⟨gb182, 2, none⟩ (.int .i64 ((rd_T45 l0_6 x24_1).f1.f1))).setCell ⟨gb182, 3, none⟩ (.int .i64 ((rd_T45 l0_6 x24_1).f2.f0))).setCell ⟨gb182, 4, none⟩ (.int .i64 ((rd_T45 l0_6 x24_1).f2.f1))).setCell ⟨gb182, 5, none⟩ (.slice A181_5 ((rd_T45 l0_6 x24_1).f2.f2).length c181_5)).setCell ⟨gb182, 6, none⟩ (.slice A181_6 ((rd_T45 l0_6 x24_1).f2.f3).length c181_6)).setCell ⟨gb182, 7, none⟩ (.slice A181_7 ((rd_T45 l0_6 x24_1).f3).length c181_7)).heap[gb182]? = some (.cells #[.int .i64 ((rd_T45 l0_6 x24_1).f0), .int .i64 ((rd_T45 l0_6 x24_1).f1.f0), .int .i64 ((rd_T45 l0_6 x24_1).f1.f1), .int .i64 ((rd_T45 l0_6 x24_1).f2.f0), .int .i64 ((rd_T45 l0_6 x24_1).f2.f1), .slice A181_5 ((rd_T45 l0_6 x24_1).f2.f2).length c181_5, .slice A181_6 ((rd_T45 l0_6 x24_1).f2.f3).length c181_6, .slice A181_7 ((rd_T45 l0_6 x24_1).f3).length c181_7] 45 (0, 0))) := ⟨by (with_reducible repeat (first | refine blk_drewN ?_ _ | refine blk_drew ?_ | refine blk_alloc ?_ _)); refine blk_put (cs := #[.int .i64 ((rd_T45 l0_6 x24_1).f0), .int .i64 ((rd_T45 l0_6 x24_1).f1.f0), .int .i64 ((rd_T45 l0_6 x24_1).f1.f1), .int .i64 ((rd_T45 l0_6 x24_1).f2.f0), .int .i64 ((rd_T45 l0_6 x24_1).f2.f1), .slice A181_5 ((rd_T45 l0_6 x24_1).f2.f2).length c181_5, .slice A181_6 ((rd_T45 l0_6 x24_1).f2.f3).length c181_6, .slice none 0 0]) ?_ 7 _ rfl; (with_reducible repeat (first | refine blk_drewN ?_ _ | refine blk_drew ?_ | refine blk_alloc ?_ _)); refine blk_put (cs := #[.int .i64 ((rd_T45 l0_6 x24_1).f0), .int .i64 ((rd_T45 l0_6 x24_1).f1.f0), .int .i64 ((rd_T45 l0_6 x24_1).f1.f1), .int .i64 ((rd_T45 l0_6 x24_1).f2.f0), .int .i64 ((rd_T45 l0_6 x24_1).f2.f1), .slice A181_5 ((rd_T45 l0_6 x24_1).f2.f2).length c181_5, .slice none 0 0, .slice none 0 0]) ?_ 6 _ rfl; (with_reducible repeat (first | refine blk_drewN ?_ _ | refine blk_drew ?_ | refine blk_alloc ?_ _)); refine blk_put (cs := #[.int .i64 ((rd_T45 l0_6 x24_1).f0), .int .i64 ((rd_T45 l0_6 x24_1).f1.f0), .int .i64 ((rd_T45 l0_6 x24_1).f1.f1), .int .i64 ((rd_T45 l0_6 x24_1).f2.f0), .int .i64 ((rd_T45 l0_6 x24_1).f2.f1), .slice none 0 0, .slice none 0 0, .slice none 0 0]) ?_ 5 _ rfl; (with_reducible repeat (first | refine blk_drewN ?_ _ | refine blk_drew ?_ | refine blk_alloc ?_ _)); refine blk_put (cs := #[.int .i64 ((rd_T45 l0_6 x24_1).f0), .int .i64 ((rd_T45 l0_6 x24_1).f1.f0), .int .i64 ((rd_T45 l0_6 x24_1).f1.f1), .int .i64 ((rd_T45 l0_6 x24_1).f2.f0), .int .i64 0, .slice none 0 0, .slice none 0 0, .slice none 0 0]) ?_ 4 _ rfl; (with_reducible repeat (first | refine blk_drewN ?_ _ | refine blk_drew ?_ | refine blk_alloc ?_ _)); refine blk_put (cs := #[.int .i64 ((rd_T45 l0_6 x24_1).f0), .int .i64 ((rd_T45 l0_6 x24_1).f1.f0), .int .i64 ((rd_T45 l0_6 x24_1).f1.f1), .int .i64 0, .int .i64 0, .slice none 0 0, .slice none 0 0, .slice none 0 0]) ?_ 3 _ rfl; (with_reducible repeat (first | refine blk_drewN ?_ _ | refine blk_drew ?_ | refine blk_alloc ?_ _)); refine blk_put (cs := #[.int .i64 ((rd_T45 l0_6 x24_1).f0), .int .i64 ((rd_T45 l0_6 x24_1).f1.f0), .int .i64 0, .int .i64 0, .int .i64 0, .slice none 0 0, .slice none 0 0, .slice none 0 0]) ?_ 2 _ rfl; (with_reducible repeat (first | refine blk_drewN ?_ _ | refine blk_drew ?_ | refine blk_alloc ?_ _)); refine blk_put (cs := #[.int .i64 ((rd_T45 l0_6 x24_1).f0), .int .i64 0, .int .i64 0, .int .i64 0, .int .i64 0, .slice none 0 0, .slice none 0 0, .slice none 0 0]) ?_ 1 _ rfl; (with_reducible repeat (first | refine blk_drewN ?_ _ | refine blk_drew ?_ | refine blk_alloc ?_ _)); refine blk_put (cs := #[.int .i64 0, .int .i64 0, .int .i64 0, .int .i64 0, .int .i64 0, .slice none 0 0, .slice none 0 0, .slice none 0 0]) ?_ 0 _ rfl; (with_reducible repeat (first | refine blk_drewN ?_ _ | refine blk_drew ?_ | refine blk_alloc ?_ _)); exact BK182.out⟩
                  have n7_ : Aside0 (Below w.heap.size w ((((((((w32.setCell ⟨gb182, 0, none⟩ (.int .i64 ((rd_T45 l0_6 x24_1).f0))).setCell ⟨gb182, 1, none⟩ (.int .i64 ((rd_T45 l0_6 x24_1).f1.f0))).setCell ⟨gb182, 2, none⟩ (.int .i64 ((rd_T45 l0_6 x24_1).f1.f1))).setCell ⟨gb182, 3, none⟩ (.int .i64 ((rd_T45 l0_6 x24_1).f2.f0))).setCell ⟨gb182, 4, none⟩ (.int .i64 ((rd_T45 l0_6 x24_1).f2.f1))).setCell ⟨gb182, 5, none⟩ (.slice A181_5 ((rd_T45 l0_6 x24_1).f2.f2).length c181_5)).setCell ⟨gb182, 6, none⟩ (.slice A181_6 ((rd_T45 l0_6 x24_1).f2.f3).length c181_6)).setCell ⟨gb182, 7, none⟩ (.slice A181_7 ((rd_T45 l0_6 x24_1).f3).length c181_7))) := ⟨by repeat (first | (with_reducible first | exact HB.out | apply below_alloc | apply pw_below_drewN | apply below_drew1 | refine below_set ?_ GE161.out | refine below_set ?_ GE162.out | refine below_set ?_ GE182.out) | exact HB.out)⟩
                  (try clear HO_3)
                  (try clear HO_162004)
                  (try clear HO_162005)
                  (try clear HO_162007)
                  (try clear BK161)
                  (try clear BK162)
                  (try clear BK182)
                  (try clear HB)
                  generalize ((((((((w32.setCell ⟨gb182, 0, none⟩ (.int .i64 ((rd_T45 l0_6 x24_1).f0))).setCell ⟨gb182, 1, none⟩ (.int .i64 ((rd_T45 l0_6 x24_1).f1.f0))).setCell ⟨gb182, 2, none⟩ (.int .i64 ((rd_T45 l0_6 x24_1).f1.f1))).setCell ⟨gb182, 3, none⟩ (.int .i64 ((rd_T45 l0_6 x24_1).f2.f0))).setCell ⟨gb182, 4, none⟩ (.int .i64 ((rd_T45 l0_6 x24_1).f2.f1))).setCell ⟨gb182, 5, none⟩ (.slice A181_5 ((rd_T45 l0_6 x24_1).f2.f2).length c181_5)).setCell ⟨gb182, 6, none⟩ (.slice A181_6 ((rd_T45 l0_6 x24_1).f2.f3).length c181_6)).setCell ⟨gb182, 7, none⟩ (.slice A181_7 ((rd_T45 l0_6 x24_1).f3).length c181_7)) = w36 at n0_ n1_ n2_ n3_ n4_ n5_ n6_ n7_ ⊢
                  have HO_3 := n0_
                  have HO_162004 := n1_
                  have HO_162005 := n2_
                  have HO_162007 := n3_
                  have BK161 := n4_
                  have BK162 := n5_
                  have BK182 := n6_
                  have HB := n7_
                  clear n0_ n1_ n2_ n3_ n4_ n5_ n6_ n7_
                  have n0_ := Aside0.mk (Kd.R_drew HO_3.out)
                  have n1_ := Aside0.mk (Kd.R_drew HO_162004.out)
                  have n2_ := Aside0.mk (Kd.S_drew HO_162005.out)
                  have n3_ := Aside0.mk (Kd.R_drew HO_162007.out)
                  have n4_ := Aside0.mk (blk_drew BK161.out)
                  have n5_ := Aside0.mk (blk_drew BK162.out)
                  have n6_ := Aside0.mk (blk_drew BK182.out)
                  have n7_ := Aside0.mk (below_drew1 HB.out)
                  clear HO_3
                  clear HO_162004
                  clear HO_162005
                  clear HO_162007
                  clear BK161
                  clear BK162
                  clear BK182
                  clear HB
                  have HO_3 := n0_
                  have HO_162004 := n1_
                  have HO_162005 := n2_
                  have HO_162007 := n3_
                  have BK161 := n4_
                  have BK162 := n5_
                  have BK182 := n6_
                  have HB := n7_
                  clear n0_ n1_ n2_ n3_ n4_ n5_ n6_ n7_
                  refine start_ (n := 15) (S := fun w' => w'.cell? ⟨gb182, 0, none⟩ = some (.int .i64 ((rd_T45 l0_6 x24_1).f0)) ∧ w'.cell? ⟨gb182, 1, none⟩ = some (.int .i64 ((rd_T45 l0_6 x24_1).f1.f0)) ∧ w'.cell? ⟨gb182, 2, none⟩ = some (.int .i64 ((rd_T45 l0_6 x24_1).f1.f1)) ∧ w'.cell? ⟨gb182, 3, none⟩ = some (.int .i64 ((rd_T45 l0_6 x24_1).f2.f0)) ∧ w'.cell? ⟨gb182, 4, none⟩ = some (.int .i64 ((rd_T45 l0_6 x24_1).f2.f1)) ∧ w'.cell? ⟨gb182, 5, none⟩ = some (.slice A181_5 ((rd_T45 l0_6 x24_1).f2.f2).length c181_5) ∧ w'.cell? ⟨gb182, 6, none⟩ = some (.slice A181_6 ((rd_T45 l0_6 x24_1).f2.f3).length c181_6) ∧ w'.cell? ⟨gb182, 7, none⟩ = some (.slice A181_7 ((rd_T45 l0_6 x24_1).f3).length c181_7)) (ds := []) #[false, false, false, false, false, false, false, false, false, false, false, false, false, false, false] (by kernel_rfl) rfl rfl ⟨(blk_cell BK182.out 0).trans rfl, (blk_cell BK182.out 1).trans rfl, (blk_cell BK182.out 2).trans rfl, (blk_cell BK182.out 3).trans rfl, (blk_cell BK182.out 4).trans rfl, (blk_cell BK182.out 5).trans rfl, (blk_cell BK182.out 6).trans rfl, (blk_cell BK182.out 7).trans rfl⟩ (fun hHeld => ?_); refine with_tabW catenaryref05_CopyReport.tab8 catenaryref05_CopyReport.bits8 (fun HT_ HW_ => ?_)
                  generalize w36.drew = w37 at HO_3 HO_162004 HO_162005 HO_162007 BK161 BK162 BK182 HB hHeld ⊢
                  refine pure_ (i := 0) (N := some 28) (v := ?_) (a' := ?_) #[true, false, false, false, false, false, false, false, false, false, false, false, false, false, false] rfl rfl (any_of HT_.out (by kernel_rfl)) (fun _ _ _ h => h) (Or.inl ⟨by rfl, ?_⟩) ?_ ?_
                  rotate_left
                  · intro w'
                    go_simp
                    with_reducible rfl
                  rotate_left
                  · simp only [Act.put, List.setIfInBounds_toArray, List.set_cons_zero, List.set_cons_succ, i64_w, i32_w]
                    rfl
                  refine pure_ (i := 1) (N := some 29) (v := ?_) (a' := ?_) #[true, true, false, false, false, false, false, false, false, false, false, false, false, false, false] rfl rfl (any_of HT_.out (by kernel_rfl)) (fun _ _ _ h => h) (Or.inl ⟨by rfl, ?_⟩) ?_ ?_
                  rotate_left
                  · intro w'
                    go_simp
                    with_reducible rfl
                  rotate_left
                  · simp only [Act.put, List.setIfInBounds_toArray, List.set_cons_zero, List.set_cons_succ, i64_w, i32_w]
                    rfl
                  refine pure_ (i := 3) (N := some 31) (v := ?_) (a' := ?_) #[true, true, false, true, false, false, false, false, false, false, false, false, false, false, false] rfl rfl (any_of HT_.out (by kernel_rfl)) (fun _ _ _ h => h) (Or.inl ⟨by rfl, ?_⟩) ?_ ?_
                  rotate_left
                  · intro w'
                    go_simp
                    with_reducible rfl
                  rotate_left
                  · simp only [Act.put, List.setIfInBounds_toArray, List.set_cons_zero, List.set_cons_succ, i64_w, i32_w]
                    rfl
                  refine pure_ (i := 5) (N := some 33) (v := ?_) (a' := ?_) #[true, true, false, true, false, true, false, false, false, false, false, false, false, false, false] rfl rfl (any_of HT_.out (by kernel_rfl)) (fun _ _ _ h => h) (Or.inl ⟨by rfl, ?_⟩) ?_ ?_
                  rotate_left
                  · intro w'
                    go_simp
                    with_reducible rfl
                  rotate_left
                  · simp only [Act.put, List.setIfInBounds_toArray, List.set_cons_zero, List.set_cons_succ, i64_w, i32_w]
                    rfl
                  refine pure_ (i := 8) (N := some 36) (v := ?_) (a' := ?_) #[true, true, false, true, false, true, false, false, true, false, false, false, false, false, false] rfl rfl (any_of HT_.out (by kernel_rfl)) (fun _ _ _ h => h) (Or.inl ⟨by rfl, ?_⟩) ?_ ?_
                  rotate_left
                  · intro w'
                    go_simp
                    with_reducible rfl
                  rotate_left
                  · simp only [Act.put, List.setIfInBounds_toArray, List.set_cons_zero, List.set_cons_succ, i64_w, i32_w]
                    rfl
                  refine take_ (i := 2) (N := some 30) (v := ?_) (a' := ?_) #[true, true, true, true, false, true, false, false, true, false, false, false, false, false, false] rfl rfl (take_ofW HT_.out HW_.out (by kernel_rfl)) (fun _ _ _ h => h) (Or.inl ⟨by rfl, ?_⟩) hHeld ?_ ?_
                  rotate_left
                  · rintro w' ⟨s0, s1, s2, s3, s4, s5, s6, s7⟩
                    go_simp
                    with_reducible rfl
                  rotate_left
                  · simp only [Act.put, List.setIfInBounds_toArray, List.set_cons_zero, List.set_cons_succ, i64_w, i32_w]
                    rfl
                  refine take_ (i := 4) (N := some 32) (v := ?_) (a' := ?_) #[true, true, true, true, true, true, false, false, true, false, false, false, false, false, false] rfl rfl (take_ofW HT_.out HW_.out (by kernel_rfl)) (fun _ _ _ h => h) (Or.inl ⟨by rfl, ?_⟩) hHeld ?_ ?_
                  rotate_left
                  · rintro w' ⟨s0, s1, s2, s3, s4, s5, s6, s7⟩
                    go_simp
                    with_reducible rfl
                  rotate_left
                  · simp only [Act.put, List.setIfInBounds_toArray, List.set_cons_zero, List.set_cons_succ, i64_w, i32_w]
                    rfl
                  refine take_ (i := 6) (N := some 34) (v := ?_) (a' := ?_) #[true, true, true, true, true, true, true, false, true, false, false, false, false, false, false] rfl rfl (take_ofW HT_.out HW_.out (by kernel_rfl)) (fun _ _ _ h => h) (Or.inl ⟨by rfl, ?_⟩) hHeld ?_ ?_
                  rotate_left
                  · rintro w' ⟨s0, s1, s2, s3, s4, s5, s6, s7⟩
                    go_simp
                    with_reducible rfl
                  rotate_left
                  · simp only [Act.put, List.setIfInBounds_toArray, List.set_cons_zero, List.set_cons_succ, i64_w, i32_w]
                    rfl
                  refine take_ (i := 9) (N := some 37) (v := ?_) (a' := ?_) #[true, true, true, true, true, true, true, false, true, true, false, false, false, false, false] rfl rfl (take_ofW HT_.out HW_.out (by kernel_rfl)) (fun _ _ _ h => h) (Or.inl ⟨by rfl, ?_⟩) hHeld ?_ ?_
                  rotate_left
                  · rintro w' ⟨s0, s1, s2, s3, s4, s5, s6, s7⟩
                    go_simp
                    with_reducible rfl
                  rotate_left
                  · simp only [Act.put, List.setIfInBounds_toArray, List.set_cons_zero, List.set_cons_succ, i64_w, i32_w]
                    rfl
                  refine one_ (i := 7) (N := some 35) #[true, true, true, true, true, true, true, true, true, true, false, false, false, false, false] rfl rfl (one_of HT_.out (by kernel_rfl)) (by decide) (fun K hK => ?_)
                  refine goes_ Try.func19 (by kernel_rfl) rfl #[.agg #[.int .i64 ((rd_T45 l0_6 x24_1).f2.f0), .int .i64 ((rd_T45 l0_6 x24_1).f2.f1), .slice A181_5 ((rd_T45 l0_6 x24_1).f2.f2).length c181_5, .slice A181_6 ((rd_T45 l0_6 x24_1).f2.f3).length c181_6]] (by rfl) rfl rfl (by (try simp only [List.map_toArray, List.map_cons, List.map_nil]); first | done | rfl | (simp only [List.length_drop, List.length_take]; rfl)) ?_
                  with_reducible refine (catenaryref05_CopyReq.calls ((rd_T45 l0_6 x24_1).f2.f0) ((rd_T45 l0_6 x24_1).f2.f1) _ _ ((rd_T45 l0_6 x24_1).f2.f2) _ _ ((rd_T45 l0_6 x24_1).f2.f3) t183 t184 t185 t188 _ ?side1 ?side2 ?side3 ?side4 A29.out).mono ?_
                  (case side1 => repeat (first | exact (Kd.C_below HR181_5.out HB.out) | (with_reducible refine Kd.C_alloc ?_ _) | (with_reducible refine Kd.C_drewN ?_ _) | (with_reducible refine Kd.C_drew ?_)))
                  (case side2 => exact HC181_5.out)
                  (case side3 => repeat (first | exact (Kd.C_below HR181_6.out HB.out) | (with_reducible refine Kd.C_alloc ?_ _) | (with_reducible refine Kd.C_drewN ?_ _) | (with_reducible refine Kd.C_drew ?_)))
                  (case side4 => exact HC181_6.out)
                  rintro e w38 ⟨v186, v189, rfl, ho0, ho1, hb⟩
                  refine ⟨_, rfl, ?_⟩
                  have n0_ := Aside0.mk (Kd.R_mono (Kd.R_told (Kd.R_told (Kd.R_old (by (with_reducible repeat (first | apply Kd.R_alloc | apply Kd.R_drewN | apply Kd.R_drew)); exact HO_3.out) hb) (Kd.R_base ho0)) (Kd.R_base ho1)) (fun _ h_ => h_.1))
                  have n1_ := Aside0.mk (Kd.R_mono (Kd.R_told (Kd.R_told (Kd.R_old (by (with_reducible repeat (first | apply Kd.R_alloc | apply Kd.R_drewN | apply Kd.R_drew)); exact HO_162004.out) hb) (Kd.R_base ho0)) (Kd.R_base ho1)) (fun _ h_ => h_.1))
                  have n2_ := Aside0.mk (Kd.S_mono (Kd.S_told (Kd.S_told (Kd.S_old (by (with_reducible repeat (first | apply Kd.S_alloc | apply Kd.S_drewN | apply Kd.S_drew)); exact HO_162005.out) hb) (Kd.R_base ho0)) (Kd.R_base ho1)) (fun _ h_ => h_.1))
                  have n3_ := Aside0.mk (Kd.R_mono (Kd.R_told (Kd.R_told (Kd.R_old (by (with_reducible repeat (first | apply Kd.R_alloc | apply Kd.R_drewN | apply Kd.R_drew)); exact HO_162007.out) hb) (Kd.R_base ho0)) (Kd.R_base ho1)) (fun _ h_ => h_.1))
                  have n4_ := Aside0.mk (Kd.R_lower (Kd.R_new' (Kd.R_new' ho0 (Kd.R_lt (by (with_reducible repeat (first | apply Kd.R_alloc | apply Kd.R_drewN | apply Kd.R_drew)); exact HO_162004.out))) (Kd.R_lt (by (with_reducible repeat (first | apply Kd.R_alloc | apply Kd.R_drewN | apply Kd.R_drew)); exact HO_162007.out))) (below_size (by repeat (first | (with_reducible first | exact HB.out | apply below_alloc | apply pw_below_drewN | apply below_drew1 | refine below_set ?_ GE161.out | refine below_set ?_ GE162.out | refine below_set ?_ GE182.out) | exact HB.out))))
                  have n5_ := Aside0.mk (Kd.R_lower (Kd.R_new' (Kd.R_new' ho1 (Kd.R_lt (by (with_reducible repeat (first | apply Kd.R_alloc | apply Kd.R_drewN | apply Kd.R_drew)); exact HO_162004.out))) (Kd.R_lt (by (with_reducible repeat (first | apply Kd.R_alloc | apply Kd.R_drewN | apply Kd.R_drew)); exact HO_162007.out))) (below_size (by repeat (first | (with_reducible first | exact HB.out | apply below_alloc | apply pw_below_drewN | apply below_drew1 | refine below_set ?_ GE161.out | refine below_set ?_ GE162.out | refine below_set ?_ GE182.out) | exact HB.out))))
                  have n6_ := Aside0.mk (blk_below (g := gb161) (o := .cells #[.int .i64 a0_0, .int .i64 a0_1, .int .i64 a0_2, .int .i64 a0_3, .slice Ao12 y166.length co12, .slice Ao21 t175.length co21, .slice (some ad181) l0_6.length c0_6, .slice Ao18 y172.length co18] 30 (0, 0)) (by (with_reducible repeat (first | refine blk_drewN ?_ _ | refine blk_drew ?_ | refine blk_alloc ?_ _)); exact BK161.out) hb)
                  have n7_ := Aside0.mk (blk_below (g := gb162) (o := .cells #[.int .i64 0, .int .i64 0, .int .i64 0, .int .i64 0, .slice none 0 0, .slice none 0 0, .slice none 0 0, .slice none 0 0] 30 (0, 0)) (by (with_reducible repeat (first | refine blk_drewN ?_ _ | refine blk_drew ?_ | refine blk_alloc ?_ _)); exact BK162.out) hb)
                  have n8_ := Aside0.mk (blk_below (g := gb182) (o := .cells #[.int .i64 ((rd_T45 l0_6 x24_1).f0), .int .i64 ((rd_T45 l0_6 x24_1).f1.f0), .int .i64 ((rd_T45 l0_6 x24_1).f1.f1), .int .i64 ((rd_T45 l0_6 x24_1).f2.f0), .int .i64 ((rd_T45 l0_6 x24_1).f2.f1), .slice A181_5 ((rd_T45 l0_6 x24_1).f2.f2).length c181_5, .slice A181_6 ((rd_T45 l0_6 x24_1).f2.f3).length c181_6, .slice A181_7 ((rd_T45 l0_6 x24_1).f3).length c181_7] 45 (0, 0)) (by (with_reducible repeat (first | refine blk_drewN ?_ _ | refine blk_drew ?_ | refine blk_alloc ?_ _)); exact BK182.out) hb)
                  have n9_ := Aside0.mk (below_step (by repeat (first | (with_reducible first | exact HB.out | apply below_alloc | apply pw_below_drewN | apply below_drew1 | refine below_set ?_ GE161.out | refine below_set ?_ GE162.out | refine below_set ?_ GE182.out) | exact HB.out)) hb)
                  clear HO_3
                  clear HO_162004
                  clear HO_162005
                  clear HO_162007
                  clear BK161
                  clear BK162
                  clear BK182
                  clear HB
                  have HO_3 := n0_
                  have HO_162004 := n1_
                  have HO_162005 := n2_
                  have HO_162007 := n3_
                  have HO187 := n4_
                  have HO190 := n5_
                  have BK161 := n6_
                  have BK162 := n7_
                  have BK182 := n8_
                  have HB := n9_
                  clear n0_ n1_ n2_ n3_ n4_ n5_ n6_ n7_ n8_ n9_
                  (try clear hb)
                  (try clear hb2)
                  (try clear hk)
                  (try clear hi)
                  (try clear ho0)
                  (try clear ho1)
                  refine hK.out _ _ ⟨(blk_cell BK182.out 0).trans rfl, (blk_cell BK182.out 1).trans rfl, (blk_cell BK182.out 2).trans rfl, (blk_cell BK182.out 3).trans rfl, (blk_cell BK182.out 4).trans rfl, (blk_cell BK182.out 5).trans rfl, (blk_cell BK182.out 6).trans rfl, (blk_cell BK182.out 7).trans rfl⟩ (fun hHeld => ?_)
                  clear hK K
                  refine norm_ (a' := ?_) ?_ ?_
                  rotate_left
                  · show Act.put _ (some 35) _ = _
                    simp only [Act.put, List.setIfInBounds_toArray, List.set_cons_zero, List.set_cons_succ, i64_w, i32_w]
                    rfl
                  refine one_ (i := 10) (N := some 38) #[true, true, true, true, true, true, true, true, true, true, true, false, false, false, false] rfl rfl (one_of HT_.out (by kernel_rfl)) (by decide) (fun K hK => ?_)
                  refine goes_ Try.func18 (by kernel_rfl) rfl #[.slice A181_7 ((rd_T45 l0_6 x24_1).f3).length c181_7] (by rfl) rfl rfl (by (try simp only [List.map_toArray, List.map_cons, List.map_nil]); first | done | rfl | (simp only [List.length_drop, List.length_take]; rfl)) ?_
                  with_reducible refine (catenaryref05_CopyVotes.calls k1 _ _ ((rd_T45 l0_6 x24_1).f3) t191 _ ?side1 ?side2 A30.out).mono ?_
                  (case side1 => repeat (first | exact (Kd.C_below HR181_7.out HB.out) | (with_reducible refine Kd.C_alloc ?_ _) | (with_reducible refine Kd.C_drewN ?_ _) | (with_reducible refine Kd.C_drew ?_)))
                  (case side2 => exact HC181_7.out)
                  rintro e w39 ⟨v192, rfl, ho0, hb⟩
                  refine ⟨_, rfl, ?_⟩
                  have n0_ := Aside0.mk (Kd.R_elder' (by (with_reducible repeat (first | apply Kd.R_alloc | apply Kd.R_drewN | apply Kd.R_drew)); exact HO_3.out) (Kd.S_base ho0) hb)
                  have n1_ := Aside0.mk (Kd.R_below (by (with_reducible repeat (first | apply Kd.R_alloc | apply Kd.R_drewN | apply Kd.R_drew)); exact HO_162004.out) hb)
                  have n2_ := Aside0.mk (Kd.S_elder' (by (with_reducible repeat (first | apply Kd.S_alloc | apply Kd.S_drewN | apply Kd.S_drew)); exact HO_162005.out) (Kd.S_base ho0) hb)
                  have n3_ := Aside0.mk (Kd.R_below (by (with_reducible repeat (first | apply Kd.R_alloc | apply Kd.R_drewN | apply Kd.R_drew)); exact HO_162007.out) hb)
                  have n4_ := Aside0.mk (Kd.R_below (by (with_reducible repeat (first | apply Kd.R_alloc | apply Kd.R_drewN | apply Kd.R_drew)); exact HO187.out) hb)
                  have n5_ := Aside0.mk (Kd.R_below (by (with_reducible repeat (first | apply Kd.R_alloc | apply Kd.R_drewN | apply Kd.R_drew)); exact HO190.out) hb)
                  have n6_ := Aside0.mk (Kd.S_lower (Kd.S_new' (Kd.S_new' (Kd.S_new' (Kd.S_new' (Kd.S_new' ho0 (Kd.R_lt (by (with_reducible repeat (first | apply Kd.R_alloc | apply Kd.R_drewN | apply Kd.R_drew)); exact HO_162004.out))) (Kd.S_lt (by (with_reducible repeat (first | apply Kd.S_alloc | apply Kd.S_drewN | apply Kd.S_drew)); exact HO_162005.out))) (Kd.R_lt (by (with_reducible repeat (first | apply Kd.R_alloc | apply Kd.R_drewN | apply Kd.R_drew)); exact HO_162007.out))) (Kd.R_lt (by (with_reducible repeat (first | apply Kd.R_alloc | apply Kd.R_drewN | apply Kd.R_drew)); exact HO187.out))) (Kd.R_lt (by (with_reducible repeat (first | apply Kd.R_alloc | apply Kd.R_drewN | apply Kd.R_drew)); exact HO190.out))) (below_size (by repeat (first | (with_reducible first | exact HB.out | apply below_alloc | apply pw_below_drewN | apply below_drew1 | refine below_set ?_ GE161.out | refine below_set ?_ GE162.out | refine below_set ?_ GE182.out) | exact HB.out))))
                  have n7_ := Aside0.mk (blk_below (g := gb161) (o := .cells #[.int .i64 a0_0, .int .i64 a0_1, .int .i64 a0_2, .int .i64 a0_3, .slice Ao12 y166.length co12, .slice Ao21 t175.length co21, .slice (some ad181) l0_6.length c0_6, .slice Ao18 y172.length co18] 30 (0, 0)) (by (with_reducible repeat (first | refine blk_drewN ?_ _ | refine blk_drew ?_ | refine blk_alloc ?_ _)); exact BK161.out) hb)
                  have n8_ := Aside0.mk (blk_below (g := gb162) (o := .cells #[.int .i64 0, .int .i64 0, .int .i64 0, .int .i64 0, .slice none 0 0, .slice none 0 0, .slice none 0 0, .slice none 0 0] 30 (0, 0)) (by (with_reducible repeat (first | refine blk_drewN ?_ _ | refine blk_drew ?_ | refine blk_alloc ?_ _)); exact BK162.out) hb)
                  have n9_ := Aside0.mk (blk_below (g := gb182) (o := .cells #[.int .i64 ((rd_T45 l0_6 x24_1).f0), .int .i64 ((rd_T45 l0_6 x24_1).f1.f0), .int .i64 ((rd_T45 l0_6 x24_1).f1.f1), .int .i64 ((rd_T45 l0_6 x24_1).f2.f0), .int .i64 ((rd_T45 l0_6 x24_1).f2.f1), .slice A181_5 ((rd_T45 l0_6 x24_1).f2.f2).length c181_5, .slice A181_6 ((rd_T45 l0_6 x24_1).f2.f3).length c181_6, .slice A181_7 ((rd_T45 l0_6 x24_1).f3).length c181_7] 45 (0, 0)) (by (with_reducible repeat (first | refine blk_drewN ?_ _ | refine blk_drew ?_ | refine blk_alloc ?_ _)); exact BK182.out) hb)
                  have n10_ := Aside0.mk (below_step (by repeat (first | (with_reducible first | exact HB.out | apply below_alloc | apply pw_below_drewN | apply below_drew1 | refine below_set ?_ GE161.out | refine below_set ?_ GE162.out | refine below_set ?_ GE182.out) | exact HB.out)) hb)
                  clear HO_3
                  clear HO_162004
                  clear HO_162005
                  clear HO_162007
                  clear HO187
                  clear HO190
                  clear BK161
                  clear BK162
                  clear BK182
                  clear HB
                  have HO_3 := n0_
                  have HO_162004 := n1_
                  have HO_162005 := n2_
                  have HO_162007 := n3_
                  have HO187 := n4_
                  have HO190 := n5_
                  have HO193 := n6_
                  have BK161 := n7_
                  have BK162 := n8_
                  have BK182 := n9_
                  have HB := n10_
                  clear n0_ n1_ n2_ n3_ n4_ n5_ n6_ n7_ n8_ n9_ n10_
                  (try clear hb)
                  (try clear hb2)
                  (try clear hk)
                  (try clear hi)
                  (try clear ho0)
                  obtain ⟨Ao40, co40, eo40⟩ := Kd.S_slice HO193.out
                  (first | subst eo40 | (injection eo40 with f1_ f2_ f3_; have f4_ := f1_.symm; have f5_ := f3_.symm; clear f1_ f2_ f3_; subst f4_; subst f5_))
                  obtain ⟨Ao41, co41, eo41⟩ := Kd.R_slice HO190.out
                  (first | subst eo41 | (injection eo41 with f1_ f2_ f3_; have f4_ := f1_.symm; have f5_ := f3_.symm; clear f1_ f2_ f3_; subst f4_; subst f5_))
                  obtain ⟨Ao42, co42, eo42⟩ := Kd.R_slice HO187.out
                  (first | subst eo42 | (injection eo42 with f1_ f2_ f3_; have f4_ := f1_.symm; have f5_ := f3_.symm; clear f1_ f2_ f3_; subst f4_; subst f5_))
                  refine hK.out _ _ ⟨(blk_cell BK182.out 0).trans rfl, (blk_cell BK182.out 1).trans rfl, (blk_cell BK182.out 2).trans rfl, (blk_cell BK182.out 3).trans rfl, (blk_cell BK182.out 4).trans rfl, (blk_cell BK182.out 5).trans rfl, (blk_cell BK182.out 6).trans rfl, (blk_cell BK182.out 7).trans rfl⟩ (fun hHeld => ?_)
                  clear hK K
                  refine norm_ (a' := ?_) ?_ ?_
                  rotate_left
                  · show Act.put _ (some 38) _ = _
                    simp only [Act.put, List.setIfInBounds_toArray, List.set_cons_zero, List.set_cons_succ, i64_w, i32_w]
                    rfl
                  refine pure_ (i := 11) (N := some 39) (v := ?_) (a' := ?_) #[true, true, true, true, true, true, true, true, true, true, true, true, false, false, false] rfl rfl (any_of HT_.out (by kernel_rfl)) (fun _ _ _ h => h) (Or.inl ⟨by rfl, ?_⟩) ?_ ?_
                  rotate_left
                  · intro w'
                    go_simp
                    with_reducible rfl
                  rotate_left
                  · simp only [Act.put, List.setIfInBounds_toArray, List.set_cons_zero, List.set_cons_succ, i64_w, i32_w]
                    rfl
                  refine one_ (i := 12) (N := some 40) #[true, true, true, true, true, true, true, true, true, true, true, true, true, false, false] rfl rfl (one_of HT_.out (by kernel_rfl)) (by decide) (fun K hK => ?_)
                  refine value_ (w1 := ?_) (v := ?_) (by rfl) rfl ?_ ?_
                  rotate_left 2
                  · go_simp
                    constructor
                    · rfl
                    · rfl
                  refine hK.out _ _ ⟨(blk_cell (blk_alloc BK182.out _) 0).trans rfl, (blk_cell (blk_alloc BK182.out _) 1).trans rfl, (blk_cell (blk_alloc BK182.out _) 2).trans rfl, (blk_cell (blk_alloc BK182.out _) 3).trans rfl, (blk_cell (blk_alloc BK182.out _) 4).trans rfl, (blk_cell (blk_alloc BK182.out _) 5).trans rfl, (blk_cell (blk_alloc BK182.out _) 6).trans rfl, (blk_cell (blk_alloc BK182.out _) 7).trans rfl⟩ (fun hHeld => ?_)
                  clear hK K
                  refine norm_ (a' := ?_) ?_ ?_
                  rotate_left
                  · show Act.put _ (some 40) _ = _
                    simp only [Act.put, List.setIfInBounds_toArray, List.set_cons_zero, List.set_cons_succ, i64_w, i32_w]
                    rfl
                  refine one_ (i := 13) (N := some 41) #[true, true, true, true, true, true, true, true, true, true, true, true, true, true, false] rfl rfl (one_of HT_.out (by kernel_rfl)) (by decide) (fun K hK => ?_)
                  refine Kd.R_append_step k45 (w0 := w) w.heap.size (by rfl) (.tmp 28) (.tmp 40) 28 45 (.agg #[(.int .i64 0), (.int .i64 0), (.int .i64 0), (.int .i64 0), (.int .i64 0), (.slice none 0 0), (.slice none 0 0), (.slice none 0 0)]) 112 rfl Try.underlying28 info45 rfl (by decide) (by omega) u3 x3_1 (⟨(rd_T45 l0_6 x24_1).f0, (⟨(rd_T45 l0_6 x24_1).f1.f0, (rd_T45 l0_6 x24_1).f1.f1⟩ : S25), (⟨t183, t184, t185, t188⟩ : S36), t191⟩ : S45) [.int .i64 ((rd_T45 l0_6 x24_1).f0), .int .i64 ((rd_T45 l0_6 x24_1).f1.f0), .int .i64 ((rd_T45 l0_6 x24_1).f1.f1), .int .i64 t183, .int .i64 t184, .slice Ao42 t185.length co42, .slice Ao41 t188.length co41, .slice Ao40 t191.length co40] (fun k_ => some k_ ≠ (.slice Ao12 y166.length co12 : Value).ownBlock ∧ some k_ ≠ (.slice Ao21 t175.length co21 : Value).ownBlock ∧ some k_ ≠ (.slice Ao18 y172.length co18 : Value).ownBlock ∧ k_ ≠ gb182) (fun k_ => ((fun k_ => some k_ ≠ (.slice Ao12 y166.length co12 : Value).ownBlock ∧ some k_ ≠ (.slice Ao21 t175.length co21 : Value).ownBlock ∧ some k_ ≠ (.slice Ao18 y172.length co18 : Value).ownBlock ∧ k_ ≠ gb182)) k_ ∧ some k_ ≠ (u3 : Value).ownBlock) rfl rfl ?aP (fun _ hk => hk) ?aF ?aO ?aB ?aS ?aL ?_
                  (case aP => exact k45_mkM _ _ _ (⟨(rd_T45 l0_6 x24_1).f0, (⟨(rd_T45 l0_6 x24_1).f1.f0, (rd_T45 l0_6 x24_1).f1.f1⟩ : S25), (⟨t183, t184, t185, t188⟩ : S36), t191⟩ : S45) (Kd.R_mono (Kd.R_types (Kd.R_apart' (Kd.R_apart' (HO187.out) (Kd.S_typed HO_162005.out) (by decide)) (Kd.R_typed HO_3.out) (by decide)) BK182.out (by decide)) (fun k_ hk => ⟨⟨hk.1.1.1.1.2, ⟨hk.1.1.2, ⟨hk.1.1.1.2, hk.2⟩⟩⟩, hk.1.2⟩)) (Kd.R_mono (Kd.R_types (Kd.R_apart' (Kd.R_apart' (HO190.out) (Kd.S_typed HO_162005.out) (by decide)) (Kd.R_typed HO_3.out) (by decide)) BK182.out (by decide)) (fun k_ hk => ⟨⟨hk.1.1.1.1.2, ⟨hk.1.1.2, ⟨hk.1.1.1.2, hk.2⟩⟩⟩, hk.1.2⟩)) (Kd.R_mono (Kd.R_types (Kd.R_apart' ((Kd.S_R HO193.out)) (Kd.R_typed HO_3.out) (by decide)) BK182.out (by decide)) (fun k_ hk => ⟨⟨hk.1.1.1.1.1.1.2, ⟨hk.1.1.1.1.1.2, ⟨hk.1.1.1.1.2, hk.2⟩⟩⟩, hk.1.2⟩)))
                  (case aB => exact (by repeat (first | (with_reducible first | exact HB.out | apply below_alloc | apply pw_below_drewN | apply below_drew1 | refine below_set ?_ GE161.out | refine below_set ?_ GE162.out | refine below_set ?_ GE182.out) | exact HB.out)))
                  (case aF => exact (fun k_ hk => ⟨Kd.fresh' (Kd.R_lt (by (with_reducible repeat (first | apply Kd.R_alloc | apply Kd.R_drewN | apply Kd.R_drew)); exact HO_162004.out)) k_ hk, Kd.fresh' (Kd.S_lt (by (with_reducible repeat (first | apply Kd.S_alloc | apply Kd.S_drewN | apply Kd.S_drew)); exact HO_162005.out)) k_ hk, Kd.fresh' (Kd.R_lt (by (with_reducible repeat (first | apply Kd.R_alloc | apply Kd.R_drewN | apply Kd.R_drew)); exact HO_162007.out)) k_ hk, Kd.freshB (g := gb182) (o := .cells #[.int .i64 ((rd_T45 l0_6 x24_1).f0), .int .i64 ((rd_T45 l0_6 x24_1).f1.f0), .int .i64 ((rd_T45 l0_6 x24_1).f1.f1), .int .i64 ((rd_T45 l0_6 x24_1).f2.f0), .int .i64 ((rd_T45 l0_6 x24_1).f2.f1), .slice A181_5 ((rd_T45 l0_6 x24_1).f2.f2).length c181_5, .slice A181_6 ((rd_T45 l0_6 x24_1).f2.f3).length c181_6, .slice A181_7 ((rd_T45 l0_6 x24_1).f3).length c181_7] 45 (0, 0)) (by (with_reducible repeat (first | refine blk_drewN ?_ _ | refine blk_drew ?_ | refine blk_alloc ?_ _)); exact BK182.out) k_ hk⟩))
                  (case aO => exact (by (with_reducible repeat (first | apply Kd.R_alloc | apply Kd.R_drewN | apply Kd.R_drew)); exact Kd.R_mono HO_3.out (fun _ hk => ⟨hk.1.1.1.1, ⟨hk.1.1.1.2.1, ⟨hk.1.1.1.2.2.1, hk.1.1.1.2.2.2⟩⟩⟩)))
                  (case aS => exact (below_size (by repeat (first | (with_reducible first | exact HB.out | apply below_alloc | apply pw_below_drewN | apply below_drew1 | refine below_set ?_ GE161.out | refine below_set ?_ GE162.out | refine below_set ?_ GE182.out) | exact HB.out))))
                  (case aL => have := LMc31.out; omega)
                  intro v195 w43 ho hb hg hat
                  rw [← Ny194.out] at ho
                  have n0_ := Aside0.mk (Kd.R_over' (by (with_reducible repeat (first | apply Kd.R_alloc | apply Kd.R_drewN | apply Kd.R_drew)); exact HO_162004.out) (Kd.R_typed (by (with_reducible repeat (first | apply Kd.R_alloc | apply Kd.R_drewN | apply Kd.R_drew)); exact HO_3.out)) (by decide) hg)
                  have n1_ := Aside0.mk (Kd.S_over' (by (with_reducible repeat (first | apply Kd.S_alloc | apply Kd.S_drewN | apply Kd.S_drew)); exact HO_162005.out) (Kd.R_typed (by (with_reducible repeat (first | apply Kd.R_alloc | apply Kd.R_drewN | apply Kd.R_drew)); exact HO_3.out)) (by decide) hg)
                  have n2_ := Aside0.mk (Kd.R_over' (by (with_reducible repeat (first | apply Kd.R_alloc | apply Kd.R_drewN | apply Kd.R_drew)); exact HO_162007.out) (Kd.R_typed (by (with_reducible repeat (first | apply Kd.R_alloc | apply Kd.R_drewN | apply Kd.R_drew)); exact HO_3.out)) (by decide) hg)
                  have n3_ := Aside0.mk (blk_grown (g := gb161) (o := .cells #[.int .i64 a0_0, .int .i64 a0_1, .int .i64 a0_2, .int .i64 a0_3, .slice Ao12 y166.length co12, .slice Ao21 t175.length co21, .slice (some ad181) l0_6.length c0_6, .slice Ao18 y172.length co18] 30 (0, 0)) (by (with_reducible repeat (first | refine blk_drewN ?_ _ | refine blk_drew ?_ | refine blk_alloc ?_ _)); exact BK161.out) hg (Kd.R_ne HO_3.out BK161.out (by decide)))
                  have n4_ := Aside0.mk (blk_grown (g := gb162) (o := .cells #[.int .i64 0, .int .i64 0, .int .i64 0, .int .i64 0, .slice none 0 0, .slice none 0 0, .slice none 0 0, .slice none 0 0] 30 (0, 0)) (by (with_reducible repeat (first | refine blk_drewN ?_ _ | refine blk_drew ?_ | refine blk_alloc ?_ _)); exact BK162.out) hg (Kd.R_ne HO_3.out BK162.out (by decide)))
                  have n5_ := Aside0.mk (blk_grown (g := gb182) (o := .cells #[.int .i64 ((rd_T45 l0_6 x24_1).f0), .int .i64 ((rd_T45 l0_6 x24_1).f1.f0), .int .i64 ((rd_T45 l0_6 x24_1).f1.f1), .int .i64 ((rd_T45 l0_6 x24_1).f2.f0), .int .i64 ((rd_T45 l0_6 x24_1).f2.f1), .slice A181_5 ((rd_T45 l0_6 x24_1).f2.f2).length c181_5, .slice A181_6 ((rd_T45 l0_6 x24_1).f2.f3).length c181_6, .slice A181_7 ((rd_T45 l0_6 x24_1).f3).length c181_7] 45 (0, 0)) (by (with_reducible repeat (first | refine blk_drewN ?_ _ | refine blk_drew ?_ | refine blk_alloc ?_ _)); exact BK182.out) hg (Kd.R_away HO_3.out (fun _ hk => hk.1.1.1.2.2.2)))
                  have n6_ := Aside0.mk (hb)
                  have n7_ := Aside0.mk (ho)
                  clear HO_162004
                  clear HO_162005
                  clear HO_162007
                  clear BK161
                  clear BK162
                  clear BK182
                  clear HB
                  clear HO_3
                  clear HO187
                  clear HO190
                  clear HO193
                  have HO_162004 := n0_
                  have HO_162005 := n1_
                  have HO_162007 := n2_
                  have BK161 := n3_
                  have BK162 := n4_
                  have BK182 := n5_
                  have HB := n6_
                  have HO196 := n7_
                  clear n0_ n1_ n2_ n3_ n4_ n5_ n6_ n7_
                  clear ho hb hg hat
                  refine hK.out _ _ ⟨(blk_cell BK182.out 0).trans rfl, (blk_cell BK182.out 1).trans rfl, (blk_cell BK182.out 2).trans rfl, (blk_cell BK182.out 3).trans rfl, (blk_cell BK182.out 4).trans rfl, (blk_cell BK182.out 5).trans rfl, (blk_cell BK182.out 6).trans rfl, (blk_cell BK182.out 7).trans rfl⟩ (fun hHeld => ?_)
                  clear hK K
                  refine norm_ (a' := ?_) ?_ ?_
                  rotate_left
                  · show Act.put _ (some 41) _ = _
                    simp only [Act.put, List.setIfInBounds_toArray, List.set_cons_zero, List.set_cons_succ, i64_w, i32_w]
                    rfl
                  refine pure_ (i := 14) (N := some 3) (v := ?_) (a' := ?_) #[true, true, true, true, true, true, true, true, true, true, true, true, true, true, true] rfl rfl (any_of HT_.out (by kernel_rfl)) (fun _ _ _ h => h) (Or.inl ⟨by rfl, ?_⟩) ?_ ?_
                  rotate_left
                  · intro w'
                    go_simp
                    with_reducible rfl
                  rotate_left
                  · simp only [Act.put, List.setIfInBounds_toArray, List.set_cons_zero, List.set_cons_succ, i64_w, i32_w]
                    rfl
                  refine done_ (done_of HT_.out (by kernel_rfl)) ?_
                  try go_wp2
                  go_roundg k1
                  case measure => have := HK1.out; omega
                  case rel => exact ⟨(y194), (wrap64 (x24_1 + 1)), (by first | rfl | (simp; done) | (simp [*]; done)), H', ⟨by have := HK1.out; omega⟩, ⟨by (with_reducible repeat (first | apply Kd.R_alloc | apply Kd.R_drewN | apply Kd.R_drew)); exact Kd.R_mono HO196.out (fun _ hk => ⟨hk.1, ⟨hk.2.1, hk.2.2.1⟩⟩)⟩, ⟨by (with_reducible repeat (first | apply Kd.R_alloc | apply Kd.R_drewN | apply Kd.R_drew)); exact Kd.R_mono HO_162004.out (fun _ hk => hk.1.1)⟩, ⟨by (with_reducible repeat (first | apply Kd.S_alloc | apply Kd.S_drewN | apply Kd.S_drew)); exact Kd.S_mono HO_162005.out (fun _ hk => ⟨hk.1.1.1.1, hk.1.1.1.2⟩)⟩, ⟨by (with_reducible repeat (first | apply Kd.R_alloc | apply Kd.R_drewN | apply Kd.R_drew)); exact Kd.R_mono HO_162007.out (fun _ hk => hk.1.1)⟩, ⟨by (with_reducible repeat (first | refine blk_drewN ?_ _ | refine blk_drew ?_ | refine blk_alloc ?_ _)); exact BK161.out⟩, ⟨by (with_reducible repeat (first | refine blk_drewN ?_ _ | refine blk_drew ?_ | refine blk_alloc ?_ _)); exact BK162.out⟩, ⟨by repeat (first | (with_reducible first | exact HB.out | apply below_alloc | apply pw_below_drewN | apply below_drew1 | refine below_set ?_ GE161.out | refine below_set ?_ GE162.out | refine below_set ?_ GE182.out) | exact HB.out)⟩⟩
                · rw [if_neg c31] at H
                  exact absurd H (by simp)
              · rw [if_neg c28] at H
                exact absurd H (by simp)
            · rw [if_neg c27] at H
              exact absurd H (by simp)
          · rw [if_neg c26] at H
            have c26b0 : decide (x24_1 < (l0_6.length : Int)) = false := decide_eq_false c26
            clear c26
            simp only [Option.some.injEq, Prod.mk.injEq] at H
            obtain ⟨rfl, rfl, rfl, rfl, rfl, rfl, rfl, rfl⟩ := H
            obtain ⟨Ao44, co44, eo44⟩ := Kd.R_slice HO_3.out
            subst eo44
            have hnb45 := NB161_162.out
            have hnc45 := NB162_161.out
            have hcz46_0 : wr.cell? ⟨gb161, 0, none⟩ = some (.int .i64 a0_0) := (blk_cell BK161.out 0).trans rfl
            have hcz46_1 : wr.cell? ⟨gb161, 1, none⟩ = some (.int .i64 a0_1) := (blk_cell BK161.out 1).trans rfl
            have hcz46_2 : wr.cell? ⟨gb161, 2, none⟩ = some (.int .i64 a0_2) := (blk_cell BK161.out 2).trans rfl
            have hcz46_3 : wr.cell? ⟨gb161, 3, none⟩ = some (.int .i64 a0_3) := (blk_cell BK161.out 3).trans rfl
            have hcz46_4 : wr.cell? ⟨gb161, 4, none⟩ = some (.slice Ao12 y166.length co12) := (blk_cell BK161.out 4).trans rfl
            have hcz46_5 : wr.cell? ⟨gb161, 5, none⟩ = some (.slice Ao21 t175.length co21) := (blk_cell BK161.out 5).trans rfl
            have hcz46_6 : wr.cell? ⟨gb161, 6, none⟩ = some (.slice A0_6 l0_6.length c0_6) := (blk_cell BK161.out 6).trans rfl
            have hcz46_7 : wr.cell? ⟨gb161, 7, none⟩ = some (.slice Ao18 y172.length co18) := (blk_cell BK161.out 7).trans rfl
            have hfz46_0 := blk_frozen BK161.out 0
            have hfz46_1 := blk_frozen BK161.out 1
            have hfz46_2 := blk_frozen BK161.out 2
            have hfz46_3 := blk_frozen BK161.out 3
            have hfz46_4 := blk_frozen BK161.out 4
            have hfz46_5 := blk_frozen BK161.out 5
            have hfz46_6 := blk_frozen BK161.out 6
            have hfz46_7 := blk_frozen BK161.out 7
            have hcz47_0 : wr.cell? ⟨gb162, 0, none⟩ = some (.int .i64 0) := (blk_cell BK162.out 0).trans rfl
            have hcz47_1 : wr.cell? ⟨gb162, 1, none⟩ = some (.int .i64 0) := (blk_cell BK162.out 1).trans rfl
            have hcz47_2 : wr.cell? ⟨gb162, 2, none⟩ = some (.int .i64 0) := (blk_cell BK162.out 2).trans rfl
            have hcz47_3 : wr.cell? ⟨gb162, 3, none⟩ = some (.int .i64 0) := (blk_cell BK162.out 3).trans rfl
            have hcz47_4 : wr.cell? ⟨gb162, 4, none⟩ = some (.slice none 0 0) := (blk_cell BK162.out 4).trans rfl
            have hcz47_5 : wr.cell? ⟨gb162, 5, none⟩ = some (.slice none 0 0) := (blk_cell BK162.out 5).trans rfl
            have hcz47_6 : wr.cell? ⟨gb162, 6, none⟩ = some (.slice none 0 0) := (blk_cell BK162.out 6).trans rfl
            have hcz47_7 : wr.cell? ⟨gb162, 7, none⟩ = some (.slice none 0 0) := (blk_cell BK162.out 7).trans rfl
            have hfz47_0 := blk_frozen BK162.out 0
            have hfz47_1 := blk_frozen BK162.out 1
            have hfz47_2 := blk_frozen BK162.out 2
            have hfz47_3 := blk_frozen BK162.out 3
            have hfz47_4 := blk_frozen BK162.out 4
            have hfz47_5 := blk_frozen BK162.out 5
            have hfz47_6 := blk_frozen BK162.out 6
            have hfz47_7 := blk_frozen BK162.out 7
            go_wp2
            refine bodyPost_ret (results_cell_row rfl _ _ gb162 30 #[.int .i64 a0_0, .int .i64 a0_1, .int .i64 a0_2, .int .i64 a0_3, .slice Ao12 y166.length co12, .slice Ao21 t175.length co21, .slice Ao44 x3_1.length co44, .slice Ao18 y172.length co18] (0, 0) _ rfl (by (with_reducible repeat (first | refine blk_drewN ?_ _ | refine blk_drew ?_ | refine blk_alloc ?_ _)); refine blk_put (cs := #[.int .i64 a0_0, .int .i64 a0_1, .int .i64 a0_2, .int .i64 a0_3, .slice Ao12 y166.length co12, .slice Ao21 t175.length co21, .slice Ao44 x3_1.length co44, .slice none 0 0]) ?_ 7 _ rfl; (with_reducible repeat (first | refine blk_drewN ?_ _ | refine blk_drew ?_ | refine blk_alloc ?_ _)); refine blk_put (cs := #[.int .i64 a0_0, .int .i64 a0_1, .int .i64 a0_2, .int .i64 a0_3, .slice Ao12 y166.length co12, .slice Ao21 t175.length co21, .slice none 0 0, .slice none 0 0]) ?_ 6 _ rfl; (with_reducible repeat (first | refine blk_drewN ?_ _ | refine blk_drew ?_ | refine blk_alloc ?_ _)); refine blk_put (cs := #[.int .i64 a0_0, .int .i64 a0_1, .int .i64 a0_2, .int .i64 a0_3, .slice Ao12 y166.length co12, .slice none 0 0, .slice none 0 0, .slice none 0 0]) ?_ 5 _ rfl; (with_reducible repeat (first | refine blk_drewN ?_ _ | refine blk_drew ?_ | refine blk_alloc ?_ _)); refine blk_put (cs := #[.int .i64 a0_0, .int .i64 a0_1, .int .i64 a0_2, .int .i64 a0_3, .slice none 0 0, .slice none 0 0, .slice none 0 0, .slice none 0 0]) ?_ 4 _ rfl; (with_reducible repeat (first | refine blk_drewN ?_ _ | refine blk_drew ?_ | refine blk_alloc ?_ _)); refine blk_put (cs := #[.int .i64 a0_0, .int .i64 a0_1, .int .i64 a0_2, .int .i64 0, .slice none 0 0, .slice none 0 0, .slice none 0 0, .slice none 0 0]) ?_ 3 _ rfl; (with_reducible repeat (first | refine blk_drewN ?_ _ | refine blk_drew ?_ | refine blk_alloc ?_ _)); refine blk_put (cs := #[.int .i64 a0_0, .int .i64 a0_1, .int .i64 0, .int .i64 0, .slice none 0 0, .slice none 0 0, .slice none 0 0, .slice none 0 0]) ?_ 2 _ rfl; (with_reducible repeat (first | refine blk_drewN ?_ _ | refine blk_drew ?_ | refine blk_alloc ?_ _)); refine blk_put (cs := #[.int .i64 a0_0, .int .i64 0, .int .i64 0, .int .i64 0, .slice none 0 0, .slice none 0 0, .slice none 0 0, .slice none 0 0]) ?_ 1 _ rfl; (with_reducible repeat (first | refine blk_drewN ?_ _ | refine blk_drew ?_ | refine blk_alloc ?_ _)); refine blk_put (cs := #[.int .i64 0, .int .i64 0, .int .i64 0, .int .i64 0, .slice none 0 0, .slice none 0 0, .slice none 0 0, .slice none 0 0]) ?_ 0 _ rfl; (with_reducible repeat (first | refine blk_drewN ?_ _ | refine blk_drew ?_ | refine blk_alloc ?_ _)); refine blk_far ?_ NB162_161.out _; (with_reducible repeat (first | refine blk_drewN ?_ _ | refine blk_drew ?_ | refine blk_alloc ?_ _)); exact BK162.out) Try.underlying30 rfl (by kernel_rfl)) rfl ?_
            exact ⟨_, _, _, _, by first | rfl | (simp [errW_none, errW_some] <;> rfl) | (simp [*, errW_none, errW_some] <;> rfl), by (with_reducible repeat (first | apply Kd.R_alloc | apply Kd.R_drewN | apply Kd.R_drew)); exact Kd.R_mono (Kd.R_far (p := ⟨gb162, 7, none⟩) (Kd.R_far (p := ⟨gb162, 6, none⟩) (Kd.R_far (p := ⟨gb162, 5, none⟩) (Kd.R_far (p := ⟨gb162, 4, none⟩) (Kd.R_far (p := ⟨gb162, 3, none⟩) (Kd.R_far (p := ⟨gb162, 2, none⟩) (Kd.R_far (p := ⟨gb162, 1, none⟩) (Kd.R_far (p := ⟨gb162, 0, none⟩) (Kd.R_far (p := ⟨gb161, 6, none⟩) (Kd.R_types (Kd.R_types HO_162004.out BK161.out (by decide)) BK162.out (by decide)) (fun _ hk => hk.1.2) (.slice Ao44 x3_1.length co44)) (fun _ hk => hk.2) (.int .i64 a0_0)) (fun _ hk => hk.2) (.int .i64 a0_1)) (fun _ hk => hk.2) (.int .i64 a0_2)) (fun _ hk => hk.2) (.int .i64 a0_3)) (fun _ hk => hk.2) (.slice Ao12 y166.length co12)) (fun _ hk => hk.2) (.slice Ao21 t175.length co21)) (fun _ hk => hk.2) (.slice Ao44 x3_1.length co44)) (fun _ hk => hk.2) (.slice Ao18 y172.length co18)) (fun _ hk => hk.1.1), by (with_reducible repeat (first | apply Kd.S_alloc | apply Kd.S_drewN | apply Kd.S_drew)); exact Kd.S_mono (Kd.S_far (p := ⟨gb162, 7, none⟩) (Kd.S_far (p := ⟨gb162, 6, none⟩) (Kd.S_far (p := ⟨gb162, 5, none⟩) (Kd.S_far (p := ⟨gb162, 4, none⟩) (Kd.S_far (p := ⟨gb162, 3, none⟩) (Kd.S_far (p := ⟨gb162, 2, none⟩) (Kd.S_far (p := ⟨gb162, 1, none⟩) (Kd.S_far (p := ⟨gb162, 0, none⟩) (Kd.S_far (p := ⟨gb161, 6, none⟩) (Kd.S_types (Kd.S_types HO_162005.out BK161.out (by decide)) BK162.out (by decide)) (fun _ hk => hk.1.2) (.slice Ao44 x3_1.length co44)) (fun _ hk => hk.2) (.int .i64 a0_0)) (fun _ hk => hk.2) (.int .i64 a0_1)) (fun _ hk => hk.2) (.int .i64 a0_2)) (fun _ hk => hk.2) (.int .i64 a0_3)) (fun _ hk => hk.2) (.slice Ao12 y166.length co12)) (fun _ hk => hk.2) (.slice Ao21 t175.length co21)) (fun _ hk => hk.2) (.slice Ao44 x3_1.length co44)) (fun _ hk => hk.2) (.slice Ao18 y172.length co18)) (fun _ hk => ⟨hk.1.1.1, hk.1.1.2⟩), by (with_reducible repeat (first | apply Kd.R_alloc | apply Kd.R_drewN | apply Kd.R_drew)); exact Kd.R_mono (Kd.R_far (p := ⟨gb162, 7, none⟩) (Kd.R_far (p := ⟨gb162, 6, none⟩) (Kd.R_far (p := ⟨gb162, 5, none⟩) (Kd.R_far (p := ⟨gb162, 4, none⟩) (Kd.R_far (p := ⟨gb162, 3, none⟩) (Kd.R_far (p := ⟨gb162, 2, none⟩) (Kd.R_far (p := ⟨gb162, 1, none⟩) (Kd.R_far (p := ⟨gb162, 0, none⟩) (Kd.R_far (p := ⟨gb161, 6, none⟩) (Kd.R_types (Kd.R_types HO_3.out BK161.out (by decide)) BK162.out (by decide)) (fun _ hk => hk.1.2) (.slice Ao44 x3_1.length co44)) (fun _ hk => hk.2) (.int .i64 a0_0)) (fun _ hk => hk.2) (.int .i64 a0_1)) (fun _ hk => hk.2) (.int .i64 a0_2)) (fun _ hk => hk.2) (.int .i64 a0_3)) (fun _ hk => hk.2) (.slice Ao12 y166.length co12)) (fun _ hk => hk.2) (.slice Ao21 t175.length co21)) (fun _ hk => hk.2) (.slice Ao44 x3_1.length co44)) (fun _ hk => hk.2) (.slice Ao18 y172.length co18)) (fun _ hk => ⟨hk.1.1.1, ⟨hk.1.1.2.1, hk.1.1.2.2⟩⟩), by (with_reducible repeat (first | apply Kd.R_alloc | apply Kd.R_drewN | apply Kd.R_drew)); exact Kd.R_mono (Kd.R_far (p := ⟨gb162, 7, none⟩) (Kd.R_far (p := ⟨gb162, 6, none⟩) (Kd.R_far (p := ⟨gb162, 5, none⟩) (Kd.R_far (p := ⟨gb162, 4, none⟩) (Kd.R_far (p := ⟨gb162, 3, none⟩) (Kd.R_far (p := ⟨gb162, 2, none⟩) (Kd.R_far (p := ⟨gb162, 1, none⟩) (Kd.R_far (p := ⟨gb162, 0, none⟩) (Kd.R_far (p := ⟨gb161, 6, none⟩) (Kd.R_types (Kd.R_types HO_162007.out BK161.out (by decide)) BK162.out (by decide)) (fun _ hk => hk.1.2) (.slice Ao44 x3_1.length co44)) (fun _ hk => hk.2) (.int .i64 a0_0)) (fun _ hk => hk.2) (.int .i64 a0_1)) (fun _ hk => hk.2) (.int .i64 a0_2)) (fun _ hk => hk.2) (.int .i64 a0_3)) (fun _ hk => hk.2) (.slice Ao12 y166.length co12)) (fun _ hk => hk.2) (.slice Ao21 t175.length co21)) (fun _ hk => hk.2) (.slice Ao44 x3_1.length co44)) (fun _ hk => hk.2) (.slice Ao18 y172.length co18)) (fun _ hk => hk.1.1), by repeat (first | (with_reducible first | exact HB.out | apply below_alloc | apply pw_below_drewN | apply below_drew1 | refine below_set ?_ GE161.out | refine below_set ?_ GE162.out) | exact HB.out)⟩
    · rw [if_neg c3] at H
      exact absurd H (by simp)
  · rw [if_neg c2] at H
    exact absurd H (by simp)

/-! ### catenaryref18_Low: function 8 -/
def catenaryref18_Low.l0 : Nat → Int → List (S30) → Int → Int → Option (Int)
  | 0, _, _, _, _ => none
  | k + 1, x3, x6, x7, x8 => if x8 < x7 then (if 0 ≤ x8 then (if x8 < (x6.length : Int) then (if ((rd_T30 x6 x8).f2) > x3 then (catenaryref18_Low.l0 k ((rd_T30 x6 x8).f2) x6 x7 (wrap64 (x8 + 1))) else (catenaryref18_Low.l0 k x3 x6 x7 (wrap64 (x8 + 1)))) else (none)) else (none)) else (some x3)
def catenaryref18_Low.f (k : Nat) (l0 : List (S30)) : Option (Int) := catenaryref18_Low.l0 k 0 l0 (l0.length : Int) 0
theorem catenaryref18_Low.mono_l : ∀ k, (∀ y0 y1 y2 y3, LeO (catenaryref18_Low.l0 k y0 y1 y2 y3) (catenaryref18_Low.l0 (k + 1) y0 y1 y2 y3))
  | 0 => fun _ _ _ _ r h => by simp [catenaryref18_Low.l0] at h
  | k + 1 => by
    have ih0 := catenaryref18_Low.mono_l k
    · intro y0 y1 y2 y3
      unfold catenaryref18_Low.l0
      repeat' first
      | (with_reducible exact ih0 _ _ _ _)
      | (with_reducible exact LeO.refl _)
      | (with_reducible exact LeO.none _)
      | (with_reducible refine LeO.ite ?_ ?_)
      | (with_reducible refine LeO.bind ?_ (fun _ => ?_))
      | exact ih0 _ _ _ _
      | exact LeO.none _
      | refine LeO.ite ?_ ?_
      | refine LeO.bind ?_ (fun _ => ?_)
theorem catenaryref18_Low.mono : ∀ a0 k, LeO (catenaryref18_Low.f k a0) (catenaryref18_Low.f (k + 1) a0) := by
  intro a0 k
  have ih0 := catenaryref18_Low.mono_l k
  unfold catenaryref18_Low.f
  repeat' first
      | (with_reducible exact ih0 _ _ _ _)
      | (with_reducible exact LeO.refl _)
      | (with_reducible exact LeO.none _)
      | (with_reducible refine LeO.ite ?_ ?_)
      | (with_reducible refine LeO.bind ?_ (fun _ => ?_))
      | exact ih0 _ _ _ _
      | exact LeO.none _
      | refine LeO.ite ?_ ?_
      | refine LeO.bind ?_ (fun _ => ?_)
set_option maxHeartbeats 8000000 in
set_option maxRecDepth 100000 in
theorem catenaryref18_Low.calls (k : Nat) (A0 : Option Addr) (c0 : Nat) (l0 : List (S30)) (r : Int) (w : World) (hr0 : Kd.C k30 w A0 l0.length l0) (hc0 : l0.length ≤ c0) (h : catenaryref18_Low.f k l0 = some r) :
    Calls Try.prog 8 #[.slice A0 l0.length c0] w fun e w' => e = .returned (.int .i64 r) ∧ Below w.heap.size w w' := by
  have hu30 := Try.underlying30
  have HR0 := Aside0.mk hr0
  have HC0 := Aside0.mk hc0
  clear hr0 hc0
  have HB := Aside0.mk (Below.refl w.heap.size w)
  have H : (catenaryref18_Low.l0 k 0 l0 (l0.length : Int) 0) = some r := h
  clear h
  have H' := Aside0.mk H
  clear H
  go_enter Try.func8, Try.ntmps8
  go_wp2
  go_loopg [3, 8] k (fun kq v3 v8 w' => ∃ (x3_1 : Int) (x8_1 : Int), v3 = .int .i64 x3_1 ∧ v8 = .int .i64 x8_1 ∧ Aside0 (catenaryref18_Low.l0 kq x3_1 l0 (l0.length : Int) x8_1 = some r) ∧ Aside0 (kq ≤ k) ∧ Aside0 (Below w.heap.size w w'))
  case atStart => exact ⟨(0), (0), (by first | rfl | (simp; done) | (simp [*]; done)), (by first | rfl | (simp; done) | (simp [*]; done)), H', ⟨Nat.le_refl _⟩, ⟨by repeat (first | (with_reducible first | exact HB.out | apply below_alloc | apply pw_below_drewN | apply below_drew1) | exact HB.out)⟩⟩
  case round =>
    clear H'
    obtain ⟨x3_1, x8_1, rfl, rfl, HA, HK1, HB⟩ := hrel
    cases gk with
    | zero => exact absurd HA.out (by simp [catenaryref18_Low.l0])
    | succ k1 =>
      have H := HA.out
      clear HA
      simp only [catenaryref18_Low.l0] at H
      by_cases c2 : x8_1 < (l0.length : Int)
      · rw [if_pos c2] at H
        have c2b0 : decide (x8_1 < (l0.length : Int)) = true := decide_eq_true c2
        clear c2
        by_cases c3 : 0 ≤ x8_1
        · rw [if_pos c3] at H
          have c3b0 : decide (0 ≤ x8_1) = true := decide_eq_true c3
          clear c3
          by_cases c4 : x8_1 < (l0.length : Int)
          · rw [if_pos c4] at H
            have c4b0 : decide (x8_1 < (l0.length : Int)) = true := decide_eq_true c4
            clear c4
            by_cases c5 : ((rd_T30 l0 x8_1).f2) > x3_1
            · rw [if_pos c5] at H
              have c5b0 : decide (x3_1 < ((rd_T30 l0 x8_1).f2)) = true := decide_eq_true c5
              clear c5
              have H' := Aside0.mk H
              clear H
              have p197 : 0 ≤ (x8_1 : Int) := of_decide_eq_true (by first | (with_reducible assumption) | assumption)
              have q197 : x8_1 < (l0.length : Int) := of_decide_eq_true (by first | (with_reducible assumption) | assumption)
              obtain ⟨ad197, A197_4, c197_4, A197_5, c197_5, A197_6, c197_6, A197_7, c197_7, e197, hx197_0, hx197_1, hx197_2, hx197_3, hx197_4, hx197_5, hx197_6, hx197_7, hl197_4, hi197_4, hl197_5, hi197_5, hl197_6, hi197_6, hl197_7, hi197_7⟩ := at_T30 HR0.out x8_1 p197 q197
              cases e197
              replace hx197_0 := (HB.out.cell (World.block_lt_of_cell? w _ hx197_0)).trans hx197_0
              replace hx197_1 := (HB.out.cell (World.block_lt_of_cell? w _ hx197_1)).trans hx197_1
              replace hx197_2 := (HB.out.cell (World.block_lt_of_cell? w _ hx197_2)).trans hx197_2
              replace hx197_3 := (HB.out.cell (World.block_lt_of_cell? w _ hx197_3)).trans hx197_3
              replace hx197_4 := (HB.out.cell (World.block_lt_of_cell? w _ hx197_4)).trans hx197_4
              replace hx197_5 := (HB.out.cell (World.block_lt_of_cell? w _ hx197_5)).trans hx197_5
              replace hx197_6 := (HB.out.cell (World.block_lt_of_cell? w _ hx197_6)).trans hx197_6
              replace hx197_7 := (HB.out.cell (World.block_lt_of_cell? w _ hx197_7)).trans hx197_7
              have HR197_4 := Aside0.mk hi197_4
              have HC197_4 := Aside0.mk hl197_4
              clear hi197_4 hl197_4
              have HR197_5 := Aside0.mk hi197_5
              have HC197_5 := Aside0.mk hl197_5
              clear hi197_5 hl197_5
              have HR197_6 := Aside0.mk hi197_6
              have HC197_6 := Aside0.mk hl197_6
              clear hi197_6 hl197_6
              have HR197_7 := Aside0.mk hi197_7
              have HC197_7 := Aside0.mk hl197_7
              clear hi197_7 hl197_7
              replace p197 := eq_true p197
              replace q197 := eq_true q197
              go_wp2_with (first | ((with_reducible refine gate_dst (N := 5) rfl ?_); refine box_event ?hg (N := 5) ?hd (cs := #[.int .i64 0, .int .i64 0, .int .i64 0, .int .i64 0, .slice none 0 0, .slice none 0 0, .slice none 0 0, .slice none 0 0]) (t := 30) ?hr ?_; (case hd => rfl); (case hg => rfl); (case hr => first | (go_simp; done) | (go_simp; rfl)); intro gb198 hg w6 hbox hb; have n0_ := Aside0.mk (below_step (by repeat (first | (with_reducible first | exact HB.out | apply below_alloc | apply pw_below_drewN | apply below_drew1) | exact HB.out)) hb); have n1_ := Aside0.mk (hbox); have n2_ := Aside0.mk ((by rw [hg]; exact (below_size (by repeat (first | (with_reducible first | exact HB.out | apply below_alloc | apply pw_below_drewN | apply below_drew1) | exact HB.out))) : w.heap.size ≤ gb198)); have n3_ := Aside0.mk ((by rw [hg]; exact (below_size (by repeat (first | (with_reducible first | exact HB.out | apply below_alloc | apply pw_below_drewN | apply below_drew1) | exact HB.out))) : w.heap.size ≤ gb198)); clear HB; have HB := n0_; have BK198 := n1_; have GW198 := n2_; have GE198 := n3_; clear n0_ n1_ n2_ n3_; clear hb hbox hg; have hcz7_0 : w6.cell? ⟨gb198, 0, none⟩ = some (.int .i64 0) := (blk_cell BK198.out 0).trans rfl; have hcz7_1 : w6.cell? ⟨gb198, 1, none⟩ = some (.int .i64 0) := (blk_cell BK198.out 1).trans rfl; have hcz7_2 : w6.cell? ⟨gb198, 2, none⟩ = some (.int .i64 0) := (blk_cell BK198.out 2).trans rfl; have hcz7_3 : w6.cell? ⟨gb198, 3, none⟩ = some (.int .i64 0) := (blk_cell BK198.out 3).trans rfl; have hcz7_4 : w6.cell? ⟨gb198, 4, none⟩ = some (.slice none 0 0) := (blk_cell BK198.out 4).trans rfl; have hcz7_5 : w6.cell? ⟨gb198, 5, none⟩ = some (.slice none 0 0) := (blk_cell BK198.out 5).trans rfl; have hcz7_6 : w6.cell? ⟨gb198, 6, none⟩ = some (.slice none 0 0) := (blk_cell BK198.out 6).trans rfl; have hcz7_7 : w6.cell? ⟨gb198, 7, none⟩ = some (.slice none 0 0) := (blk_cell BK198.out 7).trans rfl; have hfz7_0 := blk_frozen BK198.out 0; have hfz7_1 := blk_frozen BK198.out 1; have hfz7_2 := blk_frozen BK198.out 2; have hfz7_3 := blk_frozen BK198.out 3; have hfz7_4 := blk_frozen BK198.out 4; have hfz7_5 := blk_frozen BK198.out 5; have hfz7_6 := blk_frozen BK198.out 6; have hfz7_7 := blk_frozen BK198.out 7))
              go_roundg k1
              case measure => have := HK1.out; omega
              case rel => exact ⟨((rd_T30 l0 x8_1).f2), (wrap64 (x8_1 + 1)), (by first | rfl | (simp; done) | (simp [*]; done)), (by first | rfl | (simp; done) | (simp [*]; done)), H', ⟨by have := HK1.out; omega⟩, ⟨by repeat (first | (with_reducible first | exact HB.out | apply below_alloc | apply pw_below_drewN | apply below_drew1 | refine below_set ?_ GE198.out) | exact HB.out)⟩⟩
            · rw [if_neg c5] at H
              have c5b0 : decide (x3_1 < ((rd_T30 l0 x8_1).f2)) = false := decide_eq_false c5
              clear c5
              have H' := Aside0.mk H
              clear H
              have p197 : 0 ≤ (x8_1 : Int) := of_decide_eq_true (by first | (with_reducible assumption) | assumption)
              have q197 : x8_1 < (l0.length : Int) := of_decide_eq_true (by first | (with_reducible assumption) | assumption)
              obtain ⟨ad197, A197_4, c197_4, A197_5, c197_5, A197_6, c197_6, A197_7, c197_7, e197, hx197_0, hx197_1, hx197_2, hx197_3, hx197_4, hx197_5, hx197_6, hx197_7, hl197_4, hi197_4, hl197_5, hi197_5, hl197_6, hi197_6, hl197_7, hi197_7⟩ := at_T30 HR0.out x8_1 p197 q197
              cases e197
              replace hx197_0 := (HB.out.cell (World.block_lt_of_cell? w _ hx197_0)).trans hx197_0
              replace hx197_1 := (HB.out.cell (World.block_lt_of_cell? w _ hx197_1)).trans hx197_1
              replace hx197_2 := (HB.out.cell (World.block_lt_of_cell? w _ hx197_2)).trans hx197_2
              replace hx197_3 := (HB.out.cell (World.block_lt_of_cell? w _ hx197_3)).trans hx197_3
              replace hx197_4 := (HB.out.cell (World.block_lt_of_cell? w _ hx197_4)).trans hx197_4
              replace hx197_5 := (HB.out.cell (World.block_lt_of_cell? w _ hx197_5)).trans hx197_5
              replace hx197_6 := (HB.out.cell (World.block_lt_of_cell? w _ hx197_6)).trans hx197_6
              replace hx197_7 := (HB.out.cell (World.block_lt_of_cell? w _ hx197_7)).trans hx197_7
              have HR197_4 := Aside0.mk hi197_4
              have HC197_4 := Aside0.mk hl197_4
              clear hi197_4 hl197_4
              have HR197_5 := Aside0.mk hi197_5
              have HC197_5 := Aside0.mk hl197_5
              clear hi197_5 hl197_5
              have HR197_6 := Aside0.mk hi197_6
              have HC197_6 := Aside0.mk hl197_6
              clear hi197_6 hl197_6
              have HR197_7 := Aside0.mk hi197_7
              have HC197_7 := Aside0.mk hl197_7
              clear hi197_7 hl197_7
              replace p197 := eq_true p197
              replace q197 := eq_true q197
              go_wp2_with (first | ((with_reducible refine gate_dst (N := 5) rfl ?_); refine box_event ?hg (N := 5) ?hd (cs := #[.int .i64 0, .int .i64 0, .int .i64 0, .int .i64 0, .slice none 0 0, .slice none 0 0, .slice none 0 0, .slice none 0 0]) (t := 30) ?hr ?_; (case hd => rfl); (case hg => rfl); (case hr => first | (go_simp; done) | (go_simp; rfl)); intro gb198 hg w8 hbox hb; have n0_ := Aside0.mk (below_step (by repeat (first | (with_reducible first | exact HB.out | apply below_alloc | apply pw_below_drewN | apply below_drew1) | exact HB.out)) hb); have n1_ := Aside0.mk (hbox); have n2_ := Aside0.mk ((by rw [hg]; exact (below_size (by repeat (first | (with_reducible first | exact HB.out | apply below_alloc | apply pw_below_drewN | apply below_drew1) | exact HB.out))) : w.heap.size ≤ gb198)); have n3_ := Aside0.mk ((by rw [hg]; exact (below_size (by repeat (first | (with_reducible first | exact HB.out | apply below_alloc | apply pw_below_drewN | apply below_drew1) | exact HB.out))) : w.heap.size ≤ gb198)); clear HB; have HB := n0_; have BK198 := n1_; have GW198 := n2_; have GE198 := n3_; clear n0_ n1_ n2_ n3_; clear hb hbox hg; have hcz9_0 : w8.cell? ⟨gb198, 0, none⟩ = some (.int .i64 0) := (blk_cell BK198.out 0).trans rfl; have hcz9_1 : w8.cell? ⟨gb198, 1, none⟩ = some (.int .i64 0) := (blk_cell BK198.out 1).trans rfl; have hcz9_2 : w8.cell? ⟨gb198, 2, none⟩ = some (.int .i64 0) := (blk_cell BK198.out 2).trans rfl; have hcz9_3 : w8.cell? ⟨gb198, 3, none⟩ = some (.int .i64 0) := (blk_cell BK198.out 3).trans rfl; have hcz9_4 : w8.cell? ⟨gb198, 4, none⟩ = some (.slice none 0 0) := (blk_cell BK198.out 4).trans rfl; have hcz9_5 : w8.cell? ⟨gb198, 5, none⟩ = some (.slice none 0 0) := (blk_cell BK198.out 5).trans rfl; have hcz9_6 : w8.cell? ⟨gb198, 6, none⟩ = some (.slice none 0 0) := (blk_cell BK198.out 6).trans rfl; have hcz9_7 : w8.cell? ⟨gb198, 7, none⟩ = some (.slice none 0 0) := (blk_cell BK198.out 7).trans rfl; have hfz9_0 := blk_frozen BK198.out 0; have hfz9_1 := blk_frozen BK198.out 1; have hfz9_2 := blk_frozen BK198.out 2; have hfz9_3 := blk_frozen BK198.out 3; have hfz9_4 := blk_frozen BK198.out 4; have hfz9_5 := blk_frozen BK198.out 5; have hfz9_6 := blk_frozen BK198.out 6; have hfz9_7 := blk_frozen BK198.out 7))
              go_roundg k1
              case measure => have := HK1.out; omega
              case rel => exact ⟨(x3_1), (wrap64 (x8_1 + 1)), (by first | rfl | (simp; done) | (simp [*]; done)), (by first | rfl | (simp; done) | (simp [*]; done)), H', ⟨by have := HK1.out; omega⟩, ⟨by repeat (first | (with_reducible first | exact HB.out | apply below_alloc | apply pw_below_drewN | apply below_drew1 | refine below_set ?_ GE198.out) | exact HB.out)⟩⟩
          · rw [if_neg c4] at H
            exact absurd H (by simp)
        · rw [if_neg c3] at H
          exact absurd H (by simp)
      · rw [if_neg c2] at H
        have c2b0 : decide (x8_1 < (l0.length : Int)) = false := decide_eq_false c2
        clear c2
        obtain rfl := Option.some.inj H
        go_wp2
        go_ret
        exact ⟨by first | rfl | (simp [errW_none, errW_some] <;> rfl) | (simp [*, errW_none, errW_some] <;> rfl), by repeat (first | (with_reducible first | exact HB.out | apply below_alloc | apply pw_below_drewN | apply below_drew1) | exact HB.out)⟩

end Go.Proofs.Ytpnelfefchdhcaa.PChoosePicks
