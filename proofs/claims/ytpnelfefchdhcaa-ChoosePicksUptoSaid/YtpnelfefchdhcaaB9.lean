/- ChooseKeeps: the walk of the law. -/
import Derived.Test.YtpnelfefchdhcaaB8
import Derived.Test.YtpnelfefchdhcaaOpn
namespace Go.Proofs.Ytpnelfefchdhcaa
open Go.RowKit Go.Proofs.YtpnelfefchdhcaaW.PrintWords Go.Proofs.YtpnelfefchdhcaaW.PrintLast Go.Proofs.YtpnelfefchdhcaaW.PrintMore
open Go.Proofs.Ytpnelfefchdhcaa.PChoosePicks
set_option linter.unusedVariables false
set_option linter.unusedSimpArgs false
set_option maxRecDepth 100000

/-- q is not above p at the slot. -/
def nb (slot : Int) (p q : S45) : Bool := !(decide (q.f0 = slot) && decide (cmpB q.f1 p.f1 > 0))
def hiB (slot : Int) (l : List S30) (p : S45) : Bool := l.all fun s => s.f5.all (nb slot p)
def fdStep (slot : Int) (l : List S30) (got : S36) (fd : Bool) (p : S45) : Bool := if p.f0 = slot then (fd || (hiB slot l p && sreq got p.f2)) else fd
def anStep (slot : Int) (an : Bool) (p : S45) : Bool := if p.f0 = slot then true else an
def fdOf (slot : Int) (l : List S30) (got : S36) (m : List S30) : Bool := m.foldl (fun b r => r.f5.foldl (fdStep slot l got) b) false
def anOf (slot : Int) (m : List S30) : Bool := m.foldl (fun b r => r.f5.foldl (anStep slot) b) false
theorem all_take {α : Type} (f : α → Bool) (l : List α) (j : Nat) (h : j < l.length) (z : α) : (l.take (j + 1)).all f = ((l.take j).all f && f (l.getD j z)) := by
  rw [List.take_succ_eq_append_getElem h, List.all_append]
  simp [List.getD_eq_getElem?_getD, h]
theorem cases5 (m n : Nat) (hi fd : Bool) : m < n ∨ (n ≤ m ∧ fd = true) ∨ (n ≤ m ∧ fd = false ∧ hi = true) ∨ (n ≤ m ∧ fd = false ∧ hi = false) := by
  rcases Nat.lt_or_ge m n with h | h
  · exact .inl h
  · cases fd <;> cases hi <;> simp [h]
theorem cases3b (m n : Nat) (an : Bool) : m < n ∨ (n ≤ m ∧ an = true) ∨ (n ≤ m ∧ an = false) := by
  rcases Nat.lt_or_ge m n with h | h
  · exact .inl h
  · cases an <;> simp [h]
theorem fd_no {slot : Int} {l : List S30} {got : S36} {fd : Bool} {p : S45} (h : ¬ p.f0 = slot) : fd = fdStep slot l got fd p := by simp [fdStep, h]
theorem an_no {slot : Int} {an : Bool} {p : S45} (h : ¬ p.f0 = slot) : an = anStep slot an p := by simp [anStep, h]
theorem an_yes {slot : Int} {an : Bool} {p : S45} (h : p.f0 = slot) : true = anStep slot an p := by simp [anStep, h]
theorem fd_1 {slot : Int} {l : List S30} {got : S36} {p : S45} (h : p.f0 = slot) : true = fdStep slot l got true p := by simp [fdStep, h]
theorem fd_2 {slot : Int} {l : List S30} {got : S36} {p : S45} (h : p.f0 = slot) (hh : true = hiB slot l p) : sreq got p.f2 = fdStep slot l got false p := by simp [fdStep, h, ← hh]
theorem fd_3 {slot : Int} {l : List S30} {got : S36} {p : S45} (h : p.f0 = slot) (hh : false = hiB slot l p) : false = fdStep slot l got false p := by simp [fdStep, h, ← hh]
theorem nb_1 {slot : Int} {p q : S45} {hi : Bool} (h : ¬ q.f0 = slot) : hi = (hi && nb slot p q) := by simp [nb, h]
theorem nb_2 {slot : Int} {p q : S45} {hi : Bool} (h : ¬ cmpB q.f1 p.f1 > 0) : hi = (hi && nb slot p q) := by simp [nb, h]
theorem nb_3 {slot : Int} {p q : S45} {hi : Bool} (h1 : q.f0 = slot) (h : cmpB q.f1 p.f1 > 0) : false = (hi && nb slot p q) := by simp [nb, h1, h]
theorem cmpB_pos (a b : S25) : cmpB a b > 0 ↔ (b.f0 < a.f0 ∨ (a.f0 = b.f0 ∧ b.f1 < a.f1)) := by
  unfold cmpB cmpI
  repeat' split
  all_goals omega
/-- What is told of the best of some preps. -/
structure Best (slot : Int) (ps : List S45) (b : Option S45) : Prop where
  none_ : b = none → ∀ q ∈ ps, ¬ q.f0 = slot
  some_ : ∀ p, b = some p → p ∈ ps ∧ p.f0 = slot ∧ ∀ q ∈ ps, q.f0 = slot → ¬ cmpB q.f1 p.f1 > 0
theorem Best.step {slot : Int} {ps : List S45} {b : Option S45} (h : Best slot ps b) (p : S45) : Best slot (ps ++ [p]) (betr slot b p) := by
  unfold betr
  by_cases hp : p.f0 = slot
  · by_cases hq : ∀ q, b = some q → 0 < cmpB p.f1 q.f1
    · rw [if_pos ⟨hp, hq⟩]
      refine ⟨fun h => (by cases h), fun p' he => ?_⟩
      injection he with he
      subst he
      refine ⟨by simp, hp, fun q hqm hqs hgt => ?_⟩
      rcases List.mem_append.1 hqm with h1 | h1
      · cases hb : b with
        | none => exact h.none_ hb q h1 hqs
        | some r =>
          have h2 := (h.some_ r hb).2.2 q h1 hqs
          have h3 := hq r hb
          have h3' : cmpB p.f1 r.f1 > 0 := h3
          rw [cmpB_pos] at h2 h3' hgt
          omega
      · rw [List.mem_singleton.1 h1, cmpB_pos] at hgt; omega
    · rw [if_neg (fun hc => hq hc.2)]
      have : ∃ r, b = some r ∧ ¬ 0 < cmpB p.f1 r.f1 := by
        cases hb : b with
        | none => exact absurd (fun q he => by rw [hb] at he; cases he) hq
        | some r => exact ⟨r, rfl, fun h0 => hq (fun q he => by rw [hb] at he; injection he with he; rw [← he]; exact h0)⟩
      obtain ⟨r, hr, hr2⟩ := this
      refine ⟨fun hn => (by rw [hr] at hn; cases hn), fun p' he => ?_⟩
      have hh := h.some_ p' he
      have : p' = r := by rw [hr] at he; injection he with he; exact he.symm
      subst this
      refine ⟨by simp [hh.1], hh.2.1, fun q hqm hqs => ?_⟩
      rcases List.mem_append.1 hqm with h1 | h1
      · exact hh.2.2 q h1 hqs
      · rw [List.mem_singleton.1 h1]; exact hr2
  · rw [if_neg (fun hc => hp hc.1)]
    refine ⟨fun hn q hq => ?_, fun p' he => ?_⟩
    · rcases List.mem_append.1 hq with h1 | h1
      · exact h.none_ hn q h1
      · rw [List.mem_singleton.1 h1]; exact hp
    · have hh := h.some_ p' he
      refine ⟨by simp [hh.1], hh.2.1, fun q hqm hqs => ?_⟩
      rcases List.mem_append.1 hqm with h1 | h1
      · exact hh.2.2 q h1 hqs
      · rw [List.mem_singleton.1 h1] at hqs; exact absurd hqs hp
theorem Best.steps {slot : Int} (qs : List S45) : ∀ {ps : List S45} {b : Option S45}, Best slot ps b → Best slot (ps ++ qs) (qs.foldl (betr slot) b) := by
  induction qs with
  | nil => intro ps b h; simpa using h
  | cons q qs ih =>
    intro ps b h
    have := ih (h.step q)
    rw [List.append_assoc] at this
    exact this
theorem best_of (slot : Int) (l : List S30) : Best slot (l.flatMap S30.f5) (bestIn slot l) := by
  have key : ∀ (m : List S30) (ps : List S45) (b : Option S45), Best slot ps b → Best slot (ps ++ m.flatMap S30.f5) (m.foldl (fun b r => r.f5.foldl (betr slot) b) b) := by
    intro m
    induction m with
    | nil => intro ps b h; simpa using h
    | cons r m ih =>
      intro ps b h
      have := ih _ _ (h.steps r.f5)
      rw [List.append_assoc] at this
      exact this
  exact key l [] none ⟨fun _ q hq => by simp at hq, fun p h => by cases h⟩
theorem foldl2 {β : Type} (f : β → S45 → β) (l : List S30) (b : β) : l.foldl (fun b r => r.f5.foldl f b) b = (l.flatMap S30.f5).foldl f b := by
  induction l generalizing b with
  | nil => rfl
  | cons r l ih => rw [List.foldl_cons, List.flatMap_cons, List.foldl_append, ih]
theorem fd_true {slot : Int} {l : List S30} {got : S36} (ps : List S45) : ps.foldl (fdStep slot l got) true = true := by
  induction ps with
  | nil => rfl
  | cons p ps ih => rw [List.foldl_cons, show fdStep slot l got true p = true by simp [fdStep]]; exact ih
theorem fd_mem {slot : Int} {l : List S30} {got : S36} {p : S45} (h1 : p.f0 = slot) (h2 : hiB slot l p = true) (h3 : sreq got p.f2 = true) : ∀ (ps : List S45) (b : Bool), p ∈ ps → ps.foldl (fdStep slot l got) b = true := by
  intro ps
  induction ps with
  | nil => intro b h; simp at h
  | cons q ps ih =>
    intro b h
    rw [List.foldl_cons]
    rcases List.mem_cons.1 h with rfl | h
    · rw [show fdStep slot l got b p = true by simp [fdStep, h1, h2, h3]]; exact fd_true ps
    · exact ih _ h
theorem an_mem {slot : Int} : ∀ (ps : List S45), ps.foldl (anStep slot) false = false → ∀ q ∈ ps, ¬ q.f0 = slot := by
  have ht : ∀ ps : List S45, ps.foldl (anStep slot) true = true := by
    intro ps
    induction ps with
    | nil => rfl
    | cons p ps ih => rw [List.foldl_cons, show anStep slot true p = true by simp [anStep]]; exact ih
  intro ps
  induction ps with
  | nil => intro _ q hq; simp at hq
  | cons p ps ih =>
    intro h q hq
    rw [List.foldl_cons] at h
    by_cases hp : p.f0 = slot
    · rw [show anStep slot false p = true by simp [anStep, hp], ht] at h; cases h
    · rw [show anStep slot false p = false by simp [anStep, hp]] at h
      rcases List.mem_cons.1 hq with rfl | hq
      · exact hp
      · exact ih h q hq
/-- What is prepared highest is kept. -/
theorem keeps_none {slot : Int} {l : List S30} (h : anOf slot l = false) : sreq (pickOf slot l) z36 = true := by
  have hb := best_of slot l
  unfold anOf at h
  rw [foldl2] at h
  have hn := an_mem _ h
  cases hbi : bestIn slot l with
  | none => rw [pickOf, hbi]; exact sreq_self _
  | some p => exact absurd (hb.some_ p hbi).2.1 (hn p (hb.some_ p hbi).1)
theorem keeps_some {slot : Int} {l : List S30} (h : anOf slot l = true) : fdOf slot l (pickOf slot l) l = true := by
  have hb := best_of slot l
  unfold fdOf
  rw [foldl2]
  cases hbi : bestIn slot l with
  | none =>
    have hn := hb.none_ hbi
    unfold anOf at h
    rw [foldl2] at h
    have : ∀ ps : List S45, (∀ q ∈ ps, ¬ q.f0 = slot) → ps.foldl (anStep slot) false = false := by
      intro ps
      induction ps with
      | nil => intro _; rfl
      | cons p ps ih => intro hq; rw [List.foldl_cons, show anStep slot false p = false by simp [anStep, hq p (by simp)]]; exact ih (fun q h => hq q (by simp [h]))
    rw [this _ hn] at h; cases h
  | some p =>
    obtain ⟨h1, h2, h3⟩ := hb.some_ p hbi
    refine fd_mem h2 ?_ (by rw [pickOf, hbi]; exact sreq_self _) _ _ h1
    unfold hiB
    rw [List.all_eq_true]
    intro s hs
    rw [List.all_eq_true]
    intro q hq
    have hm : q ∈ l.flatMap S30.f5 := List.mem_flatMap.2 ⟨s, hs, hq⟩
    unfold nb
    by_cases hqs : q.f0 = slot
    · have := h3 q hm hqs
      simp [hqs, this]
    · simp [hqs]
theorem LOk_of {l : List S30} (h : ∀ r ∈ l, RepOk r) : LOk l := fun r hr p hp => ((h r hr).preps p hp).req
set_option maxHeartbeats 4000000 in
theorem keeps_c (A : Option Addr) (c : Nat) (l : List S30) (slot : Int) (w : World) (hC : Kd.C k30 w A l.length l) (hok : ∀ r ∈ l, RepOk r) (hbig : l.length * 128 ≤ 140737488351232) :
    Calls Try.prog 4 #[.slice A l.length c, .int .i64 slot] w fun e w' => e = .returned (.bool true) ∧ Below w.heap.size w w' := by
  have H := Hp.start (fun _ => False) w
  have hlen := C_len hC
  refine k_enter (args := [(.slice A l.length c), (.int .i64 slot)]) Try.func4 rfl Try.ntmps4 (Nat.le_of_ble_eq_true rfl) ?_
  refine wp_seq ?_
  refine k_list ?_
  refine l_cons (ev_run (v := (.bool false)) (w1 := w) rfl rfl (by kernel_rfl) ?_)
  refine l_nil ?_
  refine n_then ?_
  refine wp_seq ?_
  refine wp_seq ?_
  refine k_list ?_
  refine l_cons (ev_call rfl rfl (f := 5) (args := #[]) (by kernel_rfl) (alive_c _) ?_)
  rintro e w1 ⟨rfl, hb_⟩
  refine ⟨_, rfl, ?_⟩
  have H1 := H.below hb_
  refine l_cons (ev_run (v := (.bool false)) (w1 := w1) rfl rfl (by kernel_rfl) ?_)
  refine l_nil ?_
  refine n_then ?_
  refine k_false (by kernel_rfl) ?_
  refine wp_skip ?_
  refine n_then ?_
  refine wp_seq ?_
  refine k_list ?_
  refine l_cons (ev_newRow (cs := []) (t := 30) (len := 0) rfl rfl H1 (by kernel_rfl) ?_)
  intro g1 w2 H2 hg1 hbw2
  refine l_cons (ev_run (v := (.slice (some (⟨g1, 0, none⟩)) 0 0)) (w1 := w2) rfl rfl (by kernel_rfl) ?_)
  refine l_nil ?_
  refine n_then ?_
  refine wp_seq ?_
  refine wp_seq ?_
  refine k_list ?_
  refine l_cons (ev_run (v := (.slice A l.length c)) (w1 := w2) rfl rfl (by kernel_rfl) ?_)
  refine l_cons (ev_run (v := (.int .i64 (((l.length : Nat) : Int)))) (w1 := w2) rfl rfl (by kernel_rfl) ?_)
  refine l_cons (ev_run (v := (.int .i64 0)) (w1 := w2) rfl rfl (by kernel_rfl) ?_)
  refine l_nil ?_
  refine n_then ?_
  refine wp_block ?_
  have H3 := H2.imp 0 rfl (rowR 30 8 (some ⟨g1, 0, none⟩) 0 0 ([] : List (List Value))) (fun h => rowR_blk h ([] : List (List Value)) rfl (by first | rfl | kernel_rfl) (by simp)) (fun k hk => (Option.some.inj hk).symm)
  have H4 := H3.addE (elR k30 0 (fun _ => False) [] []) (elR_nil _ _ _) (fun k hk => hk)
  refine k_loop (σ := Nat × Option Addr × Nat × List (List Value) × (Nat → Prop)) (fun x_ => match x_ with | (j, A', c', rows, F) => [(0, (.slice A l.length c)), (1, (.int .i64 slot)), (23, (.slice A l.length c)), (24, (.int .i64 (((l.length : Nat) : Int)))), (25, (.int .i64 (((j : Nat) : Int)))), (5, (.slice A' j (c')))]) (fun x_ w' => match x_ with | (j, A', c', rows, F) => (j ≤ l.length) ∧ Hp (fun _ => False) w w' [rowR 30 8 A' j (c') rows, elR k30 0 F (l.take j) rows]) (fun x_ => match x_ with | (j, A', c', rows, F) => l.length - j) (0, (some (⟨g1, 0, none⟩)), 0, [], (fun _ => False)) ⟨(by first | rfl | kernel_rfl), (by first | rfl | kernel_rfl), (by first | rfl | kernel_rfl), (by first | rfl | kernel_rfl), (by first | rfl | kernel_rfl), (by first | rfl | kernel_rfl), trivial⟩ ⟨(by omega), H4.sel [1, 0] (by decide)⟩ ?_
  rintro L1 ⟨j, A', c', rows, F⟩ w3 ⟨hj, H5⟩
  change Code.wp _ _ _ (Fr _ _ [(0, (.slice A l.length c)), (1, (.int .i64 slot)), (23, (.slice A l.length c)), (24, (.int .i64 (((l.length : Nat) : Int)))), (25, (.int .i64 (((j : Nat) : Int)))), (5, (.slice A' j (c')))]) _
  rcases Nat.lt_or_ge j l.length with hlt | hge
  · skip
    obtain ⟨ad, rfl⟩ := C_some hC (by omega) z30
    obtain ⟨x, A4, c4, A5, c5, A6, c6, A7, c7, hx, hxA, l4, g4, l5, g5, l6, g6, l7, g7⟩ := elem30 hC j hlt
    refine wp_seq ?_
    refine k_list ?_
    refine l_cons (ev_eq (v := (.bool (decide ((((j : Nat) : Int) : Int) < ((l.length : Nat) : Int))))) (v' := (.bool true)) (w1 := w3) rfl rfl (by kernel_rfl) (bt (by first | assumption | omega)) ?_)
    refine l_nil ?_
    refine n_then ?_
    refine wp_seq ?_
    refine k_true (by kernel_rfl) ?_
    refine wp_skip ?_
    refine n_then ?_
    refine wp_seq ?_
    refine wp_block ?_
    refine wp_seq ?_
    refine k_list ?_
    refine l_cons (ev_run (v := (.pointer (some ((ad).add (j * 8))))) (w1 := w3) rfl rfl (run_ixa (sz := 8) (q := j) (ad := ad) (len := l.length) (cap := c) (k := .i64) (z := ((j : Nat) : Int)) rfl (by kernel_rfl) (by kernel_rfl) rfl (by kernel_rfl) (by first | rfl | omega) (by first | omega | decide)) ?_)
    refine l_cons (ev_run (v := (.agg #[(.int .i64 x.f0.f0), (.int .i64 x.f0.f1), (.int .i64 x.f1), (.int .i64 x.f2), (.slice A4 x.f3.length c4), (.slice A5 x.f4.length c5), (.slice A6 x.f5.length c6), (.slice A7 x.f6.length c7)])) (w1 := w3) rfl rfl (run_ld rfl (by kernel_rfl) (At.hp hxA H5 (fun h => h)) (by kernel_rfl)) ?_)
    refine l_cons (ev_new (cs := [(.int .i64 0), (.int .i64 0), (.int .i64 0), (.int .i64 0), (.slice none 0 0), (.slice none 0 0), (.slice none 0 0), (.slice none 0 0)]) (t := 30) rfl rfl H5 (by kernel_rfl) ?_)
    intro g2 w4 H6 hg2 hbw4
    refine l_cons (ev_store (i := 0) rfl rfl rfl H6 (k := 0) rfl (by kernel_rfl) (.agg #[(.int .i64 x.f0.f0), (.int .i64 x.f0.f1), (.int .i64 x.f1), (.int .i64 x.f2), (.slice A4 x.f3.length c4), (.slice A5 x.f4.length c5), (.slice A6 x.f5.length c6), (.slice A7 x.f6.length c7)]) (by kernel_rfl) [(.int .i64 x.f0.f0), (.int .i64 x.f0.f1), (.int .i64 x.f1), (.int .i64 x.f2), (.slice A4 x.f3.length c4), (.slice A5 x.f4.length c5), (.slice A6 x.f5.length c6), (.slice A7 x.f6.length c7)] (by kernel_rfl) (by kernel_rfl) (by kernel_rfl) (by kernel_rfl) [(.int .i64 x.f0.f0), (.int .i64 x.f0.f1), (.int .i64 x.f1), (.int .i64 x.f2), (.slice A4 x.f3.length c4), (.slice A5 x.f4.length c5), (.slice A6 x.f5.length c6), (.slice A7 x.f6.length c7)] (by kernel_rfl) ?_)
    intro w5 H7 hcw5
    refine l_nil ?_
    refine n_then ?_
    refine k_list ?_
    refine l_cons (ev_run (v := (.slice A' j (c'))) (w1 := w5) rfl rfl (by kernel_rfl) ?_)
    refine l_cons (ev_run (v := (.agg #[(.int .i64 x.f0.f0), (.int .i64 x.f0.f1), (.int .i64 x.f1), (.int .i64 x.f2), (.slice A4 x.f3.length c4), (.slice A5 x.f4.length c5), (.slice A6 x.f5.length c6), (.slice A7 x.f6.length c7)])) (w1 := w5) rfl rfl (run_ld rfl (by kernel_rfl) (At.blk (H7.get 0 rfl) 0) (by kernel_rfl)) ?_)
    refine l_cons (ev_call rfl rfl (f := 6) (args := #[(.agg #[(.int .i64 x.f0.f0), (.int .i64 x.f0.f1), (.int .i64 x.f1), (.int .i64 x.f2), (.slice A4 x.f3.length c4), (.slice A5 x.f4.length c5), (.slice A6 x.f5.length c6), (.slice A7 x.f6.length c7)])]) (by kernel_rfl) (copyrep_c x _ ⟨l4, C_to g4 H7, l5, C_to g5 H7, l6, C_to g6 H7, l7, C_to g7 H7⟩ (hok x (by rw [hx]; exact getD_mem hlt))) ?_)
    rintro e w6 ⟨B4q1, d4q1, B5q1, d5q1, B6q1, d6q1, B7q1, d7q1, rfl, hH_⟩
    refine ⟨_, rfl, ?_⟩
    have H8 := H7.join hH_
    have hb_ := hH_.to_below
    refine l_cons (ev_newRow (cs := [(.int .i64 x.f0.f0), (.int .i64 x.f0.f1), (.int .i64 x.f1), (.int .i64 x.f2), (.slice B4q1 x.f3.length d4q1), (.slice B5q1 x.f4.length d5q1), (.slice B6q1 x.f5.length d6q1), (.slice B7q1 x.f6.length d7q1)]) (t := 30) (len := 1) rfl rfl H8 (by kernel_rfl) ?_)
    intro g3 w7 H9 hg3 hbw7
    refine l_cons (ev_append (e := 30) (sz := 8) (z := (.agg #[(.int .i64 0), (.int .i64 0), (.int .i64 0), (.int .i64 0), (.slice none 0 0), (.slice none 0 0), (.slice none 0 0), (.slice none 0 0)])) (bytes := 128) 3 (A := A') (m0 := j) (c := (c')) (rows := rows) ([[(.int .i64 x.f0.f0), (.int .i64 x.f0.f1), (.int .i64 x.f1), (.int .i64 x.f2), (.slice B4q1 x.f3.length d4q1), (.slice B5q1 x.f4.length d5q1), (.slice B6q1 x.f5.length d6q1), (.slice B7q1 x.f6.length d7q1)]] : List (List Value)) (some (⟨g3, 0, none⟩)) 1 1 rfl rfl rfl Try.underlying22 (by kernel_rfl) rfl rfl rfl H9 rfl (by kernel_rfl) (by kernel_rfl) (by first | rfl | (simp; done) | assumption | omega) (fun j row hj => read_blk (H9.get 0 rfl) ([[(.int .i64 x.f0.f0), (.int .i64 x.f0.f1), (.int .i64 x.f1), (.int .i64 x.f2), (.slice B4q1 x.f3.length d4q1), (.slice B5q1 x.f4.length d5q1), (.slice B6q1 x.f5.length d6q1), (.slice B7q1 x.f6.length d7q1)]] : List (List Value)) rfl (by first | rfl | kernel_rfl) j row hj) (by first | omega | (simp; omega)) (j + 1) (by first | rfl | omega) ?_)
    intro Aa1 cc1 w8 H10 hcw8
    refine l_cons (ev_run (v := (.slice Aa1 ((j + 1)) cc1)) (w1 := w8) rfl rfl (by kernel_rfl) ?_)
    refine l_nil ?_
    refine n_in ?_
    refine n_then ?_
    refine k_list ?_
    refine l_cons (ev_eq (v := (.int .i64 (IntKind.i64.wrap (((j : Nat) : Int) + 1)))) (v' := (.int .i64 ((((j : Nat) : Int) + 1)))) (w1 := w8) rfl rfl (by kernel_rfl) (wr64 (by omega) (by omega)) ?_)
    refine l_cons (ev_run (v := (.int .i64 ((((j : Nat) : Int) + 1)))) (w1 := w8) rfl rfl (by kernel_rfl) ?_)
    refine l_nil ?_
    refine n_then ?_
    have hrl := (rowR_len (H10.get 3 rfl)).1
    have H11 := (H10.sel [4, 1, 3] (by decide)).elsnoc (by rw [List.length_take]; simp at hrl; omega)
    rw [show l.take j ++ [x] = l.take (j + 1) by rw [hx, take_getD l j z30 hlt]] at H11
    exact k_round (j + 1, Aa1, cc1, rows ++ ([[(.int .i64 x.f0.f0), (.int .i64 x.f0.f1), (.int .i64 x.f1), (.int .i64 x.f2), (.slice B4q1 x.f3.length d4q1), (.slice B5q1 x.f4.length d5q1), (.slice B6q1 x.f5.length d6q1), (.slice B7q1 x.f6.length d7q1)]] : List (List Value)), _) ⟨(by first | rfl | kernel_rfl), (by first | rfl | kernel_rfl), (by first | rfl | kernel_rfl), (by first | rfl | kernel_rfl), (by first | rfl | kernel_rfl), (by first | rfl | kernel_rfl), trivial⟩ ⟨(by omega), H11.sel [1, 0] (by decide)⟩ (by first | omega | (simp; omega))
  · skip
    obtain rfl : j = l.length := by omega
    refine wp_seq ?_
    refine k_list ?_
    refine l_cons (ev_eq (v := (.bool (decide ((((l.length : Nat) : Int) : Int) < ((l.length : Nat) : Int))))) (v' := (.bool false)) (w1 := w3) rfl rfl (by kernel_rfl) (bf (by first | assumption | omega)) ?_)
    refine l_nil ?_
    refine n_then ?_
    refine wp_seq ?_
    refine k_false (by kernel_rfl) ?_
    refine wp_exit ?_
    refine e_then ?_
    refine e_then ?_
    refine e_in ?_
    refine n_then ?_
    refine wp_seq ?_
    refine k_list ?_
    refine l_cons (ev_run (v := (.int .i64 slot)) (w1 := w3) rfl rfl (by kernel_rfl) ?_)
    refine l_cons (ev_run (v := (.slice A' l.length (c'))) (w1 := w3) rfl rfl (by kernel_rfl) ?_)
    have hrow_ : (rowR 30 8 A' l.length c' rows).ok w3 := H5.get 0 rfl
    have hels_ : (elR k30 0 F l rows).ok w3 := by have h := H5.get 1 rfl; rw [List.take_of_length_le hge] at h; exact h
    have hCo_ : Kd.C k30 w3 A' l.length l := C_of_row hrow_ rfl (fun j x c hx hc => elR_fk hels_ j (Nat.zero_le _) x c hx hc)
    refine l_cons (ev_call rfl rfl (f := 12) (args := #[(.int .i64 slot), (.slice A' l.length (c'))]) (by kernel_rfl) (pick_c slot A' c' l _ hCo_ (LOk_of hok)) ?_)
    rintro e w9 ⟨Ap2, cp2, Ap3, cp3, rfl, hH_⟩
    refine ⟨_, rfl, ?_⟩
    have H12 := H5.join hH_
    have hb_ := hH_.to_below
    refine l_cons (ev_new (cs := [(.int .i64 0), (.int .i64 0), (.slice none 0 0), (.slice none 0 0)]) (t := 36) rfl rfl H12 (by kernel_rfl) ?_)
    intro g4 w10 H13 hg4 hbw10
    refine l_cons (ev_store (i := 0) rfl rfl rfl H13 (k := 0) rfl (by kernel_rfl) (.agg #[(.int .i64 ((pickOf slot l).f0)), (.int .i64 ((pickOf slot l).f1)), (.slice Ap2 ((pickOf slot l).f2.length) cp2), (.slice Ap3 ((pickOf slot l).f3.length) cp3)]) (by kernel_rfl) [(.int .i64 ((pickOf slot l).f0)), (.int .i64 ((pickOf slot l).f1)), (.slice Ap2 ((pickOf slot l).f2.length) cp2), (.slice Ap3 ((pickOf slot l).f3.length) cp3)] (by kernel_rfl) (by kernel_rfl) (by kernel_rfl) (by kernel_rfl) [(.int .i64 ((pickOf slot l).f0)), (.int .i64 ((pickOf slot l).f1)), (.slice Ap2 ((pickOf slot l).f2.length) cp2), (.slice Ap3 ((pickOf slot l).f3.length) cp3)] (by kernel_rfl) ?_)
    intro w11 H14 hcw11
    refine l_nil ?_
    refine n_then ?_
    refine wp_seq ?_
    refine k_list ?_
    refine l_cons (ev_run (v := (.bool false)) (w1 := w11) rfl rfl (by kernel_rfl) ?_)
    refine l_cons (ev_run (v := (.bool false)) (w1 := w11) rfl rfl (by kernel_rfl) ?_)
    refine l_nil ?_
    refine n_then ?_
    refine wp_seq ?_
    refine wp_seq ?_
    refine k_list ?_
    refine l_cons (ev_run (v := (.slice A l.length c)) (w1 := w11) rfl rfl (by kernel_rfl) ?_)
    refine l_cons (ev_run (v := (.int .i64 (((l.length : Nat) : Int)))) (w1 := w11) rfl rfl (by kernel_rfl) ?_)
    refine l_cons (ev_run (v := (.int .i64 0)) (w1 := w11) rfl rfl (by kernel_rfl) ?_)
    refine l_nil ?_
    refine n_then ?_
    refine wp_block ?_
    refine k_loop (σ := Nat × Bool × Bool) (fun x_ => match x_ with | (a, fd, an) => [(0, (.slice A l.length c)), (1, (.int .i64 slot)), (8, (.pointer (some (⟨g4, 0, none⟩)))), (9, (.bool fd)), (10, (.bool an)), (38, (.slice A l.length c)), (39, (.int .i64 (((l.length : Nat) : Int)))), (40, (.int .i64 (((a : Nat) : Int))))]) (fun x_ w' => match x_ with | (a, fd, an) => (a ≤ l.length) ∧ (fd = fdOf slot l (pickOf slot l) (l.take a)) ∧ (an = anOf slot (l.take a)) ∧ Hp (fun _ => False) w w' [blk g4 [(.int .i64 ((pickOf slot l).f0)), (.int .i64 ((pickOf slot l).f1)), (.slice Ap2 ((pickOf slot l).f2.length) cp2), (.slice Ap3 ((pickOf slot l).f3.length) cp3)] 36, rowR 5 1 Ap2 ((pickOf slot l).f2.length) cp2 (bts (pickOf slot l).f2), rowR 5 1 Ap3 ((pickOf slot l).f3.length) cp3 (bts (pickOf slot l).f3)]) (fun x_ => match x_ with | (a, fd, an) => l.length - a) (0, false, false) ⟨(by first | rfl | kernel_rfl), (by first | rfl | kernel_rfl), (by first | rfl | kernel_rfl), (by first | rfl | kernel_rfl), (by first | rfl | kernel_rfl), (by first | rfl | kernel_rfl), (by first | rfl | kernel_rfl), (by first | rfl | kernel_rfl), trivial⟩ ⟨(by omega), rfl, rfl, H14.sel [0, 1, 2] (by decide)⟩ ?_
    rintro L2 ⟨a, fd, an⟩ w12 ⟨ha, hfd, han, H15⟩
    change Code.wp _ _ _ (Fr _ _ [(0, (.slice A l.length c)), (1, (.int .i64 slot)), (8, (.pointer (some (⟨g4, 0, none⟩)))), (9, (.bool fd)), (10, (.bool an)), (38, (.slice A l.length c)), (39, (.int .i64 (((l.length : Nat) : Int)))), (40, (.int .i64 (((a : Nat) : Int))))]) _
    rcases cases3b a l.length an with hlt | ⟨hge, rfl⟩ | ⟨hge, rfl⟩
    · skip
      obtain ⟨ad, rfl⟩ := C_some hC (by omega) z30
      obtain ⟨r, Ar4, cr4, Ar5, cr5, Ar6, cr6, Ar7, cr7, hr, hrA, lr4, gr4, lr5, gr5, lr6, gr6, lr7, gr7⟩ := elem30 hC a hlt
      refine wp_seq ?_
      refine k_list ?_
      refine l_cons (ev_eq (v := (.bool (decide ((((a : Nat) : Int) : Int) < ((l.length : Nat) : Int))))) (v' := (.bool true)) (w1 := w12) rfl rfl (by kernel_rfl) (bt (by first | assumption | omega)) ?_)
      refine l_nil ?_
      refine n_then ?_
      refine wp_seq ?_
      refine k_true (by kernel_rfl) ?_
      refine wp_skip ?_
      refine n_then ?_
      refine wp_seq ?_
      refine wp_block ?_
      refine wp_seq ?_
      refine k_list ?_
      refine l_cons (ev_run (v := (.pointer (some ((ad).add (a * 8))))) (w1 := w12) rfl rfl (run_ixa (sz := 8) (q := a) (ad := ad) (len := l.length) (cap := c) (k := .i64) (z := ((a : Nat) : Int)) rfl (by kernel_rfl) (by kernel_rfl) rfl (by kernel_rfl) (by first | rfl | omega) (by first | omega | decide)) ?_)
      refine l_cons (ev_run (v := (.agg #[(.int .i64 r.f0.f0), (.int .i64 r.f0.f1), (.int .i64 r.f1), (.int .i64 r.f2), (.slice Ar4 r.f3.length cr4), (.slice Ar5 r.f4.length cr5), (.slice Ar6 r.f5.length cr6), (.slice Ar7 r.f6.length cr7)])) (w1 := w12) rfl rfl (run_ld rfl (by kernel_rfl) (At.hp hrA H15 (fun h => h)) (by kernel_rfl)) ?_)
      refine l_cons (ev_new (cs := [(.int .i64 0), (.int .i64 0), (.int .i64 0), (.int .i64 0), (.slice none 0 0), (.slice none 0 0), (.slice none 0 0), (.slice none 0 0)]) (t := 30) rfl rfl H15 (by kernel_rfl) ?_)
      intro g5 w13 H16 hg5 hbw13
      refine l_cons (ev_store (i := 0) rfl rfl rfl H16 (k := 0) rfl (by kernel_rfl) (.agg #[(.int .i64 r.f0.f0), (.int .i64 r.f0.f1), (.int .i64 r.f1), (.int .i64 r.f2), (.slice Ar4 r.f3.length cr4), (.slice Ar5 r.f4.length cr5), (.slice Ar6 r.f5.length cr6), (.slice Ar7 r.f6.length cr7)]) (by kernel_rfl) [(.int .i64 r.f0.f0), (.int .i64 r.f0.f1), (.int .i64 r.f1), (.int .i64 r.f2), (.slice Ar4 r.f3.length cr4), (.slice Ar5 r.f4.length cr5), (.slice Ar6 r.f5.length cr6), (.slice Ar7 r.f6.length cr7)] (by kernel_rfl) (by kernel_rfl) (by kernel_rfl) (by kernel_rfl) [(.int .i64 r.f0.f0), (.int .i64 r.f0.f1), (.int .i64 r.f1), (.int .i64 r.f2), (.slice Ar4 r.f3.length cr4), (.slice Ar5 r.f4.length cr5), (.slice Ar6 r.f5.length cr6), (.slice Ar7 r.f6.length cr7)] (by kernel_rfl) ?_)
      intro w14 H17 hcw14
      refine l_nil ?_
      refine n_then ?_
      refine wp_seq ?_
      refine k_list ?_
      refine l_cons (ev_run (v := (.pointer (some (⟨g5, 6, none⟩)))) (w1 := w14) rfl rfl (by kernel_rfl) ?_)
      refine l_cons (ev_run (v := (.slice Ar6 r.f5.length cr6)) (w1 := w14) rfl rfl (run_ld rfl (by kernel_rfl) (At.blk (H17.get 0 rfl) 6) (by kernel_rfl)) ?_)
      refine l_cons (ev_run (v := (.int .i64 (((r.f5.length : Nat) : Int)))) (w1 := w14) rfl rfl (by kernel_rfl) ?_)
      refine l_cons (ev_run (v := (.int .i64 0)) (w1 := w14) rfl rfl (by kernel_rfl) ?_)
      refine l_nil ?_
      refine n_then ?_
      refine wp_block ?_
      refine k_loop (σ := Nat × Bool × Bool) (fun x_ => match x_ with | (b, fd1, an1) => [(0, (.slice (some (ad)) l.length c)), (1, (.int .i64 slot)), (8, (.pointer (some (⟨g4, 0, none⟩)))), (9, (.bool fd1)), (10, (.bool an1)), (38, (.slice (some (ad)) l.length c)), (39, (.int .i64 (((l.length : Nat) : Int)))), (40, (.int .i64 (((a : Nat) : Int)))), (45, (.slice Ar6 r.f5.length cr6)), (46, (.int .i64 (((r.f5.length : Nat) : Int)))), (47, (.int .i64 (((b : Nat) : Int))))]) (fun x_ w' => match x_ with | (b, fd1, an1) => (b ≤ r.f5.length) ∧ (fd1 = (r.f5.take b).foldl (fdStep slot l (pickOf slot l)) fd) ∧ (an1 = (r.f5.take b).foldl (anStep slot) an) ∧ Hp (fun _ => False) w w' [blk g4 [(.int .i64 ((pickOf slot l).f0)), (.int .i64 ((pickOf slot l).f1)), (.slice Ap2 ((pickOf slot l).f2.length) cp2), (.slice Ap3 ((pickOf slot l).f3.length) cp3)] 36, rowR 5 1 Ap2 ((pickOf slot l).f2.length) cp2 (bts (pickOf slot l).f2), rowR 5 1 Ap3 ((pickOf slot l).f3.length) cp3 (bts (pickOf slot l).f3)]) (fun x_ => match x_ with | (b, fd1, an1) => r.f5.length - b) (0, fd, an) ⟨(by first | rfl | kernel_rfl), (by first | rfl | kernel_rfl), (by first | rfl | kernel_rfl), (by first | rfl | kernel_rfl), (by first | rfl | kernel_rfl), (by first | rfl | kernel_rfl), (by first | rfl | kernel_rfl), (by first | rfl | kernel_rfl), (by first | rfl | kernel_rfl), (by first | rfl | kernel_rfl), (by first | rfl | kernel_rfl), trivial⟩ ⟨(by omega), rfl, rfl, H17.sel [1, 2, 3] (by decide)⟩ ?_
      rintro L3 ⟨b, fd1, an1⟩ w15 ⟨hb0, hfd1, han1, H18⟩
      change Code.wp _ _ _ (Fr _ _ [(0, (.slice (some (ad)) l.length c)), (1, (.int .i64 slot)), (8, (.pointer (some (⟨g4, 0, none⟩)))), (9, (.bool fd1)), (10, (.bool an1)), (38, (.slice (some (ad)) l.length c)), (39, (.int .i64 (((l.length : Nat) : Int)))), (40, (.int .i64 (((a : Nat) : Int)))), (45, (.slice Ar6 r.f5.length cr6)), (46, (.int .i64 (((r.f5.length : Nat) : Int)))), (47, (.int .i64 (((b : Nat) : Int))))]) _
      have m6 := C_len gr6
      rcases Nat.lt_or_ge b r.f5.length with hlt2 | hge2
      · skip
        obtain ⟨adr, rfl⟩ := C_some gr6 (by omega) z45
        obtain ⟨p, Ap5, cp5, Ap6, cp6, Ap7, cp7, hp, hpA, lp5, gp5, lp6, gp6, lp7, gp7⟩ := elem45 gr6 b hlt2
        refine wp_seq ?_
        refine k_list ?_
        refine l_cons (ev_eq (v := (.bool (decide ((((b : Nat) : Int) : Int) < ((r.f5.length : Nat) : Int))))) (v' := (.bool true)) (w1 := w15) rfl rfl (by kernel_rfl) (bt (by first | assumption | omega)) ?_)
        refine l_nil ?_
        refine n_then ?_
        refine wp_seq ?_
        refine k_true (by kernel_rfl) ?_
        refine wp_skip ?_
        refine n_then ?_
        refine wp_seq ?_
        refine wp_block ?_
        refine wp_seq ?_
        refine k_list ?_
        refine l_cons (ev_run (v := (.pointer (some ((adr).add (b * 8))))) (w1 := w15) rfl rfl (run_ixa (sz := 8) (q := b) (ad := adr) (len := r.f5.length) (cap := cr6) (k := .i64) (z := ((b : Nat) : Int)) rfl (by kernel_rfl) (by kernel_rfl) rfl (by kernel_rfl) (by first | rfl | omega) (by first | omega | decide)) ?_)
        refine l_cons (ev_run (v := (.agg #[(.int .i64 p.f0), (.int .i64 p.f1.f0), (.int .i64 p.f1.f1), (.int .i64 p.f2.f0), (.int .i64 p.f2.f1), (.slice Ap5 p.f2.f2.length cp5), (.slice Ap6 p.f2.f3.length cp6), (.slice Ap7 p.f3.length cp7)])) (w1 := w15) rfl rfl (run_ld rfl (by kernel_rfl) (At.hp hpA H18 (fun h => h)) (by kernel_rfl)) ?_)
        refine l_cons (ev_new (cs := [(.int .i64 0), (.int .i64 0), (.int .i64 0), (.int .i64 0), (.int .i64 0), (.slice none 0 0), (.slice none 0 0), (.slice none 0 0)]) (t := 45) rfl rfl H18 (by kernel_rfl) ?_)
        intro g6 w16 H19 hg6 hbw16
        refine l_cons (ev_store (i := 0) rfl rfl rfl H19 (k := 0) rfl (by kernel_rfl) (.agg #[(.int .i64 p.f0), (.int .i64 p.f1.f0), (.int .i64 p.f1.f1), (.int .i64 p.f2.f0), (.int .i64 p.f2.f1), (.slice Ap5 p.f2.f2.length cp5), (.slice Ap6 p.f2.f3.length cp6), (.slice Ap7 p.f3.length cp7)]) (by kernel_rfl) [(.int .i64 p.f0), (.int .i64 p.f1.f0), (.int .i64 p.f1.f1), (.int .i64 p.f2.f0), (.int .i64 p.f2.f1), (.slice Ap5 p.f2.f2.length cp5), (.slice Ap6 p.f2.f3.length cp6), (.slice Ap7 p.f3.length cp7)] (by kernel_rfl) (by kernel_rfl) (by kernel_rfl) (by kernel_rfl) [(.int .i64 p.f0), (.int .i64 p.f1.f0), (.int .i64 p.f1.f1), (.int .i64 p.f2.f0), (.int .i64 p.f2.f1), (.slice Ap5 p.f2.f2.length cp5), (.slice Ap6 p.f2.f3.length cp6), (.slice Ap7 p.f3.length cp7)] (by kernel_rfl) ?_)
        intro w17 H20 hcw17
        refine l_nil ?_
        refine n_then ?_
        refine wp_seq ?_
        refine wp_seq ?_
        refine k_list ?_
        refine l_cons (ev_run (v := (.pointer (some (⟨g6, 0, none⟩)))) (w1 := w17) rfl rfl (by kernel_rfl) ?_)
        refine l_cons (ev_run (v := (.int .i64 p.f0)) (w1 := w17) rfl rfl (run_ld rfl (by kernel_rfl) (At.blk (H20.get 0 rfl) 0) (by kernel_rfl)) ?_)
        refine l_cons (ev_run (v := (.int .i64 slot)) (w1 := w17) rfl rfl (by kernel_rfl) ?_)
        by_cases hc1 : (p.f0 : Int) = slot
        · skip
          refine l_cons (ev_eq (v := (.bool ((p.f0 : Int) != slot))) (v' := (.bool false)) (w1 := w17) rfl rfl (by kernel_rfl) (bnef (by first | assumption | omega)) ?_)
          refine l_nil ?_
          refine n_then ?_
          refine k_false (by kernel_rfl) ?_
          refine wp_skip ?_
          refine n_then ?_
          refine wp_seq ?_
          refine k_list ?_
          refine l_cons (ev_run (v := (.bool true)) (w1 := w17) rfl rfl (by kernel_rfl) ?_)
          refine l_nil ?_
          refine n_then ?_
          refine wp_seq ?_
          refine k_list ?_
          refine l_cons (ev_run (v := (.bool true)) (w1 := w17) rfl rfl (by kernel_rfl) ?_)
          refine l_nil ?_
          refine n_then ?_
          refine wp_seq ?_
          refine wp_seq ?_
          refine k_list ?_
          refine l_cons (ev_run (v := (.slice (some (ad)) l.length c)) (w1 := w17) rfl rfl (by kernel_rfl) ?_)
          refine l_cons (ev_run (v := (.int .i64 (((l.length : Nat) : Int)))) (w1 := w17) rfl rfl (by kernel_rfl) ?_)
          refine l_cons (ev_run (v := (.int .i64 0)) (w1 := w17) rfl rfl (by kernel_rfl) ?_)
          refine l_nil ?_
          refine n_then ?_
          refine wp_block ?_
          refine k_loop (σ := Nat × Bool) (fun x_ => match x_ with | (m, hi) => [(0, (.slice (some (ad)) l.length c)), (1, (.int .i64 slot)), (8, (.pointer (some (⟨g4, 0, none⟩)))), (9, (.bool fd1)), (10, (.bool true)), (38, (.slice (some (ad)) l.length c)), (39, (.int .i64 (((l.length : Nat) : Int)))), (40, (.int .i64 (((a : Nat) : Int)))), (45, (.slice (some (adr)) r.f5.length cr6)), (46, (.int .i64 (((r.f5.length : Nat) : Int)))), (47, (.int .i64 (((b : Nat) : Int)))), (14, (.pointer (some (⟨g6, 0, none⟩)))), (15, (.bool hi)), (55, (.slice (some (ad)) l.length c)), (56, (.int .i64 (((l.length : Nat) : Int)))), (57, (.int .i64 (((m : Nat) : Int))))]) (fun x_ w' => match x_ with | (m, hi) => (m ≤ l.length) ∧ (hi = (l.take m).all (fun s => s.f5.all (nb slot p))) ∧ Hp (fun _ => False) w w' [blk g4 [(.int .i64 ((pickOf slot l).f0)), (.int .i64 ((pickOf slot l).f1)), (.slice Ap2 ((pickOf slot l).f2.length) cp2), (.slice Ap3 ((pickOf slot l).f3.length) cp3)] 36, rowR 5 1 Ap2 ((pickOf slot l).f2.length) cp2 (bts (pickOf slot l).f2), rowR 5 1 Ap3 ((pickOf slot l).f3.length) cp3 (bts (pickOf slot l).f3), blk g6 [(.int .i64 p.f0), (.int .i64 p.f1.f0), (.int .i64 p.f1.f1), (.int .i64 p.f2.f0), (.int .i64 p.f2.f1), (.slice Ap5 p.f2.f2.length cp5), (.slice Ap6 p.f2.f3.length cp6), (.slice Ap7 p.f3.length cp7)] 45]) (fun x_ => match x_ with | (m, hi) => l.length - m) (0, true) ⟨(by first | rfl | kernel_rfl), (by first | rfl | kernel_rfl), (by first | rfl | kernel_rfl), (by first | rfl | kernel_rfl), (by first | rfl | kernel_rfl), (by first | rfl | kernel_rfl), (by first | rfl | kernel_rfl), (by first | rfl | kernel_rfl), (by first | rfl | kernel_rfl), (by first | rfl | kernel_rfl), (by first | rfl | kernel_rfl), (by first | rfl | kernel_rfl), (by first | rfl | kernel_rfl), (by first | rfl | kernel_rfl), (by first | rfl | kernel_rfl), (by first | rfl | kernel_rfl), trivial⟩ ⟨(by omega), (by simp), H20.sel [1, 2, 3, 0] (by decide)⟩ ?_
          rintro L4 ⟨m, hi⟩ w18 ⟨hm0, hhi, H21⟩
          change Code.wp _ _ _ (Fr _ _ [(0, (.slice (some (ad)) l.length c)), (1, (.int .i64 slot)), (8, (.pointer (some (⟨g4, 0, none⟩)))), (9, (.bool fd1)), (10, (.bool true)), (38, (.slice (some (ad)) l.length c)), (39, (.int .i64 (((l.length : Nat) : Int)))), (40, (.int .i64 (((a : Nat) : Int)))), (45, (.slice (some (adr)) r.f5.length cr6)), (46, (.int .i64 (((r.f5.length : Nat) : Int)))), (47, (.int .i64 (((b : Nat) : Int)))), (14, (.pointer (some (⟨g6, 0, none⟩)))), (15, (.bool hi)), (55, (.slice (some (ad)) l.length c)), (56, (.int .i64 (((l.length : Nat) : Int)))), (57, (.int .i64 (((m : Nat) : Int))))]) _
          rcases cases5 m l.length hi fd1 with hlt3 | ⟨hge3, rfl⟩ | ⟨hge3, rfl, rfl⟩ | ⟨hge3, rfl, rfl⟩
          · skip
            obtain ⟨s, As4, cs4, As5, cs5, As6, cs6, As7, cs7, hs, hsA, ls4, gs4, ls5, gs5, ls6, gs6, ls7, gs7⟩ := elem30 hC m hlt3
            refine wp_seq ?_
            refine k_list ?_
            refine l_cons (ev_eq (v := (.bool (decide ((((m : Nat) : Int) : Int) < ((l.length : Nat) : Int))))) (v' := (.bool true)) (w1 := w18) rfl rfl (by kernel_rfl) (bt (by first | assumption | omega)) ?_)
            refine l_nil ?_
            refine n_then ?_
            refine wp_seq ?_
            refine k_true (by kernel_rfl) ?_
            refine wp_skip ?_
            refine n_then ?_
            refine wp_seq ?_
            refine wp_block ?_
            refine wp_seq ?_
            refine k_list ?_
            refine l_cons (ev_run (v := (.pointer (some ((ad).add (m * 8))))) (w1 := w18) rfl rfl (run_ixa (sz := 8) (q := m) (ad := ad) (len := l.length) (cap := c) (k := .i64) (z := ((m : Nat) : Int)) rfl (by kernel_rfl) (by kernel_rfl) rfl (by kernel_rfl) (by first | rfl | omega) (by first | omega | decide)) ?_)
            refine l_cons (ev_run (v := (.agg #[(.int .i64 s.f0.f0), (.int .i64 s.f0.f1), (.int .i64 s.f1), (.int .i64 s.f2), (.slice As4 s.f3.length cs4), (.slice As5 s.f4.length cs5), (.slice As6 s.f5.length cs6), (.slice As7 s.f6.length cs7)])) (w1 := w18) rfl rfl (run_ld rfl (by kernel_rfl) (At.hp hsA H21 (fun h => h)) (by kernel_rfl)) ?_)
            refine l_cons (ev_new (cs := [(.int .i64 0), (.int .i64 0), (.int .i64 0), (.int .i64 0), (.slice none 0 0), (.slice none 0 0), (.slice none 0 0), (.slice none 0 0)]) (t := 30) rfl rfl H21 (by kernel_rfl) ?_)
            intro g7 w19 H22 hg7 hbw19
            refine l_cons (ev_store (i := 0) rfl rfl rfl H22 (k := 0) rfl (by kernel_rfl) (.agg #[(.int .i64 s.f0.f0), (.int .i64 s.f0.f1), (.int .i64 s.f1), (.int .i64 s.f2), (.slice As4 s.f3.length cs4), (.slice As5 s.f4.length cs5), (.slice As6 s.f5.length cs6), (.slice As7 s.f6.length cs7)]) (by kernel_rfl) [(.int .i64 s.f0.f0), (.int .i64 s.f0.f1), (.int .i64 s.f1), (.int .i64 s.f2), (.slice As4 s.f3.length cs4), (.slice As5 s.f4.length cs5), (.slice As6 s.f5.length cs6), (.slice As7 s.f6.length cs7)] (by kernel_rfl) (by kernel_rfl) (by kernel_rfl) (by kernel_rfl) [(.int .i64 s.f0.f0), (.int .i64 s.f0.f1), (.int .i64 s.f1), (.int .i64 s.f2), (.slice As4 s.f3.length cs4), (.slice As5 s.f4.length cs5), (.slice As6 s.f5.length cs6), (.slice As7 s.f6.length cs7)] (by kernel_rfl) ?_)
            intro w20 H23 hcw20
            refine l_nil ?_
            refine n_then ?_
            refine wp_seq ?_
            refine k_list ?_
            refine l_cons (ev_run (v := (.pointer (some (⟨g7, 6, none⟩)))) (w1 := w20) rfl rfl (by kernel_rfl) ?_)
            refine l_cons (ev_run (v := (.slice As6 s.f5.length cs6)) (w1 := w20) rfl rfl (run_ld rfl (by kernel_rfl) (At.blk (H23.get 0 rfl) 6) (by kernel_rfl)) ?_)
            refine l_cons (ev_run (v := (.int .i64 (((s.f5.length : Nat) : Int)))) (w1 := w20) rfl rfl (by kernel_rfl) ?_)
            refine l_cons (ev_run (v := (.int .i64 0)) (w1 := w20) rfl rfl (by kernel_rfl) ?_)
            refine l_nil ?_
            refine n_then ?_
            refine wp_block ?_
            refine k_loop (σ := Nat × Bool) (fun x_ => match x_ with | (q, hi1) => [(0, (.slice (some (ad)) l.length c)), (1, (.int .i64 slot)), (8, (.pointer (some (⟨g4, 0, none⟩)))), (9, (.bool fd1)), (10, (.bool true)), (38, (.slice (some (ad)) l.length c)), (39, (.int .i64 (((l.length : Nat) : Int)))), (40, (.int .i64 (((a : Nat) : Int)))), (45, (.slice (some (adr)) r.f5.length cr6)), (46, (.int .i64 (((r.f5.length : Nat) : Int)))), (47, (.int .i64 (((b : Nat) : Int)))), (14, (.pointer (some (⟨g6, 0, none⟩)))), (55, (.slice (some (ad)) l.length c)), (56, (.int .i64 (((l.length : Nat) : Int)))), (57, (.int .i64 (((m : Nat) : Int)))), (15, (.bool hi1)), (62, (.slice As6 s.f5.length cs6)), (63, (.int .i64 (((s.f5.length : Nat) : Int)))), (64, (.int .i64 (((q : Nat) : Int))))]) (fun x_ w' => match x_ with | (q, hi1) => (q ≤ s.f5.length) ∧ (hi1 = (hi && (s.f5.take q).all (nb slot p))) ∧ Hp (fun _ => False) w w' [blk g4 [(.int .i64 ((pickOf slot l).f0)), (.int .i64 ((pickOf slot l).f1)), (.slice Ap2 ((pickOf slot l).f2.length) cp2), (.slice Ap3 ((pickOf slot l).f3.length) cp3)] 36, rowR 5 1 Ap2 ((pickOf slot l).f2.length) cp2 (bts (pickOf slot l).f2), rowR 5 1 Ap3 ((pickOf slot l).f3.length) cp3 (bts (pickOf slot l).f3), blk g6 [(.int .i64 p.f0), (.int .i64 p.f1.f0), (.int .i64 p.f1.f1), (.int .i64 p.f2.f0), (.int .i64 p.f2.f1), (.slice Ap5 p.f2.f2.length cp5), (.slice Ap6 p.f2.f3.length cp6), (.slice Ap7 p.f3.length cp7)] 45]) (fun x_ => match x_ with | (q, hi1) => s.f5.length - q) (0, hi) ⟨(by first | rfl | kernel_rfl), (by first | rfl | kernel_rfl), (by first | rfl | kernel_rfl), (by first | rfl | kernel_rfl), (by first | rfl | kernel_rfl), (by first | rfl | kernel_rfl), (by first | rfl | kernel_rfl), (by first | rfl | kernel_rfl), (by first | rfl | kernel_rfl), (by first | rfl | kernel_rfl), (by first | rfl | kernel_rfl), (by first | rfl | kernel_rfl), (by first | rfl | kernel_rfl), (by first | rfl | kernel_rfl), (by first | rfl | kernel_rfl), (by first | rfl | kernel_rfl), (by first | rfl | kernel_rfl), (by first | rfl | kernel_rfl), (by first | rfl | kernel_rfl), trivial⟩ ⟨(by omega), (by simp), H23.sel [1, 2, 3, 4] (by decide)⟩ ?_
            rintro L5 ⟨q, hi1⟩ w21 ⟨hq0, hhi1, H24⟩
            change Code.wp _ _ _ (Fr _ _ [(0, (.slice (some (ad)) l.length c)), (1, (.int .i64 slot)), (8, (.pointer (some (⟨g4, 0, none⟩)))), (9, (.bool fd1)), (10, (.bool true)), (38, (.slice (some (ad)) l.length c)), (39, (.int .i64 (((l.length : Nat) : Int)))), (40, (.int .i64 (((a : Nat) : Int)))), (45, (.slice (some (adr)) r.f5.length cr6)), (46, (.int .i64 (((r.f5.length : Nat) : Int)))), (47, (.int .i64 (((b : Nat) : Int)))), (14, (.pointer (some (⟨g6, 0, none⟩)))), (55, (.slice (some (ad)) l.length c)), (56, (.int .i64 (((l.length : Nat) : Int)))), (57, (.int .i64 (((m : Nat) : Int)))), (15, (.bool hi1)), (62, (.slice As6 s.f5.length cs6)), (63, (.int .i64 (((s.f5.length : Nat) : Int)))), (64, (.int .i64 (((q : Nat) : Int))))]) _
            have m6 := C_len gs6
            rcases Nat.lt_or_ge q s.f5.length with hlt4 | hge4
            · skip
              obtain ⟨ads, rfl⟩ := C_some gs6 (by omega) z45
              obtain ⟨y, Ay5, cy5, Ay6, cy6, Ay7, cy7, hy, hyA, ly5, gy5, ly6, gy6, ly7, gy7⟩ := elem45 gs6 q hlt4
              refine wp_seq ?_
              refine k_list ?_
              refine l_cons (ev_eq (v := (.bool (decide ((((q : Nat) : Int) : Int) < ((s.f5.length : Nat) : Int))))) (v' := (.bool true)) (w1 := w21) rfl rfl (by kernel_rfl) (bt (by first | assumption | omega)) ?_)
              refine l_nil ?_
              refine n_then ?_
              refine wp_seq ?_
              refine k_true (by kernel_rfl) ?_
              refine wp_skip ?_
              refine n_then ?_
              refine wp_seq ?_
              refine wp_block ?_
              refine wp_seq ?_
              refine k_list ?_
              refine l_cons (ev_run (v := (.pointer (some ((ads).add (q * 8))))) (w1 := w21) rfl rfl (run_ixa (sz := 8) (q := q) (ad := ads) (len := s.f5.length) (cap := cs6) (k := .i64) (z := ((q : Nat) : Int)) rfl (by kernel_rfl) (by kernel_rfl) rfl (by kernel_rfl) (by first | rfl | omega) (by first | omega | decide)) ?_)
              refine l_cons (ev_run (v := (.agg #[(.int .i64 y.f0), (.int .i64 y.f1.f0), (.int .i64 y.f1.f1), (.int .i64 y.f2.f0), (.int .i64 y.f2.f1), (.slice Ay5 y.f2.f2.length cy5), (.slice Ay6 y.f2.f3.length cy6), (.slice Ay7 y.f3.length cy7)])) (w1 := w21) rfl rfl (run_ld rfl (by kernel_rfl) (At.hp hyA H24 (fun h => h)) (by kernel_rfl)) ?_)
              refine l_cons (ev_new (cs := [(.int .i64 0), (.int .i64 0), (.int .i64 0), (.int .i64 0), (.int .i64 0), (.slice none 0 0), (.slice none 0 0), (.slice none 0 0)]) (t := 45) rfl rfl H24 (by kernel_rfl) ?_)
              intro g8 w22 H25 hg8 hbw22
              refine l_cons (ev_store (i := 0) rfl rfl rfl H25 (k := 0) rfl (by kernel_rfl) (.agg #[(.int .i64 y.f0), (.int .i64 y.f1.f0), (.int .i64 y.f1.f1), (.int .i64 y.f2.f0), (.int .i64 y.f2.f1), (.slice Ay5 y.f2.f2.length cy5), (.slice Ay6 y.f2.f3.length cy6), (.slice Ay7 y.f3.length cy7)]) (by kernel_rfl) [(.int .i64 y.f0), (.int .i64 y.f1.f0), (.int .i64 y.f1.f1), (.int .i64 y.f2.f0), (.int .i64 y.f2.f1), (.slice Ay5 y.f2.f2.length cy5), (.slice Ay6 y.f2.f3.length cy6), (.slice Ay7 y.f3.length cy7)] (by kernel_rfl) (by kernel_rfl) (by kernel_rfl) (by kernel_rfl) [(.int .i64 y.f0), (.int .i64 y.f1.f0), (.int .i64 y.f1.f1), (.int .i64 y.f2.f0), (.int .i64 y.f2.f1), (.slice Ay5 y.f2.f2.length cy5), (.slice Ay6 y.f2.f3.length cy6), (.slice Ay7 y.f3.length cy7)] (by kernel_rfl) ?_)
              intro w23 H26 hcw23
              refine l_nil ?_
              refine n_then ?_
              refine wp_seq ?_
              refine k_list ?_
              refine l_cons (ev_run (v := (.pointer (some (⟨g8, 0, none⟩)))) (w1 := w23) rfl rfl (by kernel_rfl) ?_)
              refine l_cons (ev_run (v := (.int .i64 y.f0)) (w1 := w23) rfl rfl (run_ld rfl (by kernel_rfl) (At.blk (H26.get 0 rfl) 0) (by kernel_rfl)) ?_)
              refine l_cons (ev_run (v := (.int .i64 slot)) (w1 := w23) rfl rfl (by kernel_rfl) ?_)
              by_cases hc2 : (y.f0 : Int) = slot
              · skip
                refine l_cons (ev_eq (v := (.bool ((y.f0 : Int) == slot))) (v' := (.bool true)) (w1 := w23) rfl rfl (by kernel_rfl) (beqt (by first | assumption | omega)) ?_)
                refine l_cons (ev_run (v := (.bool true)) (w1 := w23) rfl rfl (by kernel_rfl) ?_)
                refine l_cons (ev_run (v := (.pointer (some (⟨g8, 1, none⟩)))) (w1 := w23) (by kernel_rfl) rfl (by kernel_rfl) ?_)
                refine l_cons (ev_run (v := (.agg #[(.int .i64 y.f1.f0), (.int .i64 y.f1.f1)])) (w1 := w23) (by kernel_rfl) rfl (run_ld rfl (by kernel_rfl) (At.blk (H26.get 0 rfl) 1) (by kernel_rfl)) ?_)
                refine l_cons (ev_run (v := (.pointer (some (⟨g6, 1, none⟩)))) (w1 := w23) (by kernel_rfl) rfl (by kernel_rfl) ?_)
                refine l_cons (ev_run (v := (.agg #[(.int .i64 p.f1.f0), (.int .i64 p.f1.f1)])) (w1 := w23) (by kernel_rfl) rfl (run_ld rfl (by kernel_rfl) (At.blk (H26.get 4 rfl) 1) (by kernel_rfl)) ?_)
                refine l_cons (ev_call (by kernel_rfl) rfl (f := 17) (args := #[(.agg #[(.int .i64 y.f1.f0), (.int .i64 y.f1.f1)]), (.agg #[(.int .i64 p.f1.f0), (.int .i64 p.f1.f1)])]) (by kernel_rfl) (compare_c y.f1 p.f1 _) ?_)
                rintro e w24 ⟨rfl, hb_⟩
                refine ⟨_, rfl, ?_⟩
                have H27 := H26.below hb_
                by_cases hc3 : (cmpB y.f1 p.f1 : Int) > 0
                · skip
                  refine l_cons (ev_eq (v := (.bool (decide ((cmpB y.f1 p.f1 : Int) > 0)))) (v' := (.bool true)) (w1 := w24) (by kernel_rfl) rfl (by kernel_rfl) (bt (by first | assumption | omega)) ?_)
                  refine l_cons (ev_run (v := (.bool true)) (w1 := w24) rfl rfl (by kernel_rfl) ?_)
                  refine l_nil ?_
                  refine n_then ?_
                  refine k_true (by kernel_rfl) ?_
                  refine k_list ?_
                  refine l_cons (ev_run (v := (.bool false)) (w1 := w24) rfl rfl (by kernel_rfl) ?_)
                  refine l_nil ?_
                  refine n_in ?_
                  refine n_then ?_
                  refine k_list ?_
                  refine l_cons (ev_eq (v := (.int .i64 (IntKind.i64.wrap (((q : Nat) : Int) + 1)))) (v' := (.int .i64 ((((q : Nat) : Int) + 1)))) (w1 := w24) rfl rfl (by kernel_rfl) (wr64 (by omega) (by omega)) ?_)
                  refine l_cons (ev_run (v := (.int .i64 ((((q : Nat) : Int) + 1)))) (w1 := w24) rfl rfl (by kernel_rfl) ?_)
                  refine l_nil ?_
                  refine n_then ?_
                  exact k_round (q + 1, false) ⟨(by first | rfl | kernel_rfl), (by first | rfl | kernel_rfl), (by first | rfl | kernel_rfl), (by first | rfl | kernel_rfl), (by first | rfl | kernel_rfl), (by first | rfl | kernel_rfl), (by first | rfl | kernel_rfl), (by first | rfl | kernel_rfl), (by first | rfl | kernel_rfl), (by first | rfl | kernel_rfl), (by first | rfl | kernel_rfl), (by first | rfl | kernel_rfl), (by first | rfl | kernel_rfl), (by first | rfl | kernel_rfl), (by first | rfl | kernel_rfl), (by first | rfl | kernel_rfl), (by first | rfl | kernel_rfl), (by first | rfl | kernel_rfl), (by first | rfl | kernel_rfl), trivial⟩ ⟨(by omega), (by rw [all_take _ _ _ hlt4 z45, ← Bool.and_assoc, ← hhi1, ← hy]; exact nb_3 hc2 hc3), H27.sel [1, 2, 3, 4] (by decide)⟩ (by first | omega | (simp; omega))
                · skip
                  refine l_cons (ev_eq (v := (.bool (decide ((cmpB y.f1 p.f1 : Int) > 0)))) (v' := (.bool false)) (w1 := w24) (by kernel_rfl) rfl (by kernel_rfl) (bf (by first | assumption | omega)) ?_)
                  refine l_cons (ev_run (v := (.bool false)) (w1 := w24) rfl rfl (by kernel_rfl) ?_)
                  refine l_nil ?_
                  refine n_then ?_
                  refine k_false (by kernel_rfl) ?_
                  refine wp_skip ?_
                  refine n_in ?_
                  refine n_then ?_
                  refine k_list ?_
                  refine l_cons (ev_eq (v := (.int .i64 (IntKind.i64.wrap (((q : Nat) : Int) + 1)))) (v' := (.int .i64 ((((q : Nat) : Int) + 1)))) (w1 := w24) rfl rfl (by kernel_rfl) (wr64 (by omega) (by omega)) ?_)
                  refine l_cons (ev_run (v := (.int .i64 ((((q : Nat) : Int) + 1)))) (w1 := w24) rfl rfl (by kernel_rfl) ?_)
                  refine l_nil ?_
                  refine n_then ?_
                  exact k_round (q + 1, hi1) ⟨(by first | rfl | kernel_rfl), (by first | rfl | kernel_rfl), (by first | rfl | kernel_rfl), (by first | rfl | kernel_rfl), (by first | rfl | kernel_rfl), (by first | rfl | kernel_rfl), (by first | rfl | kernel_rfl), (by first | rfl | kernel_rfl), (by first | rfl | kernel_rfl), (by first | rfl | kernel_rfl), (by first | rfl | kernel_rfl), (by first | rfl | kernel_rfl), (by first | rfl | kernel_rfl), (by first | rfl | kernel_rfl), (by first | rfl | kernel_rfl), (by first | rfl | kernel_rfl), (by first | rfl | kernel_rfl), (by first | rfl | kernel_rfl), (by first | rfl | kernel_rfl), trivial⟩ ⟨(by omega), (by rw [all_take _ _ _ hlt4 z45, ← Bool.and_assoc, ← hhi1, ← hy]; exact nb_2 hc3), H27.sel [1, 2, 3, 4] (by decide)⟩ (by first | omega | (simp; omega))
              · skip
                refine l_cons (ev_eq (v := (.bool ((y.f0 : Int) == slot))) (v' := (.bool false)) (w1 := w23) rfl rfl (by kernel_rfl) (beqf (by first | assumption | omega)) ?_)
                refine l_cons (ev_run (v := (.bool false)) (w1 := w23) rfl rfl (by kernel_rfl) ?_)
                refine l_cons (ev_skip (by kernel_rfl) rfl ?_)
                refine l_cons (ev_skip (by kernel_rfl) rfl ?_)
                refine l_cons (ev_skip (by kernel_rfl) rfl ?_)
                refine l_cons (ev_skip (by kernel_rfl) rfl ?_)
                refine l_cons (ev_skip (by kernel_rfl) rfl ?_)
                refine l_cons (ev_skip (by kernel_rfl) rfl ?_)
                refine l_cons (ev_run (v := (.bool false)) (w1 := w23) rfl rfl (by kernel_rfl) ?_)
                refine l_nil ?_
                refine n_then ?_
                refine k_false (by kernel_rfl) ?_
                refine wp_skip ?_
                refine n_in ?_
                refine n_then ?_
                refine k_list ?_
                refine l_cons (ev_eq (v := (.int .i64 (IntKind.i64.wrap (((q : Nat) : Int) + 1)))) (v' := (.int .i64 ((((q : Nat) : Int) + 1)))) (w1 := w23) rfl rfl (by kernel_rfl) (wr64 (by omega) (by omega)) ?_)
                refine l_cons (ev_run (v := (.int .i64 ((((q : Nat) : Int) + 1)))) (w1 := w23) rfl rfl (by kernel_rfl) ?_)
                refine l_nil ?_
                refine n_then ?_
                exact k_round (q + 1, hi1) ⟨(by first | rfl | kernel_rfl), (by first | rfl | kernel_rfl), (by first | rfl | kernel_rfl), (by first | rfl | kernel_rfl), (by first | rfl | kernel_rfl), (by first | rfl | kernel_rfl), (by first | rfl | kernel_rfl), (by first | rfl | kernel_rfl), (by first | rfl | kernel_rfl), (by first | rfl | kernel_rfl), (by first | rfl | kernel_rfl), (by first | rfl | kernel_rfl), (by first | rfl | kernel_rfl), (by first | rfl | kernel_rfl), (by first | rfl | kernel_rfl), (by first | rfl | kernel_rfl), (by first | rfl | kernel_rfl), (by first | rfl | kernel_rfl), (by first | rfl | kernel_rfl), trivial⟩ ⟨(by omega), (by rw [all_take _ _ _ hlt4 z45, ← Bool.and_assoc, ← hhi1, ← hy]; exact nb_1 hc2), H26.sel [1, 2, 3, 4] (by decide)⟩ (by first | omega | (simp; omega))
            · skip
              refine wp_seq ?_
              refine k_list ?_
              refine l_cons (ev_eq (v := (.bool (decide ((((q : Nat) : Int) : Int) < ((s.f5.length : Nat) : Int))))) (v' := (.bool false)) (w1 := w21) rfl rfl (by kernel_rfl) (bf (by first | assumption | omega)) ?_)
              refine l_nil ?_
              refine n_then ?_
              refine wp_seq ?_
              refine k_false (by kernel_rfl) ?_
              refine wp_exit ?_
              refine e_then ?_
              refine e_then ?_
              refine e_in ?_
              refine n_in ?_
              refine n_then ?_
              refine k_list ?_
              refine l_cons (ev_eq (v := (.int .i64 (IntKind.i64.wrap (((m : Nat) : Int) + 1)))) (v' := (.int .i64 ((((m : Nat) : Int) + 1)))) (w1 := w21) rfl rfl (by kernel_rfl) (wr64 (by omega) (by omega)) ?_)
              refine l_cons (ev_run (v := (.int .i64 ((((m : Nat) : Int) + 1)))) (w1 := w21) rfl rfl (by kernel_rfl) ?_)
              refine l_nil ?_
              refine n_then ?_
              exact k_round (m + 1, hi1) ⟨(by first | rfl | kernel_rfl), (by first | rfl | kernel_rfl), (by first | rfl | kernel_rfl), (by first | rfl | kernel_rfl), (by first | rfl | kernel_rfl), (by first | rfl | kernel_rfl), (by first | rfl | kernel_rfl), (by first | rfl | kernel_rfl), (by first | rfl | kernel_rfl), (by first | rfl | kernel_rfl), (by first | rfl | kernel_rfl), (by first | rfl | kernel_rfl), (by first | rfl | kernel_rfl), (by first | rfl | kernel_rfl), (by first | rfl | kernel_rfl), (by first | rfl | kernel_rfl), trivial⟩ ⟨(by omega), (by rw [all_take _ _ _ hlt3 z30, ← hs, ← hhi, hhi1, List.take_of_length_le (show s.f5.length ≤ q from hge4)]), H24⟩ (by first | omega | (simp; omega))
          · skip
            refine wp_seq ?_
            refine k_list ?_
            refine l_cons (ev_eq (v := (.bool (decide ((((m : Nat) : Int) : Int) < ((l.length : Nat) : Int))))) (v' := (.bool false)) (w1 := w18) rfl rfl (by kernel_rfl) (bf (by first | assumption | omega)) ?_)
            refine l_nil ?_
            refine n_then ?_
            refine wp_seq ?_
            refine k_false (by kernel_rfl) ?_
            refine wp_exit ?_
            refine e_then ?_
            refine e_then ?_
            refine e_in ?_
            refine n_then ?_
            refine k_list ?_
            refine l_cons (ev_run (v := (.bool true)) (w1 := w18) rfl rfl (by kernel_rfl) ?_)
            refine l_cons (ev_run (v := (.bool true)) (w1 := w18) rfl rfl (by kernel_rfl) ?_)
            refine l_cons (ev_skip (by kernel_rfl) rfl ?_)
            refine l_cons (ev_skip (by kernel_rfl) rfl ?_)
            refine l_cons (ev_skip (by kernel_rfl) rfl ?_)
            refine l_cons (ev_skip (by kernel_rfl) rfl ?_)
            refine l_cons (ev_skip (by kernel_rfl) rfl ?_)
            refine l_cons (ev_skip (by kernel_rfl) rfl ?_)
            refine l_cons (ev_skip (by kernel_rfl) rfl ?_)
            refine l_cons (ev_run (v := (.bool true)) (w1 := w18) rfl rfl (by kernel_rfl) ?_)
            refine l_cons (ev_run (v := (.bool true)) (w1 := w18) rfl rfl (by kernel_rfl) ?_)
            refine l_nil ?_
            refine n_in ?_
            refine n_then ?_
            refine k_list ?_
            refine l_cons (ev_eq (v := (.int .i64 (IntKind.i64.wrap (((b : Nat) : Int) + 1)))) (v' := (.int .i64 ((((b : Nat) : Int) + 1)))) (w1 := w18) rfl rfl (by kernel_rfl) (wr64 (by omega) (by omega)) ?_)
            refine l_cons (ev_run (v := (.int .i64 ((((b : Nat) : Int) + 1)))) (w1 := w18) rfl rfl (by kernel_rfl) ?_)
            refine l_nil ?_
            refine n_then ?_
            exact k_round (b + 1, true, true) ⟨(by first | rfl | kernel_rfl), (by first | rfl | kernel_rfl), (by first | rfl | kernel_rfl), (by first | rfl | kernel_rfl), (by first | rfl | kernel_rfl), (by first | rfl | kernel_rfl), (by first | rfl | kernel_rfl), (by first | rfl | kernel_rfl), (by first | rfl | kernel_rfl), (by first | rfl | kernel_rfl), (by first | rfl | kernel_rfl), trivial⟩ ⟨(by omega), (by rw [foldl_take _ _ _ _ hlt2 z45, ← hp, ← hfd1]; exact fd_1 hc1), (by rw [foldl_take _ _ _ _ hlt2 z45, ← hp, ← han1]; exact an_yes hc1), H21.sel [0, 1, 2] (by decide)⟩ (by first | omega | (simp; omega))
          · skip
            refine wp_seq ?_
            refine k_list ?_
            refine l_cons (ev_eq (v := (.bool (decide ((((m : Nat) : Int) : Int) < ((l.length : Nat) : Int))))) (v' := (.bool false)) (w1 := w18) rfl rfl (by kernel_rfl) (bf (by first | assumption | omega)) ?_)
            refine l_nil ?_
            refine n_then ?_
            refine wp_seq ?_
            refine k_false (by kernel_rfl) ?_
            refine wp_exit ?_
            refine e_then ?_
            refine e_then ?_
            refine e_in ?_
            refine n_then ?_
            refine k_list ?_
            refine l_cons (ev_run (v := (.bool false)) (w1 := w18) rfl rfl (by kernel_rfl) ?_)
            refine l_cons (ev_run (v := (.bool false)) (w1 := w18) rfl rfl (by kernel_rfl) ?_)
            refine l_cons (ev_run (v := (.bool true)) (w1 := w18) (by kernel_rfl) rfl (by kernel_rfl) ?_)
            refine l_cons (ev_run (v := (.bool true)) (w1 := w18) (by kernel_rfl) rfl (by kernel_rfl) ?_)
            refine l_cons (ev_run (v := (.agg #[(.int .i64 ((pickOf slot l).f0)), (.int .i64 ((pickOf slot l).f1)), (.slice Ap2 ((pickOf slot l).f2.length) cp2), (.slice Ap3 ((pickOf slot l).f3.length) cp3)])) (w1 := w18) (by kernel_rfl) rfl (run_ld rfl (by kernel_rfl) (At.blk (H21.get 0 rfl) 0) (by kernel_rfl)) ?_)
            refine l_cons (ev_run (v := (.pointer (some (⟨g6, 3, none⟩)))) (w1 := w18) (by kernel_rfl) rfl (by kernel_rfl) ?_)
            refine l_cons (ev_run (v := (.agg #[(.int .i64 p.f2.f0), (.int .i64 p.f2.f1), (.slice Ap5 p.f2.f2.length cp5), (.slice Ap6 p.f2.f3.length cp6)])) (w1 := w18) (by kernel_rfl) rfl (run_ld rfl (by kernel_rfl) (At.blk (H21.get 3 rfl) 3) (by kernel_rfl)) ?_)
            refine l_cons (ev_call (by kernel_rfl) rfl (f := 11) (args := #[(.agg #[(.int .i64 ((pickOf slot l).f0)), (.int .i64 ((pickOf slot l).f1)), (.slice Ap2 ((pickOf slot l).f2.length) cp2), (.slice Ap3 ((pickOf slot l).f3.length) cp3)]), (.agg #[(.int .i64 p.f2.f0), (.int .i64 p.f2.f1), (.slice Ap5 p.f2.f2.length cp5), (.slice Ap6 p.f2.f3.length cp6)])]) (by kernel_rfl) (samereq_c (pickOf slot l) p.f2 _ ⟨byR_le (H21.get 1 rfl), byR_C (H21.get 1 rfl), byR_le (H21.get 2 rfl), byR_C (H21.get 2 rfl)⟩ ⟨lp5, C_to gp5 H21, lp6, C_to gp6 H21⟩) ?_)
            rintro e w25 ⟨rfl, hb_⟩
            refine ⟨_, rfl, ?_⟩
            have H28 := H21.below hb_
            refine l_cons (ev_run (v := (.bool (sreq (pickOf slot l) p.f2))) (w1 := w25) (by kernel_rfl) rfl (by kernel_rfl) ?_)
            refine l_cons (ev_run (v := (.bool (sreq (pickOf slot l) p.f2))) (w1 := w25) rfl rfl (by kernel_rfl) ?_)
            refine l_cons (ev_run (v := (.bool (sreq (pickOf slot l) p.f2))) (w1 := w25) rfl rfl (by kernel_rfl) ?_)
            refine l_nil ?_
            refine n_in ?_
            refine n_then ?_
            refine k_list ?_
            refine l_cons (ev_eq (v := (.int .i64 (IntKind.i64.wrap (((b : Nat) : Int) + 1)))) (v' := (.int .i64 ((((b : Nat) : Int) + 1)))) (w1 := w25) rfl rfl (by kernel_rfl) (wr64 (by omega) (by omega)) ?_)
            refine l_cons (ev_run (v := (.int .i64 ((((b : Nat) : Int) + 1)))) (w1 := w25) rfl rfl (by kernel_rfl) ?_)
            refine l_nil ?_
            refine n_then ?_
            exact k_round (b + 1, sreq (pickOf slot l) p.f2, true) ⟨(by first | rfl | kernel_rfl), (by first | rfl | kernel_rfl), (by first | rfl | kernel_rfl), (by first | rfl | kernel_rfl), (by first | rfl | kernel_rfl), (by first | rfl | kernel_rfl), (by first | rfl | kernel_rfl), (by first | rfl | kernel_rfl), (by first | rfl | kernel_rfl), (by first | rfl | kernel_rfl), (by first | rfl | kernel_rfl), trivial⟩ ⟨(by omega), (by rw [foldl_take _ _ _ _ hlt2 z45, ← hp, ← hfd1]; exact fd_2 hc1 (by rw [hhi, List.take_of_length_le hge3]; rfl)), (by rw [foldl_take _ _ _ _ hlt2 z45, ← hp, ← han1]; exact an_yes hc1), H28.sel [0, 1, 2] (by decide)⟩ (by first | omega | (simp; omega))
          · skip
            refine wp_seq ?_
            refine k_list ?_
            refine l_cons (ev_eq (v := (.bool (decide ((((m : Nat) : Int) : Int) < ((l.length : Nat) : Int))))) (v' := (.bool false)) (w1 := w18) rfl rfl (by kernel_rfl) (bf (by first | assumption | omega)) ?_)
            refine l_nil ?_
            refine n_then ?_
            refine wp_seq ?_
            refine k_false (by kernel_rfl) ?_
            refine wp_exit ?_
            refine e_then ?_
            refine e_then ?_
            refine e_in ?_
            refine n_then ?_
            refine k_list ?_
            refine l_cons (ev_run (v := (.bool false)) (w1 := w18) rfl rfl (by kernel_rfl) ?_)
            refine l_cons (ev_run (v := (.bool false)) (w1 := w18) rfl rfl (by kernel_rfl) ?_)
            refine l_cons (ev_run (v := (.bool false)) (w1 := w18) (by kernel_rfl) rfl (by kernel_rfl) ?_)
            refine l_cons (ev_run (v := (.bool false)) (w1 := w18) (by kernel_rfl) rfl (by kernel_rfl) ?_)
            refine l_cons (ev_skip (by kernel_rfl) rfl ?_)
            refine l_cons (ev_skip (by kernel_rfl) rfl ?_)
            refine l_cons (ev_skip (by kernel_rfl) rfl ?_)
            refine l_cons (ev_skip (by kernel_rfl) rfl ?_)
            refine l_cons (ev_run (v := (.bool false)) (w1 := w18) (by kernel_rfl) rfl (by kernel_rfl) ?_)
            refine l_cons (ev_run (v := (.bool false)) (w1 := w18) rfl rfl (by kernel_rfl) ?_)
            refine l_cons (ev_run (v := (.bool false)) (w1 := w18) rfl rfl (by kernel_rfl) ?_)
            refine l_nil ?_
            refine n_in ?_
            refine n_then ?_
            refine k_list ?_
            refine l_cons (ev_eq (v := (.int .i64 (IntKind.i64.wrap (((b : Nat) : Int) + 1)))) (v' := (.int .i64 ((((b : Nat) : Int) + 1)))) (w1 := w18) rfl rfl (by kernel_rfl) (wr64 (by omega) (by omega)) ?_)
            refine l_cons (ev_run (v := (.int .i64 ((((b : Nat) : Int) + 1)))) (w1 := w18) rfl rfl (by kernel_rfl) ?_)
            refine l_nil ?_
            refine n_then ?_
            exact k_round (b + 1, false, true) ⟨(by first | rfl | kernel_rfl), (by first | rfl | kernel_rfl), (by first | rfl | kernel_rfl), (by first | rfl | kernel_rfl), (by first | rfl | kernel_rfl), (by first | rfl | kernel_rfl), (by first | rfl | kernel_rfl), (by first | rfl | kernel_rfl), (by first | rfl | kernel_rfl), (by first | rfl | kernel_rfl), (by first | rfl | kernel_rfl), trivial⟩ ⟨(by omega), (by rw [foldl_take _ _ _ _ hlt2 z45, ← hp, ← hfd1]; exact fd_3 hc1 (by rw [hhi, List.take_of_length_le hge3]; rfl)), (by rw [foldl_take _ _ _ _ hlt2 z45, ← hp, ← han1]; exact an_yes hc1), H21.sel [0, 1, 2] (by decide)⟩ (by first | omega | (simp; omega))
        · skip
          refine l_cons (ev_eq (v := (.bool ((p.f0 : Int) != slot))) (v' := (.bool true)) (w1 := w17) rfl rfl (by kernel_rfl) (bnet (by first | assumption | omega)) ?_)
          refine l_nil ?_
          refine n_then ?_
          refine k_true (by kernel_rfl) ?_
          refine wp_exit ?_
          refine e_then ?_
          refine e_in ?_
          refine n_then ?_
          refine k_list ?_
          refine l_cons (ev_eq (v := (.int .i64 (IntKind.i64.wrap (((b : Nat) : Int) + 1)))) (v' := (.int .i64 ((((b : Nat) : Int) + 1)))) (w1 := w17) rfl rfl (by kernel_rfl) (wr64 (by omega) (by omega)) ?_)
          refine l_cons (ev_run (v := (.int .i64 ((((b : Nat) : Int) + 1)))) (w1 := w17) rfl rfl (by kernel_rfl) ?_)
          refine l_nil ?_
          refine n_then ?_
          exact k_round (b + 1, fd1, an1) ⟨(by first | rfl | kernel_rfl), (by first | rfl | kernel_rfl), (by first | rfl | kernel_rfl), (by first | rfl | kernel_rfl), (by first | rfl | kernel_rfl), (by first | rfl | kernel_rfl), (by first | rfl | kernel_rfl), (by first | rfl | kernel_rfl), (by first | rfl | kernel_rfl), (by first | rfl | kernel_rfl), (by first | rfl | kernel_rfl), trivial⟩ ⟨(by omega), (by rw [foldl_take _ _ _ _ hlt2 z45, ← hp, ← hfd1]; exact fd_no hc1), (by rw [foldl_take _ _ _ _ hlt2 z45, ← hp, ← han1]; exact an_no hc1), H20.sel [1, 2, 3] (by decide)⟩ (by first | omega | (simp; omega))
      · skip
        refine wp_seq ?_
        refine k_list ?_
        refine l_cons (ev_eq (v := (.bool (decide ((((b : Nat) : Int) : Int) < ((r.f5.length : Nat) : Int))))) (v' := (.bool false)) (w1 := w15) rfl rfl (by kernel_rfl) (bf (by first | assumption | omega)) ?_)
        refine l_nil ?_
        refine n_then ?_
        refine wp_seq ?_
        refine k_false (by kernel_rfl) ?_
        refine wp_exit ?_
        refine e_then ?_
        refine e_then ?_
        refine e_in ?_
        refine n_in ?_
        refine n_then ?_
        refine k_list ?_
        refine l_cons (ev_eq (v := (.int .i64 (IntKind.i64.wrap (((a : Nat) : Int) + 1)))) (v' := (.int .i64 ((((a : Nat) : Int) + 1)))) (w1 := w15) rfl rfl (by kernel_rfl) (wr64 (by omega) (by omega)) ?_)
        refine l_cons (ev_run (v := (.int .i64 ((((a : Nat) : Int) + 1)))) (w1 := w15) rfl rfl (by kernel_rfl) ?_)
        refine l_nil ?_
        refine n_then ?_
        exact k_round (a + 1, fd1, an1) ⟨(by first | rfl | kernel_rfl), (by first | rfl | kernel_rfl), (by first | rfl | kernel_rfl), (by first | rfl | kernel_rfl), (by first | rfl | kernel_rfl), (by first | rfl | kernel_rfl), (by first | rfl | kernel_rfl), (by first | rfl | kernel_rfl), trivial⟩ ⟨(by omega), (by rw [fdOf, foldl_take _ _ _ _ hlt z30, ← hr, ← fdOf, ← hfd, hfd1, List.take_of_length_le (by omega)]), (by rw [anOf, foldl_take _ _ _ _ hlt z30, ← hr, ← anOf, ← han, han1, List.take_of_length_le (by omega)]), H18⟩ (by first | omega | (simp; omega))
    · skip
      refine wp_seq ?_
      refine k_list ?_
      refine l_cons (ev_eq (v := (.bool (decide ((((a : Nat) : Int) : Int) < ((l.length : Nat) : Int))))) (v' := (.bool false)) (w1 := w12) rfl rfl (by kernel_rfl) (bf (by first | assumption | omega)) ?_)
      refine l_nil ?_
      refine n_then ?_
      refine wp_seq ?_
      refine k_false (by kernel_rfl) ?_
      refine wp_exit ?_
      refine e_then ?_
      refine e_then ?_
      refine e_in ?_
      refine n_then ?_
      refine wp_seq ?_
      refine wp_seq ?_
      refine k_list ?_
      refine l_cons (ev_run (v := (.bool true)) (w1 := w12) rfl rfl (by kernel_rfl) ?_)
      refine l_cons (ev_run (v := (.bool false)) (w1 := w12) rfl rfl (by kernel_rfl) ?_)
      refine l_nil ?_
      refine n_then ?_
      refine k_false (by kernel_rfl) ?_
      refine wp_skip ?_
      refine n_then ?_
      refine wp_seq ?_
      refine k_list ?_
      refine l_cons (ev_run (v := (.bool fd)) (w1 := w12) rfl rfl (by kernel_rfl) ?_)
      refine l_cons (ev_run (v := (.bool fd)) (w1 := w12) rfl rfl (by kernel_rfl) ?_)
      refine l_nil ?_
      refine n_then ?_
      refine wp_ret ?_
      refine b_ret (v := (.bool fd)) (resS rfl (.tmp (by kernel_rfl) .nil)) ?_
      exact ⟨by rw [hfd, List.take_of_length_le hge, keeps_some (by rw [han, List.take_of_length_le hge])], H15.to_below⟩
    · skip
      refine wp_seq ?_
      refine k_list ?_
      refine l_cons (ev_eq (v := (.bool (decide ((((a : Nat) : Int) : Int) < ((l.length : Nat) : Int))))) (v' := (.bool false)) (w1 := w12) rfl rfl (by kernel_rfl) (bf (by first | assumption | omega)) ?_)
      refine l_nil ?_
      refine n_then ?_
      refine wp_seq ?_
      refine k_false (by kernel_rfl) ?_
      refine wp_exit ?_
      refine e_then ?_
      refine e_then ?_
      refine e_in ?_
      refine n_then ?_
      refine wp_seq ?_
      refine wp_seq ?_
      refine k_list ?_
      refine l_cons (ev_run (v := (.bool false)) (w1 := w12) rfl rfl (by kernel_rfl) ?_)
      refine l_cons (ev_run (v := (.bool true)) (w1 := w12) rfl rfl (by kernel_rfl) ?_)
      refine l_nil ?_
      refine n_then ?_
      refine k_true (by kernel_rfl) ?_
      refine wp_seq ?_
      refine k_list ?_
      refine l_cons (ev_run (v := (.agg #[(.int .i64 ((pickOf slot l).f0)), (.int .i64 ((pickOf slot l).f1)), (.slice Ap2 ((pickOf slot l).f2.length) cp2), (.slice Ap3 ((pickOf slot l).f3.length) cp3)])) (w1 := w12) rfl rfl (run_ld rfl (by kernel_rfl) (At.blk (H15.get 0 rfl) 0) (by kernel_rfl)) ?_)
      refine l_cons (ev_run (v := (.agg #[(.int .i64 0), (.int .i64 0), (.slice none 0 0), (.slice none 0 0)])) (w1 := w12) rfl rfl (by kernel_rfl) ?_)
      refine l_cons (ev_call rfl rfl (f := 11) (args := #[(.agg #[(.int .i64 ((pickOf slot l).f0)), (.int .i64 ((pickOf slot l).f1)), (.slice Ap2 ((pickOf slot l).f2.length) cp2), (.slice Ap3 ((pickOf slot l).f3.length) cp3)]), (.agg #[(.int .i64 0), (.int .i64 0), (.slice none 0 0), (.slice none 0 0)])]) (by kernel_rfl) (samereq_c (pickOf slot l) z36 _ ⟨byR_le (H15.get 1 rfl), byR_C (H15.get 1 rfl), byR_le (H15.get 2 rfl), byR_C (H15.get 2 rfl)⟩ ⟨Nat.le_refl 0, C_nil _, Nat.le_refl 0, C_nil _⟩) ?_)
      rintro e w26 ⟨rfl, hb_⟩
      refine ⟨_, rfl, ?_⟩
      have H29 := H15.below hb_
      refine l_cons (ev_run (v := (.bool (sreq (pickOf slot l) z36))) (w1 := w26) rfl rfl (by kernel_rfl) ?_)
      refine l_nil ?_
      refine n_then ?_
      refine wp_ret ?_
      refine r_then ?_
      refine b_ret (v := (.bool (sreq (pickOf slot l) z36))) (resS rfl (.tmp (by kernel_rfl) .nil)) ?_
      exact ⟨by rw [keeps_none (by rw [han, List.take_of_length_le hge])], H29.to_below⟩
end Go.Proofs.Ytpnelfefchdhcaa
