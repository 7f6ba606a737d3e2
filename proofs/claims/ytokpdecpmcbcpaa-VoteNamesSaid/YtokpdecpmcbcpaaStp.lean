/- Steps of a walk: a frame of which only the slots that matter are told ('Fr'); memory as a list of resources, each with blocks of its own ('Hp'). Nothing of the program. -/
import Derived.Test.YtokpdecpmcbcpaaEv
namespace Go.Proofs.Ytokpdecpmcbcpaa
open Go.RowKit Go.Proofs.YtokpdecpmcbcpaaW.PrintWords Go.Proofs.YtokpdecpmcbcpaaW.PrintLast Go.Proofs.YtokpdecpmcbcpaaW.PrintMore
set_option linter.unusedVariables false
set_option linter.unusedSimpArgs false

/-! ### Frames -/
def look : List (Nat × Value) → Nat → Option Value
  | [], _ => none
  | p :: r, j => match Nat.beq p.1 j with
    | true => some p.2
    | false => look r j
/-- A frame of n slots: those in ps as told there (the first counts), the others as in L. -/
def Fr (n : Nat) (L : Nat → Value) (ps : List (Nat × Value)) : Act := ⟨((List.range n).map fun j => (look ps j).getD (L j)).toArray, []⟩
/-- What an operand reads in it. -/
def evF (n : Nat) (L : Nat → Value) (ps : List (Nat × Value)) : Operand → Value
  | .tmp t => match look ps t with
    | some v => match Nat.blt t n with
      | true => v
      | false => undef
    | none => match Nat.blt t n with
      | true => L t
      | false => undef
  | .const v => v
  | .global g => .pointer (some ⟨g, 0, none⟩)
  | .func f => .func (.func f) #[] #[]
theorem Fr_tmp (n : Nat) (L : Nat → Value) (ps : List (Nat × Value)) (t : Nat) : (Fr n L ps).tmps.getD t undef = evF n L ps (.tmp t) := by
  have hb : (Nat.blt t n = true) ↔ t < n := by simp [Nat.blt_eq]
  simp only [Fr, evF]
  rw [Array.getD_eq_getD_getElem?]
  simp only [List.getElem?_toArray, List.getElem?_map]
  by_cases h : t < n
  · rw [List.getElem?_range h, hb.2 h, Option.map_some]
    cases look ps t <;> rfl
  · have h2 : Nat.blt t n = false := by rw [Bool.eq_false_iff]; exact fun e => h (hb.1 e)
    rw [List.getElem?_eq_none (by simpa using h), h2]
    cases look ps t <;> rfl
theorem Fr_eval (n : Nat) (L : Nat → Value) (ps : List (Nat × Value)) : (Fr n L ps).eval = evF n L ps := by
  funext x
  cases x with
  | tmp t => exact Fr_tmp n L ps t
  | const v => rfl
  | global g => rfl
  | func f => rfl
theorem Fr_put (n : Nat) (L : Nat → Value) (ps : List (Nat × Value)) (d : Nat) (v : Value) : (Fr n L ps).put (some d) v = Fr n L ((d, v) :: ps) := by
  unfold Act.put Fr
  simp only
  congr 1
  rw [List.setIfInBounds_toArray]
  congr 1
  apply List.ext_getElem?
  intro j
  rw [List.getElem?_set]
  by_cases hd : d = j
  · subst hd
    simp only [List.length_map, List.length_range, List.getElem?_map, look]
    by_cases hn : d < n
    · rw [List.getElem?_range hn]; simp [hn]
    · simp [hn]
  · rw [if_neg hd]
    have : Nat.beq d j = false := by rw [Bool.eq_false_iff]; exact fun e => hd (Nat.eq_of_beq_eq_true e)
    rw [List.getElem?_map, List.getElem?_map]
    by_cases hj : j < n
    · rw [List.getElem?_range hj, Option.map_some, Option.map_some]; simp only [look, this]
    · rw [List.getElem?_eq_none (by simpa using hj)]; rfl
theorem Fr_put_none (n : Nat) (L : Nat → Value) (ps : List (Nat × Value)) (v : Value) : (Fr n L ps).put none v = Fr n L ps := rfl
/-- ps' says nothing that ps does not. -/
def Sub : List (Nat × Value) → List (Nat × Value) → Prop
  | [], _ => True
  | p :: r, ps => look ps p.1 = some p.2 ∧ Sub r ps
theorem Sub.mem : ∀ {ps' ps : List (Nat × Value)}, Sub ps' ps → ∀ j v, look ps' j = some v → look ps j = some v
  | p :: r, ps, h, j, v, hl => by
    simp only [look] at hl
    split at hl
    · rename_i he
      have := Nat.eq_of_beq_eq_true he
      subst this
      injection hl with hl
      subst hl
      exact h.1
    · exact Sub.mem h.2 j v hl
theorem Fr_sub {n : Nat} {L : Nat → Value} {ps ps' : List (Nat × Value)} (h : Sub ps' ps) : Fr n L ps = Fr n (fun j => (look ps j).getD (L j)) ps' := by
  unfold Fr
  congr 2
  apply List.map_congr_left
  intro j _
  cases hj : look ps' j with
  | none => rfl
  | some v => rw [h.mem j v hj]; rfl
def pairs : Nat → List Value → List (Nat × Value)
  | _, [] => []
  | i, v :: r => (i, v) :: pairs (i + 1) r
theorem look_pairs : ∀ (l : List Value) (i j : Nat), look (pairs i l) j = if i ≤ j then l[j - i]? else none
  | [], i, j => by simp [pairs, look]
  | v :: r, i, j => by
    simp only [pairs, look]
    cases h : Nat.beq i j with
    | true =>
      have := Nat.eq_of_beq_eq_true h
      subst this
      simp
    | false =>
      have hne : i ≠ j := fun e => by subst e; simp at h
      rw [look_pairs r (i + 1) j]
      by_cases hij : i ≤ j
      · rw [if_pos hij, if_pos (by omega)]
        have : j - i = (j - (i + 1)) + 1 := by omega
        rw [this, List.getElem?_cons_succ]
      · rw [if_neg hij, if_neg (by omega)]
theorem Fr_enter (args : List Value) (n : Nat) (h : args.length ≤ n) : (⟨args.toArray ++ Array.replicate (n - args.toArray.size) undef, []⟩ : Act) = Fr n (fun _ => undef) (pairs 0 args) := by
  unfold Fr
  congr 1
  apply Array.ext_getElem?
  intro j
  rw [Array.getElem?_append]
  simp only [List.getElem?_toArray, List.getElem?_map, List.size_toArray, Array.getElem?_replicate, look_pairs, Nat.zero_le, if_true, Nat.sub_zero]
  by_cases hj : j < n
  · rw [List.getElem?_range hj]
    by_cases ha : j < args.length
    · rw [if_pos ha]; simp [List.getElem?_eq_getElem ha]
    · rw [if_neg ha, if_pos (by omega)]; simp [List.getElem?_eq_none (Nat.le_of_not_lt ha)]
  · rw [if_neg (by omega), if_neg (by omega)]
    simp [hj]

/-! ### Operations -/
section
variable {P : Program} {ops : Array Oper} {Q : Exit → Act → World → Prop} {o : Oper} {rest : List Oper} {K : Act → World → Prop} {n : Nat} {L : Nat → Value} {ps : List (Nat × Value)} {w : World}
/-- One operation, and what is wanted of it: behind a name of its own (a structure), so that nobody lays it open. -/
structure OpW (P : Program) (ops : Array Oper) (Q : Exit → Act → World → Prop) (o : Oper) (a : Act) (w : World) (K : Act → World → Prop) : Prop where
  out : if Region.wanted o (yielded ops a.tmps) = true then Oper.wp P o a w K Q else K (a.put o.dst undef) w
structure LW (P : Program) (ops : Array Oper) (Q : Exit → Act → World → Prop) (l : List Oper) (a : Act) (w : World) : Prop where
  out : wpList P ops Q l a w
theorem l_cons {a : Act} (h : OpW P ops Q o a w (LW P ops Q rest)) : LW P ops Q (o :: rest) a w := by
  have h := h.out
  refine ⟨?_⟩
  unfold wpList
  split
  · rename_i hw; rw [if_pos hw] at h; exact .inl (Oper.wp_mono (fun a' w' k => k.out) h)
  · rename_i hw; rw [if_neg hw] at h; exact h.out
theorem l_nil {a : Act} (h : Q .normal a w) : LW P ops Q [] a w := ⟨h⟩
theorem k_list {id : Nat} {l : List Oper} {a : Act} (h : LW P l.toArray Q l a w) : (Code.region id l.toArray false).wp P Q a w := wp_region_lit h.out
/-- It yields v, the world stays (or is w1). -/
theorem ev_run {d : Nat} {v : Value} {w1 : World} (hw : Region.wanted o (yielded ops (Fr n L ps).tmps) = true) (hd : o.dst = some d) (hrun : (execOp (evF n L ps) o).run P w = .ok (.value v) w1) (h : K (Fr n L ((d, v) :: ps)) w1) : OpW P ops Q o (Fr n L ps) w K := by
  refine ⟨?_⟩
  unfold Oper.wp
  rw [if_pos hw, Fr_eval, hrun]
  show K ((Fr n L ps).put o.dst v) w1
  rw [hd, Fr_put]
  exact h
theorem ev_eq {d : Nat} {v v' : Value} {w1 : World} (hw : Region.wanted o (yielded ops (Fr n L ps).tmps) = true) (hd : o.dst = some d) (hrun : (execOp (evF n L ps) o).run P w = .ok (.value v) w1) (hv : v = v') (h : K (Fr n L ((d, v') :: ps)) w1) : OpW P ops Q o (Fr n L ps) w K := by
  subst hv
  exact ev_run hw hd hrun h
/-- It is not carried out. -/
theorem ev_skip {d : Nat} (hw : Region.wanted o (yielded ops (Fr n L ps).tmps) = false) (hd : o.dst = some d) (h : K (Fr n L ((d, undef) :: ps)) w) : OpW P ops Q o (Fr n L ps) w K := by
  refine ⟨?_⟩
  rw [if_neg (by rw [hw]; simp), hd, Fr_put]
  exact h
theorem ev_call {d : Nat} {f : FuncId} {args : Array Value} {R : Ending → World → Prop} (hw : Region.wanted o (yielded ops (Fr n L ps).tmps) = true) (hd : o.dst = some d) (hrun : (execOp (evF n L ps) o).run P w = .ok (.enter f args) w) (hc : Calls P f args w R)
    (h : ∀ e w1, R e w1 → ∃ v, e = .returned v ∧ K (Fr n L ((d, v) :: ps)) w1) : OpW P ops Q o (Fr n L ps) w K := by
  refine ⟨?_⟩
  unfold Oper.wp
  rw [if_pos hw, Fr_eval, hrun]
  refine Calls.mono hc fun e w1 hR => ?_
  obtain ⟨v, rfl, hk⟩ := h e w1 hR
  show K ((Fr n L ps).put o.dst v) w1
  rw [hd, Fr_put]
  exact hk
theorem ev_call0 {f : FuncId} {args : Array Value} {R : Ending → World → Prop} (hw : Region.wanted o (yielded ops (Fr n L ps).tmps) = true) (hd : o.dst = none) (hrun : (execOp (evF n L ps) o).run P w = .ok (.enter f args) w) (hc : Calls P f args w R)
    (h : ∀ e w1, R e w1 → ∃ v, e = .returned v ∧ K (Fr n L ps) w1) : OpW P ops Q o (Fr n L ps) w K := by
  refine ⟨?_⟩
  unfold Oper.wp
  rw [if_pos hw, Fr_eval, hrun]
  refine Calls.mono hc fun e w1 hR => ?_
  obtain ⟨v, rfl, hk⟩ := h e w1 hR
  show K ((Fr n L ps).put o.dst v) w1
  rw [hd]
  exact hk
theorem put_Fr {d : Nat} {v : Value} (h : K (Fr n L ((d, v) :: ps)) w) : K ((Fr n L ps).put (some d) v) w := by rw [Fr_put]; exact h

/-! ### Code -/
theorem k_enter {f : FuncId} {fn : Func} {c : Code} {args : List Value} {R : Ending → World → Prop} (hf : P.funcs[f]? = some fn) (hb : fn.body = some c) (hn : fn.ntmps = n) (hl : args.length ≤ n)
    (h : c.wp P (bodyPost P fn R) (Fr n (fun _ => undef) (pairs 0 args)) w) : Calls P f args.toArray w R := by
  refine calls_of_wp hf hb ?_
  rw [hn, Fr_enter args n hl]
  exact h
variable {a : Act} {K : Act → World → Prop}
theorem n_then (h : K a w) : Exit.then K Q .normal a w := h
theorem n_in {i : Nat} (h : Q .normal a w) : Exit.inBlock i Q .normal a w := h
theorem e_then {i : Nat} (h : Q (.exit i) a w) : Exit.then K Q (.exit i) a w := h
theorem e_in {i : Nat} (h : Q .normal a w) : Exit.inBlock i Q (.exit i) a w := by simp only [Exit.inBlock, if_true]; exact h
theorem e_out {i j : Nat} (hij : i ≠ j) (h : Q (.exit i) a w) : Exit.inBlock j Q (.exit i) a w := by simp only [Exit.inBlock, if_neg hij]; exact h
theorem r_then (h : Q .ret a w) : Exit.then K Q .ret a w := h
theorem r_in {i : Nat} (h : Q .ret a w) : Exit.inBlock i Q .ret a w := h
theorem k_true {c : Operand} {x y : Code} (hc : evF n L ps c = .bool true) (h : x.wp P Q (Fr n L ps) w) : (Code.cond c x y).wp P Q (Fr n L ps) w := wp_cond_true (by rw [Fr_eval]; exact hc) h
theorem k_false {c : Operand} {x y : Code} (hc : evF n L ps c = .bool false) (h : y.wp P Q (Fr n L ps) w) : (Code.cond c x y).wp P Q (Fr n L ps) w := wp_cond_false (by rw [Fr_eval]; exact hc) h
theorem k_if {c : Operand} {x y : Code} {b : Bool} (hc : evF n L ps c = .bool b) (h1 : b = true → x.wp P Q (Fr n L ps) w) (h0 : b = false → y.wp P Q (Fr n L ps) w) : (Code.cond c x y).wp P Q (Fr n L ps) w := by
  cases b with
  | true => exact k_true hc (h1 rfl)
  | false => exact k_false hc (h0 rfl)
/-- The frame forgets. -/
theorem k_sub {c : Code} (ps' : List (Nat × Value)) (hs : Sub ps' ps) (h : ∀ L', c.wp P Q (Fr n L' ps') w) : c.wp P Q (Fr n L ps) w := by rw [Fr_sub hs]; exact h _
theorem q_sub {e : Exit} (ps' : List (Nat × Value)) (hs : Sub ps' ps) (h : ∀ L', Q e (Fr n L' ps') w) : Q e (Fr n L ps) w := by rw [Fr_sub hs]; exact h _
/-- What a loop's round hands on. -/
def Round {σ : Type} (n : Nat) (fr : σ → List (Nat × Value)) (I : σ → World → Prop) (μ : σ → Nat) (m : Nat) (a : Act) (w : World) : Prop := ∃ L x, a = Fr n L (fr x) ∧ I x w ∧ μ x < m
theorem k_loop {σ : Type} {c : Code} (fr : σ → List (Nat × Value)) (I : σ → World → Prop) (μ : σ → Nat) (x : σ) (h0 : Sub (fr x) ps) (hI : I x w)
    (round : ∀ L x w, I x w → c.wp P (Exit.then (Round n fr I μ (μ x)) Q) (Fr n L (fr x)) w) : (Code.loop c).wp P Q (Fr n L ps) w := by
  refine wp_loop_ghost (fun m a w => ∃ L x, a = Fr n L (fr x) ∧ I x w ∧ μ x = m) (μ x) ⟨_, x, Fr_sub h0, hI, rfl⟩ ?_
  rintro m a w ⟨L, x, rfl, hI, rfl⟩
  refine wp_mono (round L x w hI) ?_
  intro e a' w' hq
  cases e with
  | normal =>
    obtain ⟨L', x', h1, h2, h3⟩ := hq
    exact ⟨μ x', h3, L', x', h1, h2, rfl⟩
  | exit id => exact hq
  | goto l => exact hq
  | ret => exact hq
  | panic ch => exact hq
  | outgrown => exact hq
theorem k_round {σ : Type} {fr : σ → List (Nat × Value)} {I : σ → World → Prop} {μ : σ → Nat} {m : Nat} (x : σ) (hs : Sub (fr x) ps) (hI : I x w) (hm : μ x < m) : Round n fr I μ m (Fr n L ps) w := ⟨_, x, Fr_sub hs, hI, hm⟩
/-- The ways through x meet again before y. -/
def Meet {σ : Type} (n : Nat) (fr : σ → List (Nat × Value)) (I : σ → World → Prop) (a : Act) (w : World) : Prop := ∃ L x, a = Fr n L (fr x) ∧ I x w
theorem k_meet {σ : Type} {x y : Code} (fr : σ → List (Nat × Value)) (I : σ → World → Prop) (h1 : x.wp P (Exit.then (Meet n fr I) Q) a w) (h2 : ∀ L s w, I s w → y.wp P Q (Fr n L (fr s)) w) : (Code.seq x y).wp P Q a w := by
  refine wp_seq (wp_mono h1 ?_)
  intro e a' w' hq
  cases e with
  | normal =>
    obtain ⟨L, s, rfl, hI⟩ := hq
    exact h2 L s w' hI
  | exit id => exact hq
  | goto l => exact hq
  | ret => exact hq
  | panic ch => exact hq
  | outgrown => exact hq
theorem m_meet {σ : Type} {fr : σ → List (Nat × Value)} {I : σ → World → Prop} (x : σ) (hs : Sub (fr x) ps) (hI : I x w) : Meet n fr I (Fr n L ps) w := ⟨_, x, Fr_sub hs, hI⟩

/-! ### The end of a body -/
variable {fn : Func} {R : Ending → World → Prop} {v : Value}
theorem b_ret (hr : (results fn (Fr n L ps).tmps).run P w = .ok v w) (h : R (.returned v) w) : bodyPost P fn R .ret (Fr n L ps) w := ⟨rfl, v, hr, h⟩
theorem b_end (hr : (results fn (Fr n L ps).tmps).run P w = .ok v w) (h : R (.returned v) w) : bodyPost P fn R .normal (Fr n L ps) w := ⟨rfl, v, hr, h⟩
theorem res0 (h : fn.results = #[]) : (results fn (Fr n L ps).tmps).run P w = .ok (.tuple #[]) w := results_none h _ _ _
theorem res1 {t : Nat} (h : fn.results = #[.tmp t]) (hv : evF n L ps (.tmp t) = v) : (results fn (Fr n L ps).tmps).run P w = .ok v w := by
  rw [results_tmp h, Fr_tmp, hv]
end

/-! ### Regions that draw their order -/
section
variable {P : Program} {ops : Array Oper} {Q : Exit → Act → World → Prop} {oi : Oper} {rest : List Oper} {n : Nat} {L : Nat → Value} {ps : List (Nat × Value)} {w : World} {late : Nat → Bool} {S : World → Prop} {m i : Nat} {l : Array Bool} {a : Act}
def wpR (P : Program) (ops : Array Oper) (Q : Exit → Act → World → Prop) (late : Nat → Bool) (S : World → Prop) (m : Nat) (l : Array Bool) (a : Act) (w : World) : Prop :=
  Region.noSelect ops = true → (∀ c (d : Nat) a v w, Q (.panic c) (Act.put a (some d) v) w → Q (.panic c) a w) → wpAnyT P .any ops Q late S m l a w
theorem r_start {id : Nat} (late : Nat → Bool) (S : World → Prop) (hm : P.follows .mixedOrders = true) (hn : ops.size = m) (hs : Region.noSelect ops = true) (hQ : ∀ c (d : Nat) a v w, Q (.panic c) (Act.put a (some d) v) w → Q (.panic c) a w)
    (h : wpR P ops Q late S m (Array.replicate m false) a w.drew) : (Code.region id ops true).wp P Q a w := wp_region_T late S hm (by rw [hn]; exact h hs hQ)
theorem r_take {d : Nat} {v : Value} (hi : ops.toList.drop i = oi :: rest) (hf : freeT .any ops late l i = true) (hr : (Region.ready .any ops l).contains i = true) (hw : Region.wanted oi (yielded ops (Fr n L ps).tmps) = true) (hd : oi.dst = some d)
    (hS : S w) (hy : ∀ w, S w → (execOp (evF n L ps) oi).run P w = .ok (.value v) w) (h : wpR P ops Q late S m (l.setIfInBounds i true) (Fr n L ((d, v) :: ps)) w) : wpR P ops Q late S (m + 1) l (Fr n L ps) w := fun hs hQ =>
  wpAnyT_take hi hs hf hr (fun c a w => by rw [hd]; exact hQ c d a v w) hw (fun w hw' => by rw [Fr_eval]; exact hy w hw') hS (by rw [hd, Fr_put]; exact h hs hQ)
theorem r_take_eq {d : Nat} {v v' : Value} (hi : ops.toList.drop i = oi :: rest) (hf : freeT .any ops late l i = true) (hr : (Region.ready .any ops l).contains i = true) (hw : Region.wanted oi (yielded ops (Fr n L ps).tmps) = true) (hd : oi.dst = some d)
    (hS : S w) (hy : ∀ w, S w → (execOp (evF n L ps) oi).run P w = .ok (.value v) w) (hv : v = v') (h : wpR P ops Q late S m (l.setIfInBounds i true) (Fr n L ((d, v') :: ps)) w) : wpR P ops Q late S (m + 1) l (Fr n L ps) w := by
  subst hv
  exact r_take hi hf hr hw hd hS hy h
theorem r_pass {d : Nat} (hi : ops.toList.drop i = oi :: rest) (hf : freeT .any ops late l i = true) (hr : (Region.ready .any ops l).contains i = true) (hw : Region.wanted oi (yielded ops (Fr n L ps).tmps) = false) (hd : oi.dst = some d)
    (hS : S w) (h : wpR P ops Q late S m (l.setIfInBounds i true) (Fr n L ((d, undef) :: ps)) w) : wpR P ops Q late S (m + 1) l (Fr n L ps) w := fun hs hQ =>
  wpAnyT_pass hi hs hf hr (fun c a w => by rw [hd]; exact hQ c d a undef w) hw hS (by rw [hd, Fr_put]; exact h hs hQ)
theorem r_one (hr : Region.ready .any ops l = [i]) (hi : ops.toList.drop i = oi :: rest) (h : OpW P ops Q oi a w (fun a' w' => (late i = false → S w') ∧ wpR P ops Q late S m (l.setIfInBounds i true) a' w')) : wpR P ops Q late S (m + 1) l a w := fun hs hQ =>
  wpAnyT_one hr (by
    refine wpOp_step hi ?_
    have h := h.out
    split
    · rename_i hw
      rw [if_pos hw] at h
      exact Oper.wp_mono (fun a' w' k => ⟨k.1, k.2 hs hQ⟩) h
    · rename_i hw
      rw [if_neg hw] at h
      exact ⟨h.1, h.2 hs hQ⟩)
theorem r_done (hr : Region.ready .any ops l = []) (h : Q .normal a w) : wpR P ops Q late S m l a w := fun _ _ => wpAnyT_done hr h
end
end Go.Proofs.Ytokpdecpmcbcpaa
