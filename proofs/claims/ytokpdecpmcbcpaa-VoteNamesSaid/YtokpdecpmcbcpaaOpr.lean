/- Runs of single operations over such a frame. Nothing of the program. -/
import Derived.Test.YtokpdecpmcbcpaaMem
namespace Go.Proofs.Ytokpdecpmcbcpaa
open Go.RowKit Go.Proofs.YtokpdecpmcbcpaaW.PrintWords Go.Proofs.YtokpdecpmcbcpaaW.PrintLast Go.Proofs.YtokpdecpmcbcpaaW.PrintMore
set_option linter.unusedVariables false
set_option linter.unusedSimpArgs false
/-! ### Values in other words -/
theorem wr64 {z : Int} (h0 : -9223372036854775808 ≤ z) (h1 : z ≤ 9223372036854775807) : Value.int .i64 (IntKind.i64.wrap z) = .int .i64 z := by rw [IntWalk.i64_in z ⟨h0, h1⟩]
theorem bt {p : Prop} [Decidable p] (h : p) : Value.bool (decide p) = .bool true := by rw [decide_eq_true h]
theorem bf {p : Prop} [Decidable p] (h : ¬ p) : Value.bool (decide p) = .bool false := by rw [decide_eq_false h]
theorem beqt {x y : Int} (h : x = y) : Value.bool (x == y) = .bool true := by rw [beq_iff_eq.2 h]
theorem beqf {x y : Int} (h : x ≠ y) : Value.bool (x == y) = .bool false := by rw [beq_eq_false_iff_ne.2 h]
theorem bnet {x y : Int} (h : x ≠ y) : Value.bool (x != y) = .bool true := by rw [bne_iff_ne.2 h]
theorem bnef {x y : Int} (h : x = y) : Value.bool (x != y) = .bool false := by subst h; simp
theorem vmax (k : IntKind) (x y : Int) : Value.int k (if y > x then y else x) = .int k (max x y) := by
  congr 1; rw [Int.max_def]; split <;> split <;> omega
theorem vmin (k : IntKind) (x y : Int) : Value.int k (if y < x then y else x) = .int k (min x y) := by
  congr 1; rw [Int.min_def]; split <;> split <;> omega
section
variable {P : Program} {n : Nat} {L : Nat → Value} {ps : List (Nat × Value)} {w : World} {o : Oper}
/-- A remainder, a quotient. -/
theorem run_rem {t t2 : TypeId} {x y : Operand} {k : IntKind} {a b : Int} (ho : o.op = .binOp .rem t x y t2) (hx : evF n L ps x = .int k a) (hy : evF n L ps y = .int k b) (hb : b ≠ 0) : (execOp (evF n L ps) o).run P w = .ok (.value (.int k (a.tmod b))) w := by
  unfold execOp
  simp [ho, hx, hy, eqGuard, binOp, Op.intDiv, hb, Sem.run_bind]
theorem run_quo {t t2 : TypeId} {x y : Operand} {k : IntKind} {a b : Int} (ho : o.op = .binOp .quo t x y t2) (hx : evF n L ps x = .int k a) (hy : evF n L ps y = .int k b) (hb : b ≠ 0) : (execOp (evF n L ps) o).run P w = .ok (.value (.int k (k.wrap (a.tdiv b)))) w := by
  unfold execOp
  simp [ho, hx, hy, eqGuard, binOp, Op.intDiv, hb, Sem.run_bind]
theorem vmod {k : IntKind} {a b : Int} (h0 : 0 ≤ a) : Value.int k (a.tmod b) = .int k (a % b) := by rw [Int.tmod_eq_emod_of_nonneg h0]
/-- An element's address. -/
theorem run_ixa {t : TypeId} {x ix : Operand} {ad : Addr} {len cap sz q : Nat} {e : TypeId} {k : IntKind} {z : Int} (ho : o.op = .indexAddr t x ix) (hx : evF n L ps x = .slice (some ad) len cap) (hi : evF n L ps ix = .int k z)
    (hu : P.underlying t = some (.slice e)) (hs : (P.info? e).map (·.size) = some sz) (hz : z = (q : Int)) (hq : q < len) : (execOp (evF n L ps) o).run P w = .ok (.value (.pointer (some (ad.add (q * sz))))) w := by
  subst hz
  obtain ⟨inf, hinf, hsz⟩ := Option.map_eq_some_iff.1 hs
  have h2 : (0 : Int) ≤ (q : Int) ∧ (q : Int) < (len : Int) := by omega
  unfold execOp
  simp [ho, hx, hi, Instr.indexAt, asIntOf, Sem.run_bind, run_underlying hu, sizeOf, typeInfo, hinf, hsz, h2]
  exact fun h => absurd h (by omega)
theorem run_ixaA {t : TypeId} {x ix : Operand} {ad : Addr} {len sz q : Nat} {e : TypeId} {k : IntKind} {z : Int} (ho : o.op = .indexAddr t x ix) (hx : evF n L ps x = .pointer (some ad)) (hi : evF n L ps ix = .int k z)
    (hu : P.underlying t = some (.array len e)) (hs : (P.info? e).map (·.size) = some sz) (hz : z = (q : Int)) (hq : q < len) : (execOp (evF n L ps) o).run P w = .ok (.value (.pointer (some (ad.add (q * sz))))) w := by
  subst hz
  obtain ⟨inf, hinf, hsz⟩ := Option.map_eq_some_iff.1 hs
  have h2 : (0 : Int) ≤ (q : Int) ∧ (q : Int) < (len : Int) := by omega
  unfold execOp
  simp [ho, hx, hi, Instr.indexAt, Instr.sureAddr, asIntOf, Sem.run_bind, run_underlying hu, sizeOf, typeInfo, hinf, hsz, h2]
  exact fun h => absurd h (by omega)
end
end Go.Proofs.Ytokpdecpmcbcpaa
