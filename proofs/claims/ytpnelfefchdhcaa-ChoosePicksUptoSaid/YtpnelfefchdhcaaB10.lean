/- How reports that came in are read, with the bounds that any machine's memory gives. -/
import Derived.Test.YtpnelfefchdhcaaB9
namespace Go.Proofs.Ytpnelfefchdhcaa
open Go.RowKit Go.Proofs.YtpnelfefchdhcaaW.PrintWords Go.Proofs.YtpnelfefchdhcaaW.PrintLast Go.Proofs.YtpnelfefchdhcaaW.PrintMore
open Go.Proofs.Ytpnelfefchdhcaa.PChoosePicks
set_option linter.unusedVariables false
set_option linter.unusedSimpArgs false
set_option maxRecDepth 100000

theorem wf64 {n : Int} (h : (Lit.int .i64 n).wf = true) : n ≤ 9223372036854775807 := by simp [Lit.wf] at h; omega
def RepIn (r : S30) : Prop := RepOk r ∧ r.f2 ≤ 9223372036854775807 ∧ ∀ p ∈ r.f5, p.f0 ≤ 9223372036854775807
theorem opn25 : Opn Try.prog k25 25 (fun _ => True) :=
  (Opn.iso (fun x : S25 => (x.f0, x.f1)) (fun a => ⟨a.1, a.2⟩) (fun _ => rfl) (Opn.struct Try.underlying25 (by kernel_rfl) (OpnFs.cons rfl (by kernel_rfl) (Opn.int (k := .i64) Try.underlying3) (OpnFs.one rfl (by kernel_rfl) (Opn.int (k := .i64) Try.underlying3))))).imp fun x h => by
    trivial
theorem opn57 : Opn Try.prog k57 57 VoteOk :=
  (Opn.iso (fun x : S57 => (x.f0, x.f1)) (fun a => ⟨a.1, a.2⟩) (fun _ => rfl) (Opn.struct Try.underlying57 (by kernel_rfl) (OpnFs.cons rfl (by kernel_rfl) (Opn.int (k := .i64) Try.underlying3) (OpnFs.one rfl (by kernel_rfl) (Opn.slice (B := 1) Try.underlying26 (by kernel_rfl) (by kernel_rfl) (Opn.int (k := .u8) Try.underlying5)))))).imp fun x h => by
    have h1 : x.f1.length * 1 ≤ 140737488351232 := h.2.2
    show x.f1.length ≤ _
    omega
theorem opn36 : Opn Try.prog k36 36 ReqOk :=
  (Opn.iso (fun x : S36 => (x.f0, (x.f1, (x.f2, x.f3)))) (fun a => ⟨a.1, a.2.1, a.2.2.1, a.2.2.2⟩) (fun _ => rfl) (Opn.struct Try.underlying36 (by kernel_rfl) (OpnFs.cons rfl (by kernel_rfl) (Opn.int (k := .i64) Try.underlying3) (OpnFs.cons rfl (by kernel_rfl) (Opn.int (k := .i64) Try.underlying3) (OpnFs.cons rfl (by kernel_rfl) (Opn.slice (B := 1) Try.underlying26 (by kernel_rfl) (by kernel_rfl) (Opn.int (k := .u8) Try.underlying5)) (OpnFs.one rfl (by kernel_rfl) (Opn.slice (B := 1) Try.underlying26 (by kernel_rfl) (by kernel_rfl) (Opn.int (k := .u8) Try.underlying5)))))))).imp fun x h => by
    have h1 : x.f2.length * 1 ≤ 140737488351232 := h.2.2.1.2
    have h2 : x.f3.length * 1 ≤ 140737488351232 := h.2.2.2.2
    exact ⟨by omega, by omega⟩
theorem opn45 : Opn Try.prog k45 45 (fun p => PrepOk p ∧ p.f0 ≤ 9223372036854775807) :=
  (Opn.iso (fun x : S45 => (x.f0, (x.f1, (x.f2, x.f3)))) (fun a => ⟨a.1, a.2.1, a.2.2.1, a.2.2.2⟩) (fun _ => rfl) (Opn.struct Try.underlying45 (by kernel_rfl) (OpnFs.cons rfl (by kernel_rfl) (Opn.int (k := .i64) Try.underlying3) (OpnFs.cons rfl (by kernel_rfl) opn25 (OpnFs.cons rfl (by kernel_rfl) opn36 (OpnFs.one rfl (by kernel_rfl) (Opn.slice (B := 32) Try.underlying27 (by kernel_rfl) (by kernel_rfl) opn57))))))).imp fun x h => by
    exact ⟨⟨h.2.2.1, h.2.2.2.1, h.2.2.2.2⟩, wf64 h.1⟩
theorem opn30 : Opn Try.prog k30 30 RepIn :=
  (Opn.iso (fun x : S30 => (x.f0, (x.f1, (x.f2, (x.f3, (x.f4, (x.f5, x.f6))))))) (fun a => ⟨a.1, a.2.1, a.2.2.1, a.2.2.2.1, a.2.2.2.2.1, a.2.2.2.2.2.1, a.2.2.2.2.2.2⟩) (fun _ => rfl) (Opn.struct Try.underlying30 (by kernel_rfl) (OpnFs.cons rfl (by kernel_rfl) opn25 (OpnFs.cons rfl (by kernel_rfl) (Opn.int (k := .i64) Try.underlying3) (OpnFs.cons rfl (by kernel_rfl) (Opn.int (k := .i64) Try.underlying3) (OpnFs.cons rfl (by kernel_rfl) (Opn.slice (B := 1) Try.underlying26 (by kernel_rfl) (by kernel_rfl) (Opn.int (k := .u8) Try.underlying5)) (OpnFs.cons rfl (by kernel_rfl) (Opn.slice (B := 32) Try.underlying27 (by kernel_rfl) (by kernel_rfl) opn57) (OpnFs.cons rfl (by kernel_rfl) (Opn.slice (B := 112) Try.underlying28 (by kernel_rfl) (by kernel_rfl) opn45) (OpnFs.one rfl (by kernel_rfl) (Opn.slice (B := 1) Try.underlying26 (by kernel_rfl) (by kernel_rfl) (Opn.int (k := .u8) Try.underlying5))))))))))).imp fun x h => by
    have h3 : x.f3.length * 1 ≤ 140737488351232 := h.2.2.2.1.2
    have h6 : x.f6.length * 1 ≤ 140737488351232 := h.2.2.2.2.2.2.2
    exact ⟨⟨by omega, h.2.2.2.2.1.1, h.2.2.2.2.1.2, fun p hp => (h.2.2.2.2.2.1.1 p hp).1, h.2.2.2.2.2.1.2, by omega⟩, wf64 h.2.2.1, fun p hp => (h.2.2.2.2.2.1.1 p hp).2⟩
theorem repsOpn : Opn Try.prog (Kd.slice 30 k30) 22 (fun l => (∀ r ∈ l, RepIn r) ∧ l.length * 128 ≤ 140737488351232) := Opn.slice (B := 128) Try.underlying22 (by kernel_rfl) (by kernel_rfl) opn30
end Go.Proofs.Ytpnelfefchdhcaa
