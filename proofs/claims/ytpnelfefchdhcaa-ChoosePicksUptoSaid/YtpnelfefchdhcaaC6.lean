/- How reports that came in are read, with their number of preps within their bulk. -/
import Derived.Test.YtpnelfefchdhcaaC5
import Derived.Test.YtpnelfefchdhcaaB10
import Derived.Test.YtpnelfefchdhcaaOpnB
namespace Go.Proofs.Ytpnelfefchdhcaa
open Go.RowKit Go.Proofs.YtpnelfefchdhcaaW.PrintWords Go.Proofs.YtpnelfefchdhcaaW.PrintLast Go.Proofs.YtpnelfefchdhcaaW.PrintMore
open Go.Proofs.Ytpnelfefchdhcaa.PChoosePicks
set_option linter.unusedVariables false
set_option linter.unusedSimpArgs false
set_option maxRecDepth 100000

theorem sum_ones {α : Type} (l : List α) : (l.map fun _ => 1).sum = l.length := by
  induction l with
  | nil => rfl
  | cons a l ih => rw [List.map_cons, List.sum_cons, ih, List.length_cons]; omega
theorem opn30M : OpnM Try.prog k30 30 RepIn (fun x => x.f5.length) :=
  (OpnM.iso (fun x : S30 => (x.f0, (x.f1, (x.f2, (x.f3, (x.f4, (x.f5, x.f6))))))) (fun a => ⟨a.1, a.2.1, a.2.2.1, a.2.2.2.1, a.2.2.2.2.1, a.2.2.2.2.2.1, a.2.2.2.2.2.2⟩) (fun _ => rfl) (OpnM.struct Try.underlying30 (by kernel_rfl) (OpnFsM.cons rfl (by kernel_rfl) (OpnM.of opn25) (OpnFsM.cons rfl (by kernel_rfl) (OpnM.of (Opn.int (k := .i64) Try.underlying3)) (OpnFsM.cons rfl (by kernel_rfl) (OpnM.of (Opn.int (k := .i64) Try.underlying3)) (OpnFsM.cons rfl (by kernel_rfl) (OpnM.of (Opn.slice (B := 1) Try.underlying26 (by kernel_rfl) (by kernel_rfl) (Opn.int (k := .u8) Try.underlying5))) (OpnFsM.cons rfl (by kernel_rfl) (OpnM.of (Opn.slice (B := 32) Try.underlying27 (by kernel_rfl) (by kernel_rfl) opn57)) (OpnFsM.cons rfl (by kernel_rfl) (OpnM.slice (B := 112) Try.underlying28 (by kernel_rfl) (by kernel_rfl) (OpnM.of opn45)) (OpnFsM.one rfl (by kernel_rfl) (OpnM.of (Opn.slice (B := 1) Try.underlying26 (by kernel_rfl) (by kernel_rfl) (Opn.int (k := .u8) Try.underlying5)))))))))))).imp (fun x h => by
    have h3 : x.f3.length * 1 ≤ 140737488351232 := h.2.2.2.1.2
    have h6 : x.f6.length * 1 ≤ 140737488351232 := h.2.2.2.2.2.2.2
    exact ⟨⟨by omega, h.2.2.2.2.1.1, h.2.2.2.2.1.2, fun p hp => (h.2.2.2.2.2.1.1 p hp).1, h.2.2.2.2.2.1.2, by omega⟩, wf64 h.2.2.1, fun p hp => (h.2.2.2.2.2.1.1 p hp).2⟩)
    (fun x => by
      show x.f5.length ≤ 1 + (1 + (1 + (1 + (1 + (((x.f5.map fun _ => 1).sum + 1) + 1)))))
      have h := sum_ones x.f5
      omega)
theorem repsM : OpnM Try.prog (Kd.slice 30 k30) 22 (fun l => (∀ r ∈ l, RepIn r) ∧ l.length * 128 ≤ 140737488351232) (fun l => (l.flatMap S30.f5).length) :=
  (OpnM.slice (B := 128) Try.underlying22 (by kernel_rfl) (by kernel_rfl) opn30M).imp (fun l h => h) (fun l => by rw [List.length_flatMap]; omega)
theorem LWf_of {l : List S30} (h : ∀ r ∈ l, RepIn r) : LWf l := ⟨fun r hr => (h r hr).2.1, fun r hr => (h r hr).2.2, LOk_of fun r hr => (h r hr).1⟩
end Go.Proofs.Ytpnelfefchdhcaa
