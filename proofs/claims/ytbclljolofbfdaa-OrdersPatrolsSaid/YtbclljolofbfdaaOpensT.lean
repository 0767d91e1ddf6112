/- The structs that the laws' arguments are made of: what reads as one has a plain value. -/
import Derived.Test.YtbclljolofbfdaaOpens
import Derived.Test.YtbclljolofbfdaaFx0
import Derived.KernelRfl
namespace Go.Proofs.Ytbclljolofbfdaa.Opens
open Go.RowKit Go.Deep Go.Proofs.Ytbclljolofbfdaa.F Go.Proofs.YtbclljolofbfdaaW.PrintWords Go.Proofs.YtbclljolofbfdaaW.PrintLast Go.Proofs.YtbclljolofbfdaaW.PrintMore
def G26 (x : S26) : Prop := ((Lit.int .i64 x.f0).wf = true) ∧ ((Lit.int .i64 x.f1).wf = true)
theorem o26 {H : Type} {enc : TypeId × Value → H} {w : World} {sp : Nat → Bool} : Opens enc Try.prog w sp 26 k26 G26 :=
  opens_struct Try.underlying26 (by kernel_rfl) (tail_cons rfl (by kernel_rfl) (opens_int Try.underlying3) (tail_one rfl (by kernel_rfl) rfl (opens_int Try.underlying3))) (fun p => (⟨p.1, p.2⟩ : S26)) (fun _ => rfl)
def G28 (x : S28) : Prop := ((Lit.int .i64 x.f0).wf = true) ∧ (G26 x.f1) ∧ ((Lit.int .i64 x.f2).wf = true) ∧ (x.f3.size ≤ maxLen)
theorem o28 {H : Type} {enc : TypeId × Value → H} {w : World} {sp : Nat → Bool} : Opens enc Try.prog w sp 28 k28 G28 :=
  opens_struct Try.underlying28 (by kernel_rfl) (tail_cons rfl (by kernel_rfl) (opens_int Try.underlying3) (tail_cons rfl (by kernel_rfl) o26 (tail_cons rfl (by kernel_rfl) (opens_int Try.underlying3) (tail_one rfl (by kernel_rfl) rfl (opens_string Try.underlying9))))) (fun p => (⟨p.1, p.2.1, p.2.2.1, p.2.2.2⟩ : S28)) (fun _ => rfl)
end Go.Proofs.Ytbclljolofbfdaa.Opens
