/- The structs that the laws' arguments are made of: what reads as one has a plain value. -/
import Derived.Test.YtankidkjkmfefaaOpens
import Derived.Test.YtankidkjkmfefaaFx0
import Derived.KernelRfl
namespace Go.Proofs.Ytankidkjkmfefaa.Opens
open Go.RowKit Go.Deep Go.Proofs.Ytankidkjkmfefaa.F Go.Proofs.YtankidkjkmfefaaW.PrintWords Go.Proofs.YtankidkjkmfefaaW.PrintLast Go.Proofs.YtankidkjkmfefaaW.PrintMore
def G34 (x : S34) : Prop := ((Lit.int .i64 x.f0).wf = true) ∧ ((Lit.int .i64 x.f1).wf = true)
theorem o34 {H : Type} {enc : TypeId × Value → H} {w : World} {sp : Nat → Bool} : Opens enc Try.prog w sp 34 k34 G34 :=
  opens_struct Try.underlying34 (by kernel_rfl) (tail_cons rfl (by kernel_rfl) (opens_int Try.underlying3) (tail_one rfl (by kernel_rfl) rfl (opens_int Try.underlying3))) (fun p => (⟨p.1, p.2⟩ : S34)) (fun _ => rfl)
def G36 (x : S36) : Prop := ((Lit.int .i64 x.f0).wf = true) ∧ ((Lit.int .i64 x.f1).wf = true) ∧ (((∀ y ∈ x.f2, (Lit.int .i64 y).wf = true) ∧ x.f2.length ≤ maxLen)) ∧ (G34 x.f3) ∧ ((Lit.int .i64 x.f4).wf = true) ∧ ((Lit.int .i64 x.f5).wf = true) ∧ (x.f6.size ≤ maxLen) ∧ (True)
theorem o36 {H : Type} {enc : TypeId × Value → H} {w : World} {sp : Nat → Bool} : Opens enc Try.prog w sp 36 k36 G36 :=
  opens_struct Try.underlying36 (by kernel_rfl) (tail_cons rfl (by kernel_rfl) (opens_int Try.underlying3) (tail_cons rfl (by kernel_rfl) (opens_int Try.underlying3) (tail_cons rfl (by kernel_rfl) (opens_slice Try.underlying22 (by kernel_rfl) (opens_int Try.underlying3)) (tail_cons rfl (by kernel_rfl) o34 (tail_cons rfl (by kernel_rfl) (opens_int Try.underlying3) (tail_cons rfl (by kernel_rfl) (opens_int Try.underlying3) (tail_cons rfl (by kernel_rfl) (opens_string Try.underlying9) (tail_one rfl (by kernel_rfl) rfl (opens_bool Try.underlying4))))))))) (fun p => (⟨p.1, p.2.1, p.2.2.1, p.2.2.2.1, p.2.2.2.2.1, p.2.2.2.2.2.1, p.2.2.2.2.2.2.1, p.2.2.2.2.2.2.2⟩ : S36)) (fun _ => rfl)
end Go.Proofs.Ytankidkjkmfefaa.Opens
