/- The structs that the laws' arguments are made of: what reads as one has a plain value. -/
import Derived.Test.YtcpnmlmghjhelaaOpens
import Derived.Test.YtcpnmlmghjhelaaFxK
import Derived.KernelRfl
namespace Go.Proofs.Ytcpnmlmghjhelaa.Opens
open Go.RowKit Go.Deep Go.Proofs.Ytcpnmlmghjhelaa.F Go.Proofs.YtcpnmlmghjhelaaW.PrintWords Go.Proofs.YtcpnmlmghjhelaaW.PrintLast Go.Proofs.YtcpnmlmghjhelaaW.PrintMore
def G47 (x : S47) : Prop := ((Lit.int .i64 x.f0).wf = true) ∧ ((Lit.int .i64 x.f1).wf = true)
theorem o47 {H : Type} {enc : TypeId × Value → H} {w : World} {sp : Nat → Bool} : Opens enc Try.prog w sp 47 k47 G47 :=
  opens_struct Try.underlying47 (by kernel_rfl) (tail_cons rfl (by kernel_rfl) (opens_int Try.underlying3) (tail_one rfl (by kernel_rfl) rfl (opens_int Try.underlying3))) (fun p => (⟨p.1, p.2⟩ : S47)) (fun _ => rfl)
def G49 (x : S49) : Prop := ((Lit.int .i64 x.f0).wf = true) ∧ ((Lit.int .i64 x.f1).wf = true) ∧ (((∀ y ∈ x.f2, (Lit.int .i64 y).wf = true) ∧ x.f2.length ≤ maxLen)) ∧ (G47 x.f3) ∧ ((Lit.int .i64 x.f4).wf = true) ∧ ((Lit.int .i64 x.f5).wf = true) ∧ (x.f6.size ≤ maxLen) ∧ (True)
theorem o49 {H : Type} {enc : TypeId × Value → H} {w : World} {sp : Nat → Bool} : Opens enc Try.prog w sp 49 k49 G49 :=
  opens_struct Try.underlying49 (by kernel_rfl) (tail_cons rfl (by kernel_rfl) (opens_int Try.underlying3) (tail_cons rfl (by kernel_rfl) (opens_int Try.underlying3) (tail_cons rfl (by kernel_rfl) (opens_slice Try.underlying45 (by kernel_rfl) (opens_int Try.underlying3)) (tail_cons rfl (by kernel_rfl) o47 (tail_cons rfl (by kernel_rfl) (opens_int Try.underlying3) (tail_cons rfl (by kernel_rfl) (opens_int Try.underlying3) (tail_cons rfl (by kernel_rfl) (opens_string Try.underlying9) (tail_one rfl (by kernel_rfl) rfl (opens_bool Try.underlying4))))))))) (fun p => (⟨p.1, p.2.1, p.2.2.1, p.2.2.2.1, p.2.2.2.2.1, p.2.2.2.2.2.1, p.2.2.2.2.2.2.1, p.2.2.2.2.2.2.2⟩ : S49)) (fun _ => rfl)
def G30 (x : S30) : Prop := ((Lit.int .i64 x.f0).wf = true) ∧ ((Lit.int .i64 x.f1).wf = true) ∧ ((Lit.int .i64 x.f2).wf = true) ∧ (((∀ y ∈ x.f3, G49 y) ∧ x.f3.length ≤ maxLen))
theorem o30 {H : Type} {enc : TypeId × Value → H} {w : World} {sp : Nat → Bool} : Opens enc Try.prog w sp 30 k30 G30 :=
  opens_struct Try.underlying30 (by kernel_rfl) (tail_cons rfl (by kernel_rfl) (opens_int Try.underlying3) (tail_cons rfl (by kernel_rfl) (opens_int Try.underlying3) (tail_cons rfl (by kernel_rfl) (opens_int Try.underlying3) (tail_one rfl (by kernel_rfl) rfl (opens_slice Try.underlying28 (by kernel_rfl) o49))))) (fun p => (⟨p.1, p.2.1, p.2.2.1, p.2.2.2⟩ : S30)) (fun _ => rfl)
def G32 (x : S32) : Prop := ((Lit.int .i64 x.f0).wf = true) ∧ ((Lit.int .i64 x.f1).wf = true) ∧ ((Lit.int .i64 x.f2).wf = true) ∧ ((Lit.int .i64 x.f3).wf = true) ∧ ((Lit.int .i64 x.f4).wf = true) ∧ ((Lit.int .i64 x.f5).wf = true) ∧ ((Lit.int .u64 x.f6).wf = true) ∧ (G30 x.f7) ∧ (x.f8.size ≤ maxLen)
theorem o32 {H : Type} {enc : TypeId × Value → H} {w : World} {sp : Nat → Bool} : Opens enc Try.prog w sp 32 k32 G32 :=
  opens_struct Try.underlying32 (by kernel_rfl) (tail_cons rfl (by kernel_rfl) (opens_int Try.underlying3) (tail_cons rfl (by kernel_rfl) (opens_int Try.underlying3) (tail_cons rfl (by kernel_rfl) (opens_int Try.underlying3) (tail_cons rfl (by kernel_rfl) (opens_int Try.underlying3) (tail_cons rfl (by kernel_rfl) (opens_int Try.underlying3) (tail_cons rfl (by kernel_rfl) (opens_int Try.underlying3) (tail_cons rfl (by kernel_rfl) (opens_int Try.underlying27) (tail_cons rfl (by kernel_rfl) o30 (tail_one rfl (by kernel_rfl) rfl (opens_string Try.underlying9)))))))))) (fun p => (⟨p.1, p.2.1, p.2.2.1, p.2.2.2.1, p.2.2.2.2.1, p.2.2.2.2.2.1, p.2.2.2.2.2.2.1, p.2.2.2.2.2.2.2.1, p.2.2.2.2.2.2.2.2⟩ : S32)) (fun _ => rfl)
def G42 (x : S42) : Prop := ((Lit.int .i64 x.f0).wf = true) ∧ ((Lit.int .i64 x.f1).wf = true) ∧ (((∀ y ∈ x.f2, G32 y) ∧ x.f2.length ≤ maxLen))
theorem o42 {H : Type} {enc : TypeId × Value → H} {w : World} {sp : Nat → Bool} : Opens enc Try.prog w sp 42 k42 G42 :=
  opens_struct Try.underlying42 (by kernel_rfl) (tail_cons rfl (by kernel_rfl) (opens_int Try.underlying3) (tail_cons rfl (by kernel_rfl) (opens_int Try.underlying3) (tail_one rfl (by kernel_rfl) rfl (opens_slice Try.underlying22 (by kernel_rfl) o32)))) (fun p => (⟨p.1, p.2.1, p.2.2⟩ : S42)) (fun _ => rfl)
end Go.Proofs.Ytcpnmlmghjhelaa.Opens
