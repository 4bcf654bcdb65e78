/- ViewNil: the run, whatever the arguments. -/
import Derived.Test.YtlpgpckhpjnegaaGreatDoorG
import Derived.Test.YtlpgpckhpjnegaaGreatDoorTE
import Derived.Test.YtlpgpckhpjnegaaGreatDoorFc
set_option maxRecDepth 100000
set_option linter.unusedVariables false
namespace Go.Proofs.YtlpgpckhpjnegaaGreatDoor
open Go Go.Sx Go.Ex
theorem nil_run_some : ∀ (u th : Int) (m c : Nat) (sp : Option Nat), isTrue (Ex.runT Tryz.prog Tab.tTE (xreg Tryz.prog) 100000 (.call 4 [.int .u64 u, .int .i64 th, .slice (some ⟨1000, 0, sp⟩) m c] (AH.globN tabs 3654))) = true := by
  intro u th m c sp
  kernel_rfl
theorem nil_run_none : ∀ (u th : Int) (m c : Nat), isTrue (Ex.runT Tryz.prog Tab.tTE (xreg Tryz.prog) 100000 (.call 4 [.int .u64 u, .int .i64 th, .slice none m c] (AH.globN tabs 3654))) = true := by
  intro u th m c
  kernel_rfl
theorem nil_call (u th : Int) (a : Option Addr) (m c : Nat) (hc : c < OPEN) (W : World) (hg : ∀ p ∈ tabs, GlobOk W p) : CR Tryz.prog 4 #[.int .u64 u, .int .i64 th, .slice a m c] W (fun v w' => v = .bool true ∧ Chg [] W w') := by
  have hcap : ¬ OPEN ≤ c := by omega
  cases a with
  | none => exact tab_args mixed Tab.tTE_ok (nil_run_none u th m c) W hg (by decide) (by simp [nmL, nm]) E00
  | some ad =>
    obtain ⟨b, o, sp⟩ := ad
    have h := tab_args mixed Tab.tTE_ok (nil_run_some u th m c sp) W hg (by decide) (by simp [nmL, nm]) (fun _ => ⟨b, o, 0⟩)
    have e : ([.int .u64 u, .int .i64 th, .slice (some ⟨1000, 0, sp⟩) m c] : List Value).map (ren (EN fun _ => ⟨b, o, 0⟩)) = [.int .u64 u, .int .i64 th, .slice (some ⟨b, o, sp⟩) m c] := by
      simp [ren, renAd, renCap, EN, GB, hcap]
    rw [e] at h
    exact h
end Go.Proofs.YtlpgpckhpjnegaaGreatDoor
