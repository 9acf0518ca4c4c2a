/- Small facts on directions. -/
import Derived.Test.YtghmkheoopakaaaDir
set_option linter.unusedVariables false
namespace Go.Proofs.Ytghmkheoopakaaa
open Go.Pen

theorem chk_or (p q : Int) : chk p q = 0 ∨ chk p q = 60 := by unfold chk; split <;> simp
theorem chk_dir {p q : Int} (h : chk p q = 0) : isDir p q = true := by
  by_cases hd : isDir p q = true
  · exact hd
  · rw [chk_no hd] at h; omega

end Go.Proofs.Ytghmkheoopakaaa
