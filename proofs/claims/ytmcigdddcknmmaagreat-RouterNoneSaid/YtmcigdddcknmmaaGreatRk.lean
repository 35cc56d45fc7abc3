/- Words on the run of works in parts. No condition. -/
import Derived.KernelRfl
import Derived.Test.YtmcigdddcknmmaaGreatSt
namespace Go.Proofs.YtmcigdddcknmmaaGreat
open Go Go.Ev
def isT (r : RV) : Bool := match r with | .go (.b b) _ _ => b | _ => false
theorem isT_inv {r : RV} (h : isT r = true) : ∃ h k, r = .go (.b true) h k := by
  unfold isT at h
  split at h
  · subst h; exact ⟨_, _, rfl⟩
  · cases h
def wpath : List Dir := [.r, .r, .r, .r, .l, .r, .k]
def wbody : CC := match ccAt wpath c5.bd with | some (.lo b) => b | _ => .no
noncomputable def sW : Sf := selfH fns quiet (handV .e) 100000
end Go.Proofs.YtmcigdddcknmmaaGreat
