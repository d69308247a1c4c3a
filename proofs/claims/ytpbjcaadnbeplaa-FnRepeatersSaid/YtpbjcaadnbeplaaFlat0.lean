/- The structs that the functions of this seat read. Condition: none. -/
import Derived.Test.YtpbjcaadnbeplaaLaws1
import Derived.Test.YtpbjcaadnbeplaaDeep2
import Derived.Test.YtpbjcaadnbeplaaTypes
namespace Go.Proofs.Ytpbjcaadnbeplaa
open Go.Vc
set_option linter.all false
structure GlanceD where
  next : Bool
  signal : Int
instance : DecidableEq GlanceD := fun a b => decidable_of_iff (a.next = b.next ∧ a.signal = b.signal) (by cases a; cases b; simp)
def GlanceD.val (a : GlanceD) : Value := .agg #[.bool a.next, .int .i64 a.signal]
instance : Enc GlanceD := ⟨2, fun a => [.bool a.next, .int .i64 a.signal], fun _ => rfl, by decide, fun a u h => by simp at h; rcases h with rfl | rfl <;> rfl⟩
end Go.Proofs.Ytpbjcaadnbeplaa

