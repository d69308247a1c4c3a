/- Where ways come together again. Condition: none. -/
import Derived.Test.YtbikhpphdhffaaaDoorStep2
namespace Go.Vc
set_option linter.all false
theorem v_seqM1 {P : Program} {a c : MCode} {Q : Post} {E : Env} {h : Heap} (slots : List (Nat × Value)) (rest : ∀ (R : Env) (h' : Heap), Ext h h' → vc P c Q (R.puts slots) h')
    (k : (∀ (E' : Env) (h' : Heap), AllEq E' slots → Ext h h' → vc P c Q E' h') → vc P (.seq a c) Q E h) : vc P (.seq a c) Q E h :=
  k fun E' h' hs e => by
    have := rest E' h' e
    rwa [puts_self E' _ hs] at this
theorem v_seqM2 {P : Program} {a b c : MCode} {Q : Post} {E : Env} {h : Heap} (slots : List (Nat × Value)) (rest : ∀ (R : Env) (h' : Heap), Ext h h' → vc P c Q (R.puts slots) h')
    (k : (∀ (E' : Env) (h' : Heap), AllEq E' slots → Ext h h' → vc P c Q E' h') → vc P (.seq a (.seq b c)) Q E h) : vc P (.seq a (.seq b c)) Q E h :=
  k fun E' h' hs e => by
    have := rest E' h' e
    rwa [puts_self E' _ hs] at this
theorem beqI (a b : Int) : (a == b) = decide (a = b) := by rw [Bool.eq_iff_iff]; simp
theorem beqB (a b : Bool) : (a == b) = decide (a = b) := by rw [Bool.eq_iff_iff]; simp
end Go.Vc

