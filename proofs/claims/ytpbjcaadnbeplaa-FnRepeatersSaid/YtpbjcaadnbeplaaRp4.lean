/- What repeaters do along glances. Condition: none. Printed in part by a program. -/
import Derived.Test.YtpbjcaadnbeplaaRp3
namespace Go.Proofs.Ytpbjcaadnbeplaa
open Go.Vc
set_option linter.all false

def run (r : RepP) (l : List GlanceD) : RepP := l.foldl (fun r g => (gl r g).1) r
theorem run_snoc (r : RepP) (l : List GlanceD) (g : GlanceD) : run r (l ++ [g]) = (gl (run r l) g).1 := by simp [run]
theorem run_inv {r : RepP} (h : RInv r) (l : List GlanceD) : RInv (run r l) := by
  induction l generalizing r with
  | nil => exact h
  | cons g l ih => exact ih (h.gl g)
theorem run_len (r : RepP) (l : List GlanceD) : (run r l).passed.length ≤ r.passed.length + l.length := by
  induction l generalizing r with
  | nil => simp [run]
  | cons g l ih =>
    have h1 := ih (gl r g).1
    have h2 := (gl_len r g).2
    show (run (gl r g).1 l).passed.length ≤ _
    simp only [List.length_cons]; omega
abbrev rz : RepP := ⟨0, 0, 0, 0, []⟩
/-- where the run stands before each glance, and what comes of it -/
theorem run_step {r0 r : RepP} {xs : List GlanceD} {k : Nat} {x : GlanceD} (hx : xs[k]? = some x) (hr : r = run r0 (xs.take k)) : (gl r x).1 = run r0 (xs.take (k + 1)) := by
  rw [snoc_get hx, run_snoc, ← hr]
def shown (r0 : RepP) (xs : List GlanceD) : List Int := (List.range xs.length).map fun i => (run r0 (xs.take (i + 1))).shown
theorem spec_rpNew_ok  (h : Heap)  : Cn f_spec_rpNew [] h fun v h' => ∃ r0 : Value, v = .agg #[.int .i64 rz.phase, .int .i64 rz.holds, .int .i64 rz.again, .int .i64 rz.shown, r0] ∧ SlO h' r0 rz.passed ∧ Fr h.size r0 ∧ Ext h h' := by
  refine calls_of r_spec_rpNew ?_
  refine v_seq ?_
  refine v_ops ?_
  refine s_new (fun h2 b1 hbb1 hzb1 eh2 bxb1 => ?_)
  have E3 := (Ext.refl h).trans eh2
  have z4 := eh2.size
  have lbb1 := bxb1.lt
  refine s_nil ?_
  refine p_seqN ?_
  refine v_seq ?_
  refine v_ops ?_
  refine s_pure (.agg #[.int .i64 0, .int .i64 0, .int .i64 0, .int .i64 0, .slice none 0 0]) (fun _ q => w_build (seg_nil q)) ?_
  refine s_stBx (.agg #[.int .i64 0, .int .i64 0, .int .i64 0, .int .i64 0, .slice none 0 0]) [.int .i64 0, .int .i64 0, .int .i64 0, .int .i64 0, .slice none 0 0] [.int .i64 0, .int .i64 0, .int .i64 0, .int .i64 0, .slice none 0 0] bxb1 rfl rfl rfl rfl (by simp) (all_cons rfl (all_cons rfl (all_cons rfl (all_cons rfl (all_cons rfl all_nil))))) rfl (fun h5 mh5 sh5 bxx6 => ?_)
  have E7 := E3.mod mh5 (fun b hb => by simp at hb; omega)
  refine s_nil ?_
  refine p_seqN ?_
  refine v_ret ?_
  refine p_ret [.agg #[.int .i64 0, .int .i64 0, .int .i64 0, .int .i64 0, .slice none 0 0]] (.agg #[.int .i64 0, .int .i64 0, .int .i64 0, .int .i64 0, .slice none 0 0]) (fun _ q => (bxx6.loadA rfl q)) rfl ?_
  have ho : rz = ⟨0, 0, 0, 0, []⟩ := by rfl
  exact ⟨(.slice none 0 0), by first | (rw [ho]; done) | rfl, sl_eq (SlX.nil (α := Int) true _) (congrArg (fun o => o.passed) ho).symm, Fr.nil _, E7⟩

end Go.Proofs.Ytpbjcaadnbeplaa


