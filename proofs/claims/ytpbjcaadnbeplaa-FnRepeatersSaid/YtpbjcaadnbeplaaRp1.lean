/- Plain glances: what the functions return. Condition: none. -/
import Derived.Test.YtpbjcaadnbeplaaCom1
import Derived.Test.YtpbjcaadnbeplaaLaws2
import Derived.Test.YtpbjcaadnbeplaaRes
import Derived.Test.YtpbjcaadnbeplaaGl1
namespace Go.Proofs.Ytpbjcaadnbeplaa
open Go.Vc

abbrev PassOk (n : Int) : Prop := (1 ≤ n ∧ n ≤ 60) ∨ n = 61
theorem isPassed_ok (n : Int) (h : Heap) : Cn f_impl_isPassed [.int .i64 n] h fun v h' => v = .bool (decide (PassOk n)) ∧ h' = h := by
  refine calls_of r_impl_isPassed ?_
  refine CallsH.mono (calls_of r_impl_IsContent ((within_ok n 1 60 h).mono ?_) : Cn f_impl_IsContent [.int .i64 n] h fun v h' => v = .bool (decide (1 ≤ n ∧ n ≤ 60)) ∧ h' = h) ?_
  · rintro _ h ⟨rfl, rfl⟩
    exact ⟨rfl, rfl⟩
  rintro _ h ⟨rfl, rfl⟩
  refine SplitVC.mk (fun c => ?_) (fun c => ?_)
  · exact ⟨bool_t (.inl c), rfl⟩
  · exact ⟨bool_is ⟨fun hh => .inr hh, fun hh => hh.resolve_left c⟩, rfl⟩
theorem rpPass_ok (n : Int) (h : Heap) : Cn f_spec_rpPass [.int .i64 n] h fun v h' => v = .bool (decide (PassOk n)) ∧ h' = h := by
  refine calls_of r_spec_rpPass ?_
  refine CallsH.mono (calls_of r_spec_sgContent ((l1In_ok n 1 60 h).mono ?_) : Cn f_spec_sgContent [.int .i64 n] h fun v h' => v = .bool (decide (1 ≤ n ∧ n ≤ 60)) ∧ h' = h) ?_
  · rintro _ h ⟨rfl, rfl⟩
    exact ⟨rfl, rfl⟩
  rintro _ h ⟨rfl, rfl⟩
  refine SplitVC.mk (fun c => ?_) (fun c => ?_)
  · exact ⟨bool_t (.inl c), rfl⟩
  · exact ⟨bool_is ⟨fun hh => .inr hh, fun hh => hh.resolve_left c⟩, rfl⟩

def pgList (xs : List Int) : List GlanceD := xs.flatMap fun n => [⟨false, n⟩, ⟨true, n⟩]
def pgOut (xs : List Int) : List GlanceD × Bool := if xs.length ≤ 40 ∧ ∀ x ∈ xs, PassOk x then (pgList xs, true) else ([], false)
theorem pgList_len (xs : List Int) : (pgList xs).length = 2 * xs.length := by
  induction xs with
  | nil => rfl
  | cons x xs ih => simp only [pgList, List.flatMap_cons, List.length_append, List.length_cons, List.length_nil] at *; omega
theorem implPlainGlances_ok (v : Value) (xs : List Int) (h : Heap) (hs : Sl h v xs) : Cn f_impl_PlainGlances [v] h fun r h' => SlB h h' r (pgOut xs) := by
  refine calls_of r_impl_PlainGlances ?_
  refine hs.lenVC ?_
  refine CondVC.mk (fun c => ?_) (fun c => ?_)
  · exact SlB.mk (by rw [pgOut, if_neg (by omega)]) (SlX.nil true h) (Ext.refl h) (Fr.nil _)
  refine hs.lenVC ?_
  refine LoopVC.mk (α := Nat × Value) (fun s => [(4, s.2), (10, v), (11, .int .i64 (xs.length : Int)), (12, .int .i64 (s.1 : Int))]) (fun s h2 => s.1 ≤ xs.length ∧ Ext h h2 ∧ SlO h2 s.2 (pgList (xs.take s.1)) ∧ Fr h.size s.2 ∧ ∀ x ∈ xs.take s.1, PassOk x)
    (fun s => xs.length - s.1) (0, .slice none 0 0) ⟨rfl, rfl, rfl, rfl⟩ ⟨by omega, Ext.refl h, SlX.nil true h, Fr.nil _, by simp⟩ ?_
  rintro ⟨k, o⟩ R h2 ⟨hk, e2, ho, hf, hall⟩
  simp only at hk ho hf hall
  refine CondVC.mk (fun c2 => ?_) (fun c2 => ?_)
  · simp only at c2
    have hk' : k < xs.length := by omega
    refine (hs.ext e2).idx rfl hk' ?_
    refine (hs.ext e2).load1 (x := xs[k]) (by simp [hk']) rfl ?_
    refine (isPassed_ok _ _).mono ?_
    rintro _ h2 ⟨rfl, rfl⟩
    refine CondVC.mk (fun c3 => ?_) (fun c3 => ?_)
    · exact SlB.mk (by rw [pgOut, if_neg (fun ha => c3 (ha.2 _ (List.getElem_mem hk')))]) (SlX.nil true h2) e2 (Fr.nil _)
    have c3 := Classical.not_not.1 c3
    refine And.intro rfl (And.intro rfl ?_)
    refine And.intro rfl (And.intro rfl ?_)
    refine And.intro rfl (And.intro rfl ?_)
    refine SlX.row [(⟨false, xs[k]⟩ : GlanceD), ⟨true, xs[k]⟩] rfl rfl (by simp [maxLen]) (fun w3 h3 he3 hsz3 hr3 hfr3 => ?_)
    have hl : (pgList (xs.take k)).length ≤ 80 := by rw [pgList_len]; simp; omega
    refine (ho.ext he3).append hr3 rfl (by simp [maxLen]; omega) (by simp; omega) (fun o4 h4 hm4 ho4 hb4 => ?_)
    refine ArithVC.mk (by simp only; omega) ?_
    refine ⟨(k + 1, o4), ⟨⟨rfl, rfl, rfl, rfl⟩, by simp only; omega, (e2.trans he3).mod hm4 hf, ?_, hf.app hb4 (by have := (e2.trans he3).size; omega), all_step hk' hall c3⟩, by simp only; omega⟩
    simp only [take_snoc hk']
    rw [pgList, List.flatMap_append]
    exact ho4
  · simp only at c2
    have hk' : k = xs.length := by omega
    subst hk'
    rw [List.take_length] at ho hall
    exact SlB.mk (by rw [pgOut, if_pos ⟨by omega, hall⟩]) ho e2 hf
theorem specPlainGlances_ok (v : Value) (xs : List Int) (h : Heap) (hs : Sl h v xs) : Cn f_spec_PlainGlances [v] h fun r h' => SlB h h' r (pgOut xs) := by
  refine calls_of r_spec_PlainGlances ?_
  refine hs.lenVC ?_
  refine CondVC.mk (fun c => ?_) (fun c => ?_)
  · exact SlB.mk (by rw [pgOut, if_neg (by omega)]) (SlX.nil true h) (Ext.refl h) (Fr.nil _)
  refine hs.lenVC ?_
  refine LoopVC.mk (α := Nat × Value) (fun s => [(4, s.2), (10, v), (11, .int .i64 (xs.length : Int)), (12, .int .i64 (s.1 : Int))]) (fun s h2 => s.1 ≤ xs.length ∧ Ext h h2 ∧ SlO h2 s.2 (pgList (xs.take s.1)) ∧ Fr h.size s.2 ∧ ∀ x ∈ xs.take s.1, PassOk x)
    (fun s => xs.length - s.1) (0, .slice none 0 0) ⟨rfl, rfl, rfl, rfl⟩ ⟨by omega, Ext.refl h, SlX.nil true h, Fr.nil _, by simp⟩ ?_
  rintro ⟨k, o⟩ R h2 ⟨hk, e2, ho, hf, hall⟩
  simp only at hk ho hf hall
  refine CondVC.mk (fun c2 => ?_) (fun c2 => ?_)
  · simp only at c2
    have hk' : k < xs.length := by omega
    refine (hs.ext e2).idx rfl hk' ?_
    refine (hs.ext e2).load1 (x := xs[k]) (by simp [hk']) rfl ?_
    refine (rpPass_ok _ _).mono ?_
    rintro _ h2 ⟨rfl, rfl⟩
    refine CondVC.mk (fun c3 => ?_) (fun c3 => ?_)
    · exact SlB.mk (by rw [pgOut, if_neg (fun ha => c3 (ha.2 _ (List.getElem_mem hk')))]) (SlX.nil true h2) e2 (Fr.nil _)
    have c3 := Classical.not_not.1 c3
    refine And.intro rfl ?_
    refine And.intro rfl (And.intro rfl ?_)
    refine And.intro rfl (And.intro rfl ?_)
    refine SlX.row [(⟨false, xs[k]⟩ : GlanceD), ⟨true, xs[k]⟩] rfl rfl (by simp [maxLen]) (fun w3 h3 he3 hsz3 hr3 hfr3 => ?_)
    have hl : (pgList (xs.take k)).length ≤ 80 := by rw [pgList_len]; simp; omega
    refine (ho.ext he3).append hr3 rfl (by simp [maxLen]; omega) (by simp; omega) (fun o4 h4 hm4 ho4 hb4 => ?_)
    refine ArithVC.mk (by simp only; omega) ?_
    refine ⟨(k + 1, o4), ⟨⟨rfl, rfl, rfl, rfl⟩, by simp only; omega, (e2.trans he3).mod hm4 hf, ?_, hf.app hb4 (by have := (e2.trans he3).size; omega), all_step hk' hall c3⟩, by simp only; omega⟩
    simp only [take_snoc hk']
    rw [pgList, List.flatMap_append]
    exact ho4
  · simp only at c2
    have hk' : k = xs.length := by omega
    subst hk'
    rw [List.take_length] at ho hall
    exact SlB.mk (by rw [pgOut, if_pos ⟨by omega, hall⟩]) ho e2 hf
end Go.Proofs.Ytpbjcaadnbeplaa


