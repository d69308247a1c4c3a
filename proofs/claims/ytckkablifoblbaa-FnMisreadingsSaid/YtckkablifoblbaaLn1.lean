/- Tests of lines, signals and scripts: what they return. Condition: none. -/
import Derived.Test.YtckkablifoblbaaLaws2
namespace Go.Proofs.Ytckkablifoblbaa
open Go.Vc
set_option linter.all false

theorem within_ok (n lo hi : Int) (h : Heap) : Cn f_impl_within [.int .i64 n, .int .i64 lo, .int .i64 hi] h fun v h' => v = .bool (decide (lo ≤ n ∧ n ≤ hi)) ∧ h' = h := by
  refine calls_of r_impl_within ?_
  refine SplitVC.mk (fun h1 => ?_) (fun h1 => ?_)
  · exact ⟨bool_is (by omega), rfl⟩
  · exact ⟨bool_f (by omega), rfl⟩
theorem l1In_ok (n lo hi : Int) (h : Heap) : Cn f_spec_l1In [.int .i64 n, .int .i64 lo, .int .i64 hi] h fun v h' => v = .bool (decide (lo ≤ n ∧ n ≤ hi)) ∧ h' = h := by
  refine calls_of r_spec_l1In ?_
  refine SplitVC.mk (fun h1 => ?_) (fun h1 => ?_)
  · exact ⟨bool_is (by omega), rfl⟩
  · exact ⟨bool_f (by omega), rfl⟩

abbrev AllIn (lo hi : Int) (xs : List Int) : Prop := ∀ x ∈ xs, lo ≤ x ∧ x ≤ hi

theorem allIn_step {lo hi : Int} {xs : List Int} {k : Nat} (hk : k < xs.length) (h : AllIn lo hi (xs.take k)) (hx : lo ≤ xs[k] ∧ xs[k] ≤ hi) : AllIn lo hi (xs.take (k + 1)) := by
  intro x hm
  rw [List.take_succ_eq_append_getElem hk] at hm
  rcases List.mem_append.1 hm with hm | hm
  · exact h x hm
  · simp at hm; subst hm; exact hx

theorem allWithin_ok (v : Value) (xs : List Int) (lo hi : Int) (h : Heap) (hs : Sl h v xs) : Cn f_impl_allWithin [v, .int .i64 lo, .int .i64 hi] h fun r h' => r = .bool (decide (AllIn lo hi xs)) ∧ h' = h := by
  refine calls_of r_impl_allWithin ?_
  refine hs.lenVC ?_
  refine LoopVC.mk (α := Nat) (fun k => [(1, .int .i64 lo), (2, .int .i64 hi), (9, v), (10, .int .i64 (xs.length : Int)), (11, .int .i64 (k : Int))]) (fun k h2 => h2 = h ∧ k ≤ xs.length ∧ AllIn lo hi (xs.take k)) (fun k => xs.length - k) 0 ⟨rfl, rfl, rfl, rfl, rfl⟩ ⟨rfl, by omega, by simp [AllIn]⟩ ?_
  rintro k R h2 ⟨rfl, hk, hall⟩
  have hl := hs.len63
  refine CondVC.mk (fun hlt => ?_) (fun hlt => ?_)
  · have hk' : k < xs.length := by omega
    refine hs.idx rfl hk' (hs.load1 (x := xs[k]) (by simp [hk']) rfl ?_)
    refine (within_ok _ _ _ _).mono ?_
    rintro _ _ ⟨rfl, rfl⟩
    refine CondVC.mk (fun hc => ?_) (fun hc => ?_)
    · exact ⟨bool_f (fun ha => hc (ha _ (List.getElem_mem hk'))), rfl⟩
    · refine ArithVC.mk (by omega) ?_
      exact ⟨k + 1, ⟨⟨rfl, rfl, rfl, rfl, rfl⟩, rfl, by omega, allIn_step hk' hall (by omega)⟩, by omega⟩
  · have hk' : k = xs.length := by omega
    subst hk'
    rw [List.take_length] at hall
    exact ⟨bool_t hall, rfl⟩
theorem l1All_ok (v : Value) (xs : List Int) (lo hi : Int) (h : Heap) (hs : Sl h v xs) : Cn f_spec_l1All [v, .int .i64 lo, .int .i64 hi] h fun r h' => r = .bool (decide (AllIn lo hi xs)) ∧ h' = h := by
  refine calls_of r_spec_l1All ?_
  refine hs.lenVC ?_
  refine LoopVC.mk (α := Nat) (fun k => [(1, .int .i64 lo), (2, .int .i64 hi), (9, v), (10, .int .i64 (xs.length : Int)), (11, .int .i64 (k : Int))]) (fun k h2 => h2 = h ∧ k ≤ xs.length ∧ AllIn lo hi (xs.take k)) (fun k => xs.length - k) 0 ⟨rfl, rfl, rfl, rfl, rfl⟩ ⟨rfl, by omega, by simp [AllIn]⟩ ?_
  rintro k R h2 ⟨rfl, hk, hall⟩
  have hl := hs.len63
  refine CondVC.mk (fun hlt => ?_) (fun hlt => ?_)
  · have hk' : k < xs.length := by omega
    refine hs.idx rfl hk' (hs.load1 (x := xs[k]) (by simp [hk']) rfl ?_)
    refine (l1In_ok _ _ _ _).mono ?_
    rintro _ _ ⟨rfl, rfl⟩
    refine CondVC.mk (fun hc => ?_) (fun hc => ?_)
    · exact ⟨bool_f (fun ha => hc (ha _ (List.getElem_mem hk'))), rfl⟩
    · refine ArithVC.mk (by omega) ?_
      exact ⟨k + 1, ⟨⟨rfl, rfl, rfl, rfl, rfl⟩, rfl, by omega, allIn_step hk' hall (by omega)⟩, by omega⟩
  · have hk' : k = xs.length := by omega
    subst hk'
    rw [List.take_length] at hall
    exact ⟨bool_t hall, rfl⟩

theorem isSignal_ok (n : Int) (h : Heap) : Cn f_impl_isSignal [.int .i64 n] h fun v h' => v = .bool (decide (0 ≤ n ∧ n ≤ 63)) ∧ h' = h := by
  refine calls_of r_impl_isSignal ?_
  refine (within_ok _ _ _ _).mono ?_
  rintro _ _ ⟨rfl, rfl⟩
  exact ⟨rfl, rfl⟩
theorem sgGood_ok (n : Int) (h : Heap) : Cn f_spec_sgGood [.int .i64 n] h fun v h' => v = .bool (decide (0 ≤ n ∧ n ≤ 63)) ∧ h' = h := by
  refine calls_of r_spec_sgGood ?_
  refine (l1In_ok _ _ _ _).mono ?_
  rintro _ _ ⟨rfl, rfl⟩
  exact ⟨rfl, rfl⟩

abbrev ScriptOk (xs : List Int) : Prop := xs.length ≤ 200 ∧ AllIn 0 63 xs
abbrev SignalsOk (xs : List Int) : Prop := xs.length ≤ 20 ∧ AllIn 0 63 xs
abbrev LineOk (t r : Int) : Prop := (2 ≤ t ∧ t ≤ 10) ∧ 1 ≤ r ∧ r ≤ 5

theorem isScript_ok (v : Value) (xs : List Int) (h : Heap) (hs : Sl h v xs) : Cn f_impl_isScript [v] h fun r h' => r = .bool (decide (ScriptOk xs)) ∧ h' = h := by
  refine calls_of r_impl_isScript ?_
  refine hs.lenVC ?_
  refine SplitVC.mk (fun c => ?_) (fun c => ?_)
  · refine (allWithin_ok _ _ _ _ _ hs).mono ?_
    rintro _ _ ⟨rfl, rfl⟩
    exact ⟨bool_is ⟨fun ha => ⟨by omega, ha⟩, fun ha => ha.2⟩, rfl⟩
  · exact ⟨bool_f (fun ha => c (by omega)), rfl⟩
theorem liScript_ok (v : Value) (xs : List Int) (h : Heap) (hs : Sl h v xs) : Cn f_spec_liScript [v] h fun r h' => r = .bool (decide (ScriptOk xs)) ∧ h' = h := by
  refine calls_of r_spec_liScript ?_
  refine hs.lenVC ?_
  refine SplitVC.mk (fun c => ?_) (fun c => ?_)
  · refine (l1All_ok _ _ _ _ _ hs).mono ?_
    rintro _ _ ⟨rfl, rfl⟩
    exact ⟨bool_is ⟨fun ha => ⟨by omega, ha⟩, fun ha => ha.2⟩, rfl⟩
  · exact ⟨bool_f (fun ha => c (by omega)), rfl⟩
theorem liSignals_ok (v : Value) (xs : List Int) (h : Heap) (hs : Sl h v xs) : Cn f_spec_liSignals [v] h fun r h' => r = .bool (decide (SignalsOk xs)) ∧ h' = h := by
  refine calls_of r_spec_liSignals ?_
  refine hs.lenVC ?_
  refine SplitVC.mk (fun c => ?_) (fun c => ?_)
  · refine (l1All_ok _ _ _ _ _ hs).mono ?_
    rintro _ _ ⟨rfl, rfl⟩
    exact ⟨bool_is ⟨fun ha => ⟨by omega, ha⟩, fun ha => ha.2⟩, rfl⟩
  · exact ⟨bool_f (fun ha => c (by omega)), rfl⟩

/-- a line as a value -/
abbrev lineV (t r : Int) : Value := .agg #[.int .i64 t, .int .i64 r]

theorem isLine_ok (t r : Int) (h : Heap) : Cn f_impl_IsLine [lineV t r] h fun v h' => v = .bool (decide (LineOk t r)) ∧ Ext h h' := by
  refine calls_of r_impl_IsLine ?_
  refine AllocVC.mk [.int .i64 t, .int .i64 r] rfl (fun h1 b hb hsz he hbx => ?_)
  refine hbx.load rfl ?_
  refine (within_ok _ _ _ _).mono ?_
  rintro _ _ ⟨rfl, rfl⟩
  refine SplitVC.mk (fun c => ?_) (fun c => ?_)
  · refine hbx.load rfl ?_
    refine (within_ok _ _ _ _).mono ?_
    rintro _ _ ⟨rfl, rfl⟩
    exact ⟨bool_is ⟨fun ha => ⟨c, ha⟩, fun ha => ha.2⟩, he⟩
  · exact ⟨bool_f (fun ha => c ha.1), he⟩
theorem liLine_ok (t r : Int) (h : Heap) : Cn f_spec_liLine [lineV t r] h fun v h' => v = .bool (decide (LineOk t r)) ∧ Ext h h' := by
  refine calls_of r_spec_liLine ?_
  refine AllocVC.mk [.int .i64 t, .int .i64 r] rfl (fun h1 b hb hsz he hbx => ?_)
  refine hbx.load rfl ?_
  refine (l1In_ok _ _ _ _).mono ?_
  rintro _ _ ⟨rfl, rfl⟩
  refine SplitVC.mk (fun c => ?_) (fun c => ?_)
  · refine hbx.load rfl ?_
    refine (l1In_ok _ _ _ _).mono ?_
    rintro _ _ ⟨rfl, rfl⟩
    exact ⟨bool_is ⟨fun ha => ⟨c, ha⟩, fun ha => ha.2⟩, he⟩
  · exact ⟨bool_f (fun ha => c ha.1), he⟩
theorem specIsLine_ok (t r : Int) (h : Heap) : Cn f_spec_IsLine [lineV t r] h fun v h' => v = .bool (decide (LineOk t r)) ∧ Ext h h' := by
  refine calls_of r_spec_IsLine ?_
  refine AllocVC.mk [.int .i64 t, .int .i64 r] rfl (fun h1 b hb hsz he hbx => ?_)
  refine hbx.loadA rfl ?_
  refine (liLine_ok _ _ _).mono ?_
  rintro _ _ ⟨rfl, e2⟩
  exact ⟨rfl, he.trans e2⟩

abbrev Asked (t r : Int) (sg sc : List Int) : Prop := LineOk t r ∧ SignalsOk sg ∧ ScriptOk sc

theorem liAsked_ok (t r : Int) (v u : Value) (sg sc : List Int) (h : Heap) (hv : Sl h v sg) (hu : Sl h u sc) :
    Cn f_spec_liAsked [lineV t r, v, u] h fun x h' => x = .bool (decide (Asked t r sg sc)) ∧ Ext h h' := by
  refine calls_of r_spec_liAsked ?_
  refine AllocVC.mk [.int .i64 t, .int .i64 r] rfl (fun h1 b hb hsz he hbx => ?_)
  refine hbx.loadA rfl ?_
  refine (liLine_ok _ _ _).mono ?_
  rintro _ h2 ⟨rfl, e2⟩
  have e := he.trans e2
  refine SplitVC.mk (fun c1 => ?_) (fun c1 => SplitVC.f ⟨bool_f (fun ha => c1 ha.1), e⟩)
  refine (liSignals_ok _ _ _ (hv.ext e)).mono ?_
  rintro _ _ ⟨rfl, rfl⟩
  refine SplitVC.mk (fun c2 => ?_) (fun c2 => ⟨bool_f (fun ha => c2 ha.2.1), e⟩)
  refine (liScript_ok _ _ _ (hu.ext e)).mono ?_
  rintro _ _ ⟨rfl, rfl⟩
  exact ⟨bool_is ⟨fun ha => ⟨c1, c2, ha⟩, fun ha => ha.2.2⟩, e⟩
theorem lineAsked_ok (t r : Int) (v u : Value) (sg sc : List Int) (h : Heap) (hv : Sl h v sg) (hu : Sl h u sc) :
    Cn f_impl_lineAsked [lineV t r, v, u] h fun x h' => x = .bool (decide (Asked t r sg sc)) ∧ Ext h h' := by
  refine calls_of r_impl_lineAsked ?_
  refine AllocVC.mk [.int .i64 t, .int .i64 r] rfl (fun h1 b hb hsz he hbx => ?_)
  refine hbx.loadA rfl ?_
  refine (isLine_ok _ _ _).mono ?_
  rintro _ h2 ⟨rfl, e2⟩
  have e := he.trans e2
  refine SplitVC.mk (fun c1 => ?_) (fun c1 => SplitVC.f (SplitVC.f ⟨bool_f (fun ha => c1 ha.1), e⟩))
  refine (hv.ext e).lenVC ?_
  refine SplitVC.mk (fun c2 => ?_) (fun c2 => SplitVC.f ⟨bool_f (fun ha => c2 (by have := ha.2.1.1; omega)), e⟩)
  refine (allWithin_ok _ _ _ _ _ (hv.ext e)).mono ?_
  rintro _ _ ⟨rfl, rfl⟩
  refine SplitVC.mk (fun c3 => ?_) (fun c3 => ⟨bool_f (fun ha => c3 ha.2.1.2), e⟩)
  refine (isScript_ok _ _ _ (hu.ext e)).mono ?_
  rintro _ _ ⟨rfl, rfl⟩
  exact ⟨bool_is ⟨fun ha => ⟨c1, ⟨by omega, c3⟩, ha⟩, fun ha => ha.2.2⟩, e⟩

theorem toLine_ok (t r : Int) (h : Heap) : Cn f_laws_toLine [lineV t r] h fun v h' => v = lineV t r ∧ Ext h h' := by
  refine calls_of r_laws_toLine ?_
  refine AllocVC.mk [.int .i64 t, .int .i64 r] rfl (fun h1 b hb hsz he hbx => ?_)
  refine AllocVC.mk [.int .i64 0, .int .i64 0] rfl (fun h2 b2 hb2 hsz2 he2 hbx2 => ?_)
  refine AllocVC.mk [.int .i64 0, .int .i64 0] rfl (fun h3 b3 hb3 hsz3 he3 hbx3 => ?_)
  have hbx := (hbx.ext he2).ext he3
  have hbx2 := hbx2.ext he3
  refine hbx.load rfl ?_
  refine hbx3.store (us := [.int .i64 t]) rfl rfl (by simp [spl]) (by simp [Value.oneCell']) (fun h4 m4 s4 hbx4 => ?_)
  have hbx := hbx.mod m4 (by simp; omega)
  have hbx2 := hbx2.mod m4 (by simp; omega)
  refine hbx.load rfl ?_
  refine hbx4.store (us := [.int .i64 r]) rfl rfl (by simp [spl]) (by simp [Value.oneCell']) (fun h5 m5 s5 hbx5 => ?_)
  have hbx2 := hbx2.mod m5 (by simp; omega)
  refine hbx5.loadA rfl ?_
  refine hbx2.store (us := [.int .i64 t, .int .i64 r]) rfl rfl (by simp [spl]) (by simp [Value.oneCell']) (fun h6 m6 s6 hbx6 => ?_)
  refine hbx6.loadA rfl ?_
  refine ⟨rfl, ?_⟩
  exact (((((he.trans he2).trans he3).mod m4 (by simp; omega)).mod m5 (by simp; omega)).mod m6 (by simp; omega))

theorem fnExactIsLine_ok (t r : Int) (h : Heap) : Cn f_laws_FnExactIsLine [lineV t r] h fun v h' => v = .bool true ∧ Ext h h' := by
  refine calls_of r_laws_FnExactIsLine ?_
  refine AllocVC.mk [.int .i64 t, .int .i64 r] rfl (fun h1 b hb hsz he hbx => ?_)
  refine hbx.loadA rfl ?_
  refine (toLine_ok _ _ _).mono ?_
  rintro _ h2 ⟨rfl, e2⟩
  refine (specIsLine_ok _ _ _).mono ?_
  rintro _ h3 ⟨rfl, e3⟩
  refine ((hbx.ext e2).ext e3).loadA rfl ?_
  refine (toLine_ok _ _ _).mono ?_
  rintro _ h4 ⟨rfl, e4⟩
  refine (isLine_ok _ _ _).mono ?_
  rintro _ h5 ⟨rfl, e5⟩
  refine CondVC.no (by simp) ?_
  exact ⟨rfl, (((he.trans e2).trans e3).trans e4).trans e5⟩
end Go.Proofs.Ytckkablifoblbaa
