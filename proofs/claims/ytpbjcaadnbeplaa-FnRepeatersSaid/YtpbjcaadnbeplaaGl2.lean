/- Tests and copies of glances. Condition: none. -/
import Derived.Test.YtpbjcaadnbeplaaRp1
import Derived.Test.YtpbjcaadnbeplaaFind
namespace Go.Proofs.Ytpbjcaadnbeplaa
open Go.Vc

theorem indexG_ok (v : Value) (xs : List GlanceD) (g : Nat) (fs cs : Array Value) (p : GlanceD → Bool) (h : Heap) (hs : Sl h v xs)
    (hc : ∀ x ∈ xs, ∀ h2, Ext h h2 → Cn g (fs.toList ++ [x.val] ++ cs.toList) h2 fun r h' => r = .bool (p x) ∧ Ext h2 h') :
    Cn f_slices_IndexFunc_Limpl_Glance_impl_Glance [v, .func (.func g) fs cs] h fun r h' => r = .int .i64 (firstF p xs 0) ∧ Ext h h' := by
  refine calls_of r_slices_IndexFunc_Limpl_Glance_impl_Glance ?_
  refine hs.lenVC ?_
  refine LoopVC.mk (α := Nat) (fun k => [(0, v), (1, .func (.func g) fs cs), (7, .int .i64 (xs.length : Int)), (8, .int .i64 (k : Int))]) (fun k h2 => Ext h h2 ∧ k ≤ xs.length ∧ firstF p (xs.drop k) k = firstF p xs 0) (fun k => xs.length - k) 0 ⟨rfl, rfl, rfl, rfl⟩ ⟨Ext.refl h, by omega, rfl⟩ ?_
  rintro k R h2 ⟨e2, hk, hF⟩
  refine CondVC.mk (fun c => ?_) (fun c => ?_)
  · have hk' : k < xs.length := by omega
    rw [List.drop_eq_getElem_cons hk', firstF] at hF
    refine (hs.ext e2).idx rfl hk' ?_
    refine (hs.ext e2).loadN (x := xs[k]) (by simp [hk']) rfl ?_
    refine (hc xs[k] (List.getElem_mem hk') h2 e2).mono ?_
    rintro _ h3 ⟨rfl, e3⟩
    have hl := hs.len63
    cases hp : p xs[k] with
    | true =>
      rw [hp] at hF
      refine CondVC.t ?_
      exact ⟨congrArg (Value.int .i64) hF, e2.trans e3⟩
    | false =>
      rw [hp] at hF
      refine CondVC.f ?_
      refine ArithVC.mk (by omega) ?_
      exact ⟨k + 1, ⟨⟨rfl, rfl, rfl, rfl⟩, e2.trans e3, by omega, hF⟩, by omega⟩
  · have hk' : k = xs.length := by omega
    subst hk'
    rw [List.drop_length, firstF] at hF
    exact ⟨congrArg (Value.int .i64) hF, e2⟩
theorem containsG_ok (v : Value) (xs : List GlanceD) (g : Nat) (fs cs : Array Value) (p : GlanceD → Bool) (h : Heap) (hs : Sl h v xs)
    (hc : ∀ x ∈ xs, ∀ h2, Ext h h2 → Cn g (fs.toList ++ [x.val] ++ cs.toList) h2 fun r h' => r = .bool (p x) ∧ Ext h2 h') :
    Cn f_slices_ContainsFunc_Limpl_Glance_impl_Glance [v, .func (.func g) fs cs] h fun r h' => r = .bool (xs.any p) ∧ Ext h h' := by
  refine calls_of r_slices_ContainsFunc_Limpl_Glance_impl_Glance ?_
  refine (indexG_ok v xs g fs cs p h hs hc).mono ?_
  rintro _ h2 ⟨rfl, e2⟩
  refine ⟨congrArg Value.bool ?_, e2⟩
  have := firstF_nonneg p xs 0
  cases ha : xs.any p with
  | true => exact decide_eq_true (this.2 ha)
  | false => exact decide_eq_false (fun hh => by rw [this.1 hh] at ha; cases ha)

theorem isSignal_ok (n : Int) (h : Heap) : Cn f_impl_isSignal [.int .i64 n] h fun v h' => v = .bool (decide (0 ≤ n ∧ n ≤ 63)) ∧ h' = h := by
  refine calls_of r_impl_isSignal ?_
  refine (within_ok _ _ _ _).mono ?_
  rintro _ _ ⟨rfl, rfl⟩
  exact ⟨rfl, rfl⟩
theorem sgGood_ok (n : Int) (h : Heap) : Cn f_spec_sgGood [.int .i64 n] h fun v h' => v = .bool (decide (0 ≤ n ∧ n ≤ 63)) ∧ h' = h := by
  refine calls_of r_spec_sgGood ?_
  refine (l1In_ok _ _ _ _).mono ?_
  rintro _ _ ⟨rfl, rfl⟩
  exact ⟨rfl, rfl⟩

abbrev GlOk (xs : List GlanceD) : Prop := xs.length ≤ 80 ∧ ∀ x ∈ xs, 0 ≤ x.signal ∧ x.signal ≤ 63

theorem areGlances_ok (v : Value) (xs : List GlanceD) (h : Heap) (hs : Sl h v xs) : Cn f_impl_areGlances [v] h fun r h' => r = .bool (decide (GlOk xs)) ∧ Ext h h' := by
  refine calls_of r_impl_areGlances ?_
  refine hs.lenVC ?_
  refine SplitVC.mk (fun c => ?_) (fun c => ?_)
  · refine (containsG_ok v xs f_impl_areGlances_1 #[] #[] (fun x => !decide (0 ≤ x.signal ∧ x.signal ≤ 63)) h hs (fun x hx h2 e2 => ?_)).mono ?_
    · refine calls_of r_impl_areGlances_1 ?_
      refine AllocVC.mk [.bool x.next, .int .i64 x.signal] rfl (fun h3 b hb hz e bx => ?_)
      refine bx.load rfl ?_
      refine (isSignal_ok _ _).mono ?_
      rintro _ _ ⟨rfl, rfl⟩
      exact ⟨rfl, e⟩
    · rintro _ h2 ⟨rfl, e2⟩
      refine ⟨bool_is ?_, e2⟩
      simp only [List.any_eq_true, Bool.not_eq_true', decide_eq_false_iff_not, not_exists, not_and]
      constructor
      · intro hh
        exact ⟨by omega, fun x hx => Classical.byContradiction fun hn => hh x hx (fun a b => hn ⟨a, b⟩)⟩
      · intro hh x hx hn
        exact hn (hh.2 x hx).1 (hh.2 x hx).2
  · exact ⟨bool_f (fun ha => c (by have := ha.1; omega)), Ext.refl h⟩
theorem rpGlances_ok (v : Value) (xs : List GlanceD) (h : Heap) (hs : Sl h v xs) : Cn f_spec_rpGlances [v] h fun r h' => r = .bool (decide (GlOk xs)) ∧ Ext h h' := by
  refine calls_of r_spec_rpGlances ?_
  refine hs.lenVC ?_
  refine LoopVC.mk (α := Nat) (fun k => [(0, v), (5, v), (6, .int .i64 (xs.length : Int)), (7, .int .i64 (k : Int))]) (fun k h2 => Ext h h2 ∧ k ≤ xs.length ∧ ∀ x ∈ xs.take k, 0 ≤ x.signal ∧ x.signal ≤ 63) (fun k => xs.length - k) 0 ⟨rfl, rfl, rfl, rfl⟩ ⟨Ext.refl h, by omega, by simp⟩ ?_
  rintro k R h2 ⟨e2, hk, hall⟩
  have hl := hs.len63
  refine CondVC.mk (fun c => ?_) (fun c => ?_)
  · have hk' : k < xs.length := by omega
    refine (hs.ext e2).idx rfl hk' ?_
    refine (hs.ext e2).loadN (x := xs[k]) (by simp [hk']) rfl ?_
    refine AllocVC.mk [.bool false, .int .i64 0] rfl (fun h3 b hb hz e bx => ?_)
    refine bx.store (us := [.bool xs[k].next, .int .i64 xs[k].signal]) rfl rfl (by simp) (by simp [Value.oneCell']) (fun h4 m4 s4 bx => ?_)
    have e4 := (e2.trans e).mod m4 (by simp; have := e2.size; omega)
    refine bx.load rfl ?_
    refine (sgGood_ok _ _).mono ?_
    rintro _ h4 ⟨rfl, rfl⟩
    refine CondVC.mk (fun c2 => ?_) (fun c2 => ?_)
    · exact ⟨bool_f (fun ha => c2 (ha.2 _ (List.getElem_mem hk'))), e4⟩
    · have c2 := Classical.not_not.1 c2
      refine ArithVC.mk (by omega) ?_
      exact ⟨k + 1, ⟨⟨rfl, rfl, rfl, rfl⟩, e4, by omega, all_step hk' hall c2⟩, by omega⟩
  · have hk' : k = xs.length := by omega
    subst hk'
    rw [List.take_length] at hall
    refine (hs.ext e2).lenVC ?_
    exact ⟨bool_is ⟨fun hh => ⟨by omega, hall⟩, fun hh => by have := hh.1; omega⟩, e2⟩

end Go.Proofs.Ytpbjcaadnbeplaa


