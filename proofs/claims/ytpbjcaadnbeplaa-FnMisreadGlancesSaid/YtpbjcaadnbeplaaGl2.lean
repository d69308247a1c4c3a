/- Tests and copies of glances. Condition: none. -/
import Derived.Test.YtpbjcaadnbeplaaRp1
import Derived.Test.YtpbjcaadnbeplaaFind
namespace Go.Proofs.Ytpbjcaadnbeplaa
open Go.Vc

theorem cloneG_ok (v : Value) (xs : List GlanceD) (h : Heap) (hs : Sl h v xs) (hb : xs.length ≤ 1048576) : Cn f_slices_Clone_Limpl_Glance_impl_Glance [v] h fun r h' => SlO h' r xs ∧ Ext h h' ∧ Fr h.size r := by
  refine calls_of r_slices_Clone_Limpl_Glance_impl_Glance ?_
  refine hs.nilVC (fun e => ?_) ?_
  · subst e
    exact CondVC.t ⟨SlX.nil true h, Ext.refl h, Fr.nil _⟩
  refine CondVC.f ?_
  refine SlX.row ([] : List GlanceD) rfl rfl (by simp) (fun o h1 he hsz ho hfr => ?_)
  refine ho.append (hs.ext he) rfl (by simp [hs.len_le]) (by simp; omega) (fun o2 h2 hm ho2 hbk => ?_)
  have ho2 : SlO h2 o2 xs := by simpa using ho2
  exact ⟨ho2, he.mod hm hfr, hfr.app hbk (by omega)⟩
theorem cloneI_ok (v : Value) (xs : List Int) (h : Heap) (hs : Sl h v xs) (hb : xs.length ≤ 1048576) : Cn f_slices_Clone_Lint_int [v] h fun r h' => SlO h' r xs ∧ Ext h h' ∧ Fr h.size r := by
  refine calls_of r_slices_Clone_Lint_int ?_
  refine hs.nilVC (fun e => ?_) ?_
  · subst e
    exact CondVC.t ⟨SlX.nil true h, Ext.refl h, Fr.nil _⟩
  refine CondVC.f ?_
  refine SlX.row ([] : List Int) rfl rfl (by simp) (fun o h1 he hsz ho hfr => ?_)
  refine ho.append (hs.ext he) rfl (by simp [hs.len_le]) (by simp; omega) (fun o2 h2 hm ho2 hbk => ?_)
  have ho2 : SlO h2 o2 xs := by simpa using ho2
  exact ⟨ho2, he.mod hm hfr, hfr.app hbk (by omega)⟩

theorem indexG_ok (v : Value) (xs : List GlanceD) (g : Nat) (fs cs : Array Value) (p : GlanceD → Bool) (h : Heap) (hs : Sl h v xs)
    (hc : ∀ x ∈ xs, ∀ h2, Ext h h2 → Cn g (fs.toList ++ [x.val] ++ cs.toList) h2 fun r h' => r = .bool (p x) ∧ Ext h2 h') :
    Cn f_slices_IndexFunc_Limpl_Glance_impl_Glance [v, .func (.func g) fs cs] h fun r h' => r = .int .i64 (firstF p xs 0) ∧ Ext h h' := by
  refine calls_of r_slices_IndexFunc_Limpl_Glance_impl_Glance ?_
  refine hs.lenVC ?_
  refine LoopVC.mk (α := Nat) (fun k => [(0, v), (1, .func (.func g) fs cs), (7, .int .i64 (xs.length : Int)), (8, .int .i64 (k : Int))]) (fun k h2 => Ext h h2 ∧ k ≤ xs.length ∧ firstF p (xs.drop k) k = firstF p xs 0) (fun k => xs.length - k) 0 ⟨rfl, rfl, rfl, rfl⟩ ⟨Ext.refl h, by omega, rfl⟩ ?_
  rintro k R h2 ⟨e2, hk, hF⟩
  refine CondVC.mk (fun c => ?_) (fun c => ?_)
  · have hk' : k < xs.length := by omega
    rw [List.drop_eq_getElem_cons hk', firstF] at hF
    refine (hs.ext e2).idx rfl hk' ?_
    refine (hs.ext e2).loadN (x := xs[k]) (by simp [hk']) rfl ?_
    refine (hc xs[k] (List.getElem_mem hk') h2 e2).mono ?_
    rintro _ h3 ⟨rfl, e3⟩
    have hl := hs.len63
    cases hp : p xs[k] with
    | true =>
      rw [hp] at hF
      refine CondVC.t ?_
      exact ⟨congrArg (Value.int .i64) hF, e2.trans e3⟩
    | false =>
      rw [hp] at hF
      refine CondVC.f ?_
      refine ArithVC.mk (by omega) ?_
      exact ⟨k + 1, ⟨⟨rfl, rfl, rfl, rfl⟩, e2.trans e3, by omega, hF⟩, by omega⟩
  · have hk' : k = xs.length := by omega
    subst hk'
    rw [List.drop_length, firstF] at hF
    exact ⟨congrArg (Value.int .i64) hF, e2⟩
theorem containsG_ok (v : Value) (xs : List GlanceD) (g : Nat) (fs cs : Array Value) (p : GlanceD → Bool) (h : Heap) (hs : Sl h v xs)
    (hc : ∀ x ∈ xs, ∀ h2, Ext h h2 → Cn g (fs.toList ++ [x.val] ++ cs.toList) h2 fun r h' => r = .bool (p x) ∧ Ext h2 h') :
    Cn f_slices_ContainsFunc_Limpl_Glance_impl_Glance [v, .func (.func g) fs cs] h fun r h' => r = .bool (xs.any p) ∧ Ext h h' := by
  refine calls_of r_slices_ContainsFunc_Limpl_Glance_impl_Glance ?_
  refine (indexG_ok v xs g fs cs p h hs hc).mono ?_
  rintro _ h2 ⟨rfl, e2⟩
  refine ⟨congrArg Value.bool ?_, e2⟩
  have := firstF_nonneg p xs 0
  cases ha : xs.any p with
  | true => exact decide_eq_true (this.2 ha)
  | false => exact decide_eq_false (fun hh => by rw [this.1 hh] at ha; cases ha)

theorem isSignal_ok (n : Int) (h : Heap) : Cn f_impl_isSignal [.int .i64 n] h fun v h' => v = .bool (decide (0 ≤ n ∧ n ≤ 63)) ∧ h' = h := by
  refine calls_of r_impl_isSignal ?_
  refine (within_ok _ _ _ _).mono ?_
  rintro _ _ ⟨rfl, rfl⟩
  exact ⟨rfl, rfl⟩
theorem sgGood_ok (n : Int) (h : Heap) : Cn f_spec_sgGood [.int .i64 n] h fun v h' => v = .bool (decide (0 ≤ n ∧ n ≤ 63)) ∧ h' = h := by
  refine calls_of r_spec_sgGood ?_
  refine (l1In_ok _ _ _ _).mono ?_
  rintro _ _ ⟨rfl, rfl⟩
  exact ⟨rfl, rfl⟩

abbrev GlOk (xs : List GlanceD) : Prop := xs.length ≤ 80 ∧ ∀ x ∈ xs, 0 ≤ x.signal ∧ x.signal ≤ 63

theorem areGlances_ok (v : Value) (xs : List GlanceD) (h : Heap) (hs : Sl h v xs) : Cn f_impl_areGlances [v] h fun r h' => r = .bool (decide (GlOk xs)) ∧ Ext h h' := by
  refine calls_of r_impl_areGlances ?_
  refine hs.lenVC ?_
  refine SplitVC.mk (fun c => ?_) (fun c => ?_)
  · refine (containsG_ok v xs f_impl_areGlances_1 #[] #[] (fun x => !decide (0 ≤ x.signal ∧ x.signal ≤ 63)) h hs (fun x hx h2 e2 => ?_)).mono ?_
    · refine calls_of r_impl_areGlances_1 ?_
      refine AllocVC.mk [.bool x.next, .int .i64 x.signal] rfl (fun h3 b hb hz e bx => ?_)
      refine bx.load rfl ?_
      refine (isSignal_ok _ _).mono ?_
      rintro _ _ ⟨rfl, rfl⟩
      exact ⟨rfl, e⟩
    · rintro _ h2 ⟨rfl, e2⟩
      refine ⟨bool_is ?_, e2⟩
      simp only [List.any_eq_true, Bool.not_eq_true', decide_eq_false_iff_not, not_exists, not_and]
      constructor
      · intro hh
        exact ⟨by omega, fun x hx => Classical.byContradiction fun hn => hh x hx (fun a b => hn ⟨a, b⟩)⟩
      · intro hh x hx hn
        exact hn (hh.2 x hx).1 (hh.2 x hx).2
  · exact ⟨bool_f (fun ha => c (by have := ha.1; omega)), Ext.refl h⟩
theorem rpGlances_ok (v : Value) (xs : List GlanceD) (h : Heap) (hs : Sl h v xs) : Cn f_spec_rpGlances [v] h fun r h' => r = .bool (decide (GlOk xs)) ∧ Ext h h' := by
  refine calls_of r_spec_rpGlances ?_
  refine hs.lenVC ?_
  refine LoopVC.mk (α := Nat) (fun k => [(0, v), (5, v), (6, .int .i64 (xs.length : Int)), (7, .int .i64 (k : Int))]) (fun k h2 => Ext h h2 ∧ k ≤ xs.length ∧ ∀ x ∈ xs.take k, 0 ≤ x.signal ∧ x.signal ≤ 63) (fun k => xs.length - k) 0 ⟨rfl, rfl, rfl, rfl⟩ ⟨Ext.refl h, by omega, by simp⟩ ?_
  rintro k R h2 ⟨e2, hk, hall⟩
  have hl := hs.len63
  refine CondVC.mk (fun c => ?_) (fun c => ?_)
  · have hk' : k < xs.length := by omega
    refine (hs.ext e2).idx rfl hk' ?_
    refine (hs.ext e2).loadN (x := xs[k]) (by simp [hk']) rfl ?_
    refine AllocVC.mk [.bool false, .int .i64 0] rfl (fun h3 b hb hz e bx => ?_)
    refine bx.store (us := [.bool xs[k].next, .int .i64 xs[k].signal]) rfl rfl (by simp) (by simp [Value.oneCell']) (fun h4 m4 s4 bx => ?_)
    have e4 := (e2.trans e).mod m4 (by simp; have := e2.size; omega)
    refine bx.load rfl ?_
    refine (sgGood_ok _ _).mono ?_
    rintro _ h4 ⟨rfl, rfl⟩
    refine CondVC.mk (fun c2 => ?_) (fun c2 => ?_)
    · exact ⟨bool_f (fun ha => c2 (ha.2 _ (List.getElem_mem hk'))), e4⟩
    · have c2 := Classical.not_not.1 c2
      refine ArithVC.mk (by omega) ?_
      exact ⟨k + 1, ⟨⟨rfl, rfl, rfl, rfl⟩, e4, by omega, all_step hk' hall c2⟩, by omega⟩
  · have hk' : k = xs.length := by omega
    subst hk'
    rw [List.take_length] at hall
    refine (hs.ext e2).lenVC ?_
    exact ⟨bool_is ⟨fun hh => ⟨by omega, hall⟩, fun hh => by have := hh.1; omega⟩, e2⟩

/-- WithMisreading -/
def wmOut (xs : List GlanceD) (i s : Int) : List GlanceD × Bool :=
  if GlOk xs ∧ (0 ≤ i ∧ i ≤ (xs.length : Int) - 1) ∧ 0 ≤ s ∧ s ≤ 63 then (xs.set i.toNat ⟨(xs.getD i.toNat ⟨false, 0⟩).next, s⟩, true) else ([], false)
theorem wmOut_len (xs : List GlanceD) (i s : Int) : (wmOut xs i s).1.length ≤ 1048576 := by
  unfold wmOut
  split
  · rename_i c; have := c.1.1; simp only [List.length_set]; omega
  · simp
theorem implWithMisreading_ok (v : Value) (xs : List GlanceD) (i s : Int) (h : Heap) (hs : Sl h v xs) : Cn f_impl_WithMisreading [v, .int .i64 i, .int .i64 s] h fun r h' => SlB h h' r (wmOut xs i s) := by
  refine calls_of r_impl_WithMisreading ?_
  have bad : ∀ h2, Ext h h2 → ¬ (GlOk xs ∧ (0 ≤ i ∧ i ≤ (xs.length : Int) - 1) ∧ 0 ≤ s ∧ s ≤ 63) → SlB h h2 (.tuple #[.slice none 0 0, .bool false]) (wmOut xs i s) := fun h2 e hn =>
    SlB.mk (by rw [wmOut, if_neg hn]) (SlX.nil true h2) e (Fr.nil _)
  refine (areGlances_ok _ _ _ hs).mono ?_
  rintro _ h2 ⟨rfl, e2⟩
  have hs2 := hs.ext e2
  have hl := hs.len63
  refine SplitVC.mk (fun c => ?_) (fun c => ?_)
  · exact SplitVC.t (CondVC.t (bad _ e2 fun ha => c ha.1))
  refine hs2.lenVC ?_
  refine ArithVC.mk (by omega) ?_
  refine (within_ok _ _ _ _).mono ?_
  rintro _ h2 ⟨rfl, rfl⟩
  refine SplitVC.mk (fun c2 => ?_) (fun c2 => ?_)
  · exact CondVC.t (bad _ e2 fun ha => c2 ha.2.1)
  refine (isSignal_ok _ _).mono ?_
  rintro _ h2 ⟨rfl, rfl⟩
  refine CondVC.mk (fun c3 => ?_) (fun c3 => ?_)
  · exact bad _ e2 fun ha => c3 ha.2.2
  have c := Classical.not_not.1 c
  have c2 := Classical.not_not.1 c2
  have c3 := Classical.not_not.1 c3
  have hlen := c.1
  refine (cloneG_ok _ _ _ hs2 (by omega)).mono ?_
  rintro o h3 ⟨ho, e3, hf⟩
  have hi : i.toNat < xs.length := by omega
  refine ho.idx (k := i.toNat) (by omega) hi ?_
  dsimp only [vcOps, MOp.wp, EOp.wp, POp.wp, runG, ev, Env.putO, Env.put, Env.puts]
  refine ho.store (k := i.toNat) (j := 1) (x' := ⟨(xs.getD i.toNat ⟨false, 0⟩).next, s⟩) (us := [.int .i64 s]) (List.getElem?_eq_getElem hi) rfl rfl rfl (by simp [Enc.sz]) (by simp [spl, Enc.cells, hi]) (by simp [Value.oneCell']) (fun h4 m4 s4 ho4 => ?_)
  exact SlB.mk (by rw [wmOut, if_pos ⟨c, c2, c3⟩]) ho4 ((e2.trans e3).mod m4 (fun b hb => Nat.le_trans e2.size (hf b hb))) (hf.mono e2.size)
theorem specWithMisreading_ok (v : Value) (xs : List GlanceD) (i s : Int) (h : Heap) (hs : Sl h v xs) : Cn f_spec_WithMisreading [v, .int .i64 i, .int .i64 s] h fun r h' => SlB h h' r (wmOut xs i s) := by
  refine calls_of r_spec_WithMisreading ?_
  have bad : ∀ h2, Ext h h2 → ¬ (GlOk xs ∧ (0 ≤ i ∧ i ≤ (xs.length : Int) - 1) ∧ 0 ≤ s ∧ s ≤ 63) → SlB h h2 (.tuple #[.slice none 0 0, .bool false]) (wmOut xs i s) := fun h2 e hn =>
    SlB.mk (by rw [wmOut, if_neg hn]) (SlX.nil true h2) e (Fr.nil _)
  refine (rpGlances_ok _ _ _ hs).mono ?_
  rintro _ h2 ⟨rfl, e2⟩
  have hs2 := hs.ext e2
  have hl := hs.len63
  refine SplitVC.mk (fun c => ?_) (fun c => ?_)
  · exact SplitVC.t (CondVC.t (bad _ e2 fun ha => c ha.1))
  refine hs2.lenVC ?_
  refine ArithVC.mk (by omega) ?_
  refine (l1In_ok _ _ _ _).mono ?_
  rintro _ h2 ⟨rfl, rfl⟩
  refine SplitVC.mk (fun c2 => ?_) (fun c2 => ?_)
  · exact CondVC.t (bad _ e2 fun ha => c2 ha.2.1)
  refine (sgGood_ok _ _).mono ?_
  rintro _ h2 ⟨rfl, rfl⟩
  refine CondVC.mk (fun c3 => ?_) (fun c3 => ?_)
  · exact bad _ e2 fun ha => c3 ha.2.2
  have c := Classical.not_not.1 c
  have c2 := Classical.not_not.1 c2
  have c3 := Classical.not_not.1 c3
  have hlen := c.1
  refine SlX.row ([] : List GlanceD) rfl rfl (by simp) (fun o3 h3 e3 hsz3 ho3 hf3 => ?_)
  refine ho3.append (hs2.ext e3) rfl (by simp [hs.len_le]) (by simp; omega) (fun o h4 hm4 ho hbk => ?_)
  have ho : SlO h4 o xs := by simpa using ho
  have hf : Fr h2.size o := hf3.app hbk (by omega)
  have e4 := (e2.trans e3).mod hm4 (fun b hb => Nat.le_trans e2.size (hf3 b hb))
  have hi : i.toNat < xs.length := by omega
  refine ho.idx (k := i.toNat) (by omega) hi ?_
  dsimp only [vcOps, MOp.wp, EOp.wp, POp.wp, runG, ev, Env.putO, Env.put, Env.puts]
  refine ho.store (k := i.toNat) (j := 1) (x' := ⟨(xs.getD i.toNat ⟨false, 0⟩).next, s⟩) (us := [.int .i64 s]) (List.getElem?_eq_getElem hi) rfl rfl rfl (by simp [Enc.sz]) (by simp [spl, Enc.cells, hi]) (by simp [Value.oneCell']) (fun h5 m5 s5 ho5 => ?_)
  exact SlB.mk (by rw [wmOut, if_pos ⟨c, c2, c3⟩]) ho5 (e4.mod m5 (fun b hb => Nat.le_trans e2.size (hf b hb))) (hf.mono e2.size)
end Go.Proofs.Ytpbjcaadnbeplaa

