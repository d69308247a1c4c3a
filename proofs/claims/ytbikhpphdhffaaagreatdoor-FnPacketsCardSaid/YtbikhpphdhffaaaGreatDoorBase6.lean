/- Each operation is sound. Condition: none. -/
import Derived.Test.YtbikhpphdhffaaaGreatDoorBase5
namespace Go.Vc

theorem mkZero_eq (z : Array Value) (n : Nat) : (Array.range n).map (z[· % z.size]!) = (mkZero z.toList n).toArray := by
  apply Array.toList_inj.1
  simp only [mkZero, Array.toList_map, Array.toList_range, Array.length_toList]
  apply List.map_congr_left
  intro i _
  generalize i % z.size = q
  rw [getElem!_def, List.getD_eq_getElem?_getD]
  simp
  cases z[q]? <;> rfl

theorem row_sound {P : Program} {t e : TypeId} {i : TypeInfo} {z : List Value} {len : Nat} {parts : List (Nat × Operand)} (ht : P.underlying t = some (.slice e)) (hi : P.info? e = some i) (hz : zeroOf P e = some z) (_hz0 : 0 < z.length)
    (hlen : len * i.size ≤ 16777216) (hok : okParts (parts.map fun (k, x) => (k * i.size, i.size, x)) (len * i.size) = true) (ρ : Operand → Value) (w : World) (K : Value → Heap → Prop)
    (hk : segVC ρ (parts.map fun (k, x) => (k * i.size, i.size, x)) (mkZero z (len * i.size)) (fun cs => RowVC w.heap cs e len K)) :
    ∃ v w', (Instr.buildSlice t len (parts.toArray.map fun (i, x) => (i, ρ x))).run P w = .ok v w' ∧ Sim w w' ∧ K v w'.heap := by
  have hl : (mkZero z (len * i.size)).length = len * i.size := by simp [mkZero]
  obtain ⟨cs, hc, hf⟩ := seg_sound ρ (fun k => some (k * i.size, i.size)) parts _ _ _ (by simp) (fun k j x off n y h1 h2 => by
    have h3 := List.all_eq_true.1 hok _ (List.mem_of_getElem? h2)
    simp only [List.getElem?_map, h1, Option.map_some, Option.some.injEq, Prod.mk.injEq] at h2
    obtain ⟨rfl, rfl, rfl⟩ := h2
    exact ⟨rfl, rfl, by rw [hl]; simpa using h3⟩) hk
  obtain ⟨zv, hzv, hzc⟩ := run_zeroValue hz w
  refine ⟨_, w.alloc (.cells cs.toArray e), ?_, ⟨rfl, rfl, rfl⟩, hc.out⟩
  have hzs : zv.cells = z.toArray := by rw [← hzc]
  have hm := mkZero_eq z.toArray (len * i.size)
  have hf' : Instr.fill (fun k => some (k * i.size, i.size)) (mkZero z (len * i.size)).toArray (parts.map fun (i, x) => (i, ρ x)) = some cs.toArray := hf
  have hnot : ¬ (16777216 < len * i.size) := by omega
  by_cases h0 : len * i.size = 0
  · have e0 : (mkZero z 0).toArray = #[] := rfl
    rw [h0, e0] at hf'
    simp [Instr.buildSlice, run_underlying ht, sizeOf, typeInfo, hi, h0, newRow, hf', Array.range_zero']
  · simp [Instr.buildSlice, run_underlying ht, sizeOf, typeInfo, hi, hnot, h0, hzv, hzs, newRow]
    have hm' : Array.map (fun x => z[x % z.length]?.getD default) (Array.range (len * i.size)) = (mkZero z (len * i.size)).toArray := by simpa using hm
    rw [hm']
    have hf2 : Instr.fill (fun k => some (k * i.size, i.size)) (mkZero z (len * i.size)).toArray (parts.map fun x => (x.1, ρ x.2)) = some cs.toArray := hf
    rw [hf2]
    simp

theorem eff_sound0 {P : Program} {o : Oper} {e : EOp} (hr : resolveOp0 P o.op = some (.eff e)) (ρ : Operand → Value) (hρ : ∀ f, ρ (.func f) = .func (.func f) #[] #[]) (w : World) (K : Value → Heap → Prop) (hk : e.wp P ρ w.heap K) : Does P ρ o w K := by
  cases ho : o.op <;> rw [ho] at hr <;> simp only [resolveOp0] at hr <;> try (cases hr; done)
  case alloc t =>
    simp only [Option.map_eq_some_iff] at hr
    obtain ⟨z, hz, hr⟩ := hr
    simp at hr; subst hr
    obtain ⟨zv, hzv, hzc⟩ := run_zeroValue hz w
    have hk : AllocVC w.heap z.toArray t K := hk
    refine .inl ⟨_, w.alloc (.cells z.toArray t), ?_, ⟨rfl, rfl, rfl⟩, hk.out⟩
    have hzs : zv.cells = z.toArray := by rw [← hzc]
    simp [execOp, ho, Instr.alloc, hzv, newVar, newRow, hzs]
  case box t x =>
    simp at hr; subst hr
    have hk : AllocVC w.heap (ρ x).cells t K := hk
    refine .inl ⟨_, w.alloc (.cells (ρ x).cells t), ?_, ⟨rfl, rfl, rfl⟩, hk.out⟩
    simp [execOp, ho, Instr.box, newVar, newRow]
  case build t parts =>
    simp only [Option.bind_eq_some_iff] at hr
    obtain ⟨z, hz, ps, hps, hr⟩ := hr
    split at hr <;> simp at hr
  case buildSlice t len parts =>
    split at hr
    · rename_i e' ht
      simp only [Option.bind_eq_some_iff] at hr
      obtain ⟨i, hi, z, hz, hr⟩ := hr
      split at hr
      · rename_i hc
        simp only [Bool.and_eq_true, decide_eq_true_eq] at hc
        simp at hr; subst hr
        obtain ⟨v, w', h1, h2, h3⟩ := row_sound (len := len) (parts := parts.toList) ht hi hz hc.1.2 hc.1.1 hc.2 ρ w K hk
        refine .inl ⟨v, w', ?_, h2, h3⟩
        simp only [Array.toArray_toList] at h1
        simp [execOp, ho, h1]
      · simp at hr
    · simp at hr
  case load t a => cases h : aggN P t <;> simp [h] at hr
  case store t a x =>
    simp only [Option.map_eq_some_iff] at hr
    obtain ⟨i, hi, hr⟩ := hr
    simp at hr; subst hr
    obtain ⟨w', h1, h2, h3⟩ := store_sound hi _ _ w _ hk
    exact .inr (.inl ⟨w', by simp [execOp, ho, h1], h2, h3⟩)
  case binOp op t x y yt =>
    split at hr
    · simp at hr
    · simp at hr
    · split at hr <;> simp at hr
    · split at hr
      · split at hr <;> simp at hr
      · simp at hr
    · split at hr
      · split at hr <;> simp at hr
      · simp at hr
    · simp only [Option.bind_eq_some_iff] at hr
      obtain ⟨_, _, hr⟩ := hr
      split at hr <;> simp at hr
    · simp at hr
  case unOp op t x => cases op <;> simp at hr
  case convert src dst x =>
    split at hr
    · simp at hr
    · rename_i e' hs hd
      split at hr
      · rename_i he
        simp at hr; subst hr
        obtain ⟨r, h1, h2⟩ := bstr_sound hs he hd _ w _ hk
        exact .inl ⟨r, w, by simp [execOp, ho, h1], Sim.refl w, h2⟩
      · simp at hr
    · simp at hr
  case makeSlice t l c =>
    split at hr
    · rename_i e' ht
      simp only [Option.bind_eq_some_iff] at hr
      obtain ⟨i, hi, z, hz, hr⟩ := hr
      split at hr
      · rename_i hz0
        simp at hr hz0; subst hr
        obtain ⟨v, w', h1, h2, h3⟩ := mk_sound ht hi hz hz0 _ _ w K hk
        exact .inl ⟨v, w', by simp [execOp, ho, h1], h2, h3⟩
      · simp at hr
    · simp at hr
  case slice t x lo hi mx =>
    split at hr
    · simp only [Option.map_eq_some_iff] at hr
      obtain ⟨i, _, hr⟩ := hr
      simp at hr
    · split at hr <;> simp at hr
    · simp at hr
  case fieldAddr s x f =>
    simp only [Option.bind_eq_some_iff] at hr
    obtain ⟨fl, hfl, i, hi, hr⟩ := hr
    split at hr <;> simp at hr
  case field t x f =>
    simp only [Option.bind_eq_some_iff, Option.map_eq_some_iff] at hr
    obtain ⟨fl, hfl, n, hn, hr⟩ := hr
    simp at hr
  case indexAddr t x i =>
    split at hr
    · simp only [Option.map_eq_some_iff] at hr
      obtain ⟨inf, _, hr⟩ := hr
      simp at hr
    · simp only [Option.map_eq_some_iff] at hr
      obtain ⟨inf, _, hr⟩ := hr
      simp at hr
    · simp at hr
  case index t x i =>
    split at hr
    · simp at hr
    · simp only [Option.bind_eq_some_iff, Option.map_eq_some_iff] at hr
      obtain ⟨inf, _, n, _, hr⟩ := hr
      simp at hr
    · simp at hr
  case call c =>
    have enter : ∀ (f : FuncId) (args : List Value), (execOp ρ o).run P w = (callFunc f args.toArray).run P w → CallsH P f args w.heap K → Does P ρ o w K := by
      intro f args he hc
      obtain ⟨⟨fn, hf, hb, hn⟩, hc⟩ := hc
      refine .inr (.inr ⟨f, args.toArray, ?_, hc w rfl⟩)
      rw [he]
      have hbn : fn.body.isNone = false := by cases h : fn.body <;> simp_all
      simp only [callFunc, Sem.run_bind, run_program, Result.andThen_ok, hf, hn, hbn]
      rfl
    unfold resolveCall at hr
    split at hr
    · split at hr <;> simp at hr
    · rename_i s x t t' hc hargs hat
      have ha : c.args = #[s, x] := by apply Array.toList_inj.1; simpa using hargs
      have hat : c.argTypes = #[t, t'] := by apply Array.toList_inj.1; simpa using hat
      split at hr
      · rename_i htt
        simp only [beq_iff_eq] at htt
        subst htt
        split at hr
        · rename_i e' ht
          simp only [Option.bind_eq_some_iff] at hr
          obtain ⟨i, hi, hr⟩ := hr
          split at hr
          · rename_i zv hz
            split at hr
            · rename_i hcnd
              simp only [Bool.and_eq_true, beq_iff_eq, decide_eq_true_eq] at hcnd
              simp at hr; subst hr
              obtain ⟨v, w', h1, h2, h3⟩ := app_sound (ty := o.type) ht hi hz hcnd.1 _ _ w K hk
              refine .inl ⟨v, w', ?_, h2, h3⟩
              simp [execOp, ho, resolve, hc, ha, hat, invoke, builtin, h1]
            · simp at hr
          · simp at hr
        · simp at hr
      · simp at hr
    · rename_i d s t t' hc hargs hat
      have ha : c.args = #[d, s] := by apply Array.toList_inj.1; simpa using hargs
      have hat : c.argTypes = #[t, t'] := by apply Array.toList_inj.1; simpa using hat
      split at hr
      · rename_i e' ht
        simp only [Option.map_eq_some_iff] at hr
        obtain ⟨i, hi, hr⟩ := hr
        simp at hr; subst hr
        obtain ⟨v, w', h1, h2, h3⟩ := copy_sound (t' := t') (ty := o.type) ht hi _ _ w K hk
        refine .inl ⟨v, w', ?_, h2, h3⟩
        simp [execOp, ho, resolve, hc, ha, hat, invoke, builtin, h1]
      · simp at hr
    · rename_i x t hc hargs hat
      have ha : c.args = #[x] := by apply Array.toList_inj.1; simpa using hargs
      have hat : c.argTypes = #[t] := by apply Array.toList_inj.1; simpa using hat
      split at hr
      · rename_i e' ht
        simp only [Option.bind_eq_some_iff] at hr
        obtain ⟨i, hi, z, hz, hr⟩ := hr
        split at hr
        · rename_i hcnd
          simp only [Bool.and_eq_true, beq_iff_eq, decide_eq_true_eq] at hcnd
          simp at hr; subst hr
          obtain ⟨w', h1, h2, h3⟩ := clear_sound (ty := o.type) ht hi hz hcnd.1 hcnd.2 _ w _ hk
          refine .inl ⟨_, w', ?_, h2, h3⟩
          simp [execOp, ho, resolve, hc, ha, hat, invoke, builtin, h1]
        · simp at hr
      · simp at hr
    · simp at hr
    · simp at hr
    · rename_i f hc
      simp at hr; subst hr
      have eargs : ∀ l : Array Operand, Array.map ρ l = (List.map ρ l.toList).toArray := fun l => by apply Array.toList_inj.1; simp
      refine enter f (c.args.toList.map ρ) ?_ hk
      rw [← eargs]
      simp [execOp, ho, resolve, hc, hρ, Deferred.ofValue, invoke]
    · rename_i t hc
      simp at hr; subst hr
      have eargs : ∀ l : Array Operand, Array.map ρ l = (List.map ρ l.toList).toArray := fun l => by apply Array.toList_inj.1; simp
      simp only [EOp.wp] at hk
      split at hk
      · rename_i g first cap hv
        refine enter g _ ?_ hk
        have e1 : first ++ Array.map ρ c.args ++ cap = (first.toList ++ List.map ρ c.args.toList ++ cap.toList).toArray := by apply Array.toList_inj.1; simp
        rw [← e1]
        simp [execOp, ho, resolve, hc, hv, Deferred.ofValue, invoke]
      · exact hk.elim
    · simp at hr

/-- Every operation is resolved; one that is not known has a condition that is never met. -/
def resolveOp (P : Program) (o : Op) : Option MOp := some ((resolveOp0 P o).getD (.eff .fail))

theorem resolveOp_cases {P : Program} {o : Op} {m : MOp} (h : resolveOp P o = some m) : resolveOp0 P o = some m ∨ m = .eff .fail := by
  unfold resolveOp at h
  cases h0 : resolveOp0 P o <;> simp [h0] at h
  · exact .inr h.symm
  · exact .inl (by rw [h])
theorem pure_sound {P : Program} {o : Oper} {p : POp} (hr : resolveOp P o.op = some (.pure p)) (E : Env) (K : Value → Prop) (hk : p.wp (ev E) K) : ∃ v, K v ∧ Gives P (ev E) o v :=
  (resolveOp_cases hr).elim (fun h => pure_sound0 h (ev E) (fun _ => rfl) K hk) (fun h => by cases h)
theorem load_sound {P : Program} {o : Oper} {n : Option Nat} {x : Operand} (hr : resolveOp P o.op = some (.load n x)) (ρ : Operand → Value) (w : World) (K : Value → Prop) (hk : LoadVC w.heap (ρ x) n K) :
    ∃ v, K v ∧ (execOp ρ o).run P w = .ok (.value v) w :=
  (resolveOp_cases hr).elim (fun h => load_sound0 h ρ w K hk) (fun h => by cases h)
theorem eff_sound {P : Program} {o : Oper} {e : EOp} (hr : resolveOp P o.op = some (.eff e)) (ρ : Operand → Value) (hρ : ∀ f, ρ (.func f) = .func (.func f) #[] #[]) (w : World) (K : Value → Heap → Prop) (hk : e.wp P ρ w.heap K) : Does P ρ o w K :=
  (resolveOp_cases hr).elim (fun h => eff_sound0 h ρ hρ w K hk) (fun h => by cases h; exact hk.elim)
end Go.Vc
