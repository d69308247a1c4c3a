/- Pure operations are sound. Condition: none. -/
import Derived.Test.YtbikhpphdhffaaaGreatDoorBase2
namespace Go.Vc

theorem gives_of {P : Program} {ρ : Operand → Value} {o : Oper} {v : Value} {s : Sem Value} (he : execOp ρ o = (do pure (.value (← s)))) (h : ∀ w, s.run P w = .ok v w) : Gives P ρ o v := by
  intro w; rw [he]; simp [h]

theorem run_typeInfo {P : Program} {t : TypeId} {i : TypeInfo} (h : P.info? t = some i) (w : World) : (typeInfo t).run P w = .ok i w := by
  simp [typeInfo, h]
theorem run_sizeOf {P : Program} {t : TypeId} {i : TypeInfo} (h : P.info? t = some i) (w : World) : (sizeOf t).run P w = .ok i.size w := by
  simp [sizeOf, run_typeInfo h]
theorem run_zeroValue {P : Program} {t : TypeId} {z : List Value} (h : zeroOf P t = some z) (w : World) : ∃ v : Value, (zeroValue t).run P w = .ok v w ∧ v.cells.toList = z := by
  unfold zeroOf at h
  cases hi : P.info? t with
  | none => simp [hi] at h
  | some i =>
    cases hz : i.zero with
    | none => simp [hi, hz] at h
    | some v => simp [hi, hz] at h; exact ⟨v, by simp [zeroValue, run_typeInfo hi, hz], by simpa using h⟩

theorem aggN_none {P : Program} {t : TypeId} (h : aggN P t = some none) (w : World) : (isAgg t).run P w = .ok false w := by
  unfold aggN at h
  split at h <;> simp_all [isAgg, run_underlying]
theorem aggN_some {P : Program} {t : TypeId} {n : Nat} (h : aggN P t = some (some n)) (w : World) : (isAgg t).run P w = .ok true w ∧ (sizeOf t).run P w = .ok n w := by
  unfold aggN at h
  split at h <;> simp_all [isAgg, run_underlying, run_sizeOf]

theorem list_drop_cons {α : Type} {l : List α} {i : Nat} {u : α} {r : List α} (h : l.drop i = u :: r) : l[i]? = some u := by
  have := congrArg (·[0]?) h
  simpa [List.getElem?_drop] using this

theorem fill_one (place : Nat → Option (Nat × Nat)) (i off : Nat) (v : Value) (hv : v.cells = #[v]) (cells : Array Value) (rest : List (Nat × Value)) (hp : place i = some (off, 1)) (hc : off + 1 ≤ cells.size) :
    Instr.fill place cells ((i, v) :: rest) = Instr.fill place (cells.setIfInBounds off v) rest := by
  simp [Instr.fill, hp, hv]
  omega

theorem fold_spl (off : Nat) : ∀ (l : List Value) (k : Nat) (cells : Array Value), off + k + l.length ≤ cells.size →
    ((l.zipIdx k).foldl (fun cs (c : Value × Nat) => cs.setIfInBounds (off + c.2) c.1) cells).toList = spl cells.toList (off + k) l
  | [], k, cells, h => by simp [spl]
  | v :: l, k, cells, h => by
    simp only [List.zipIdx_cons, List.foldl_cons]
    rw [fold_spl off l (k + 1) _ (by simp at h ⊢; omega)]
    simp only [spl, Array.toList_setIfInBounds, List.length_cons]
    have hlt : off + k < cells.toList.length := by simp at h ⊢; omega
    rw [List.drop_set_of_lt (by omega), show off + (k + 1) = off + k + 1 by omega, List.take_succ_eq_append_getElem (by simpa using hlt)]
    simp only [List.getElem_set_self, List.append_assoc, List.cons_append, List.nil_append]
    rw [List.take_set_of_le (by omega), show off + k + 1 + l.length = off + k + (l.length + 1) by omega]

theorem fill_agg (place : Nat → Option (Nat × Nat)) (i off n : Nat) (cs : Array Value) (cells : Array Value) (rest : List (Nat × Value)) (hp : place i = some (off, n)) (hn : cs.size = n) (hc : off + n ≤ cells.size) :
    Instr.fill place cells ((i, .agg cs) :: rest) = Instr.fill place (spl cells.toList off cs.toList).toArray rest := by
  have := fold_spl off cs.toList 0 cells (by simp; omega)
  have hc1 : (Value.agg cs).cells.size = n := hn
  have hc2 : off + (Value.agg cs).cells.size ≤ cells.size := by omega
  simp only [Instr.fill, hp]
  rw [if_neg (by simp only [Bool.or_eq_true, decide_eq_true_eq]; omega)]
  congr 1
  apply Array.toList_inj.1
  simp only [Nat.add_zero] at this
  rw [← Array.foldl_toList, Array.toList_zipIdx]
  exact this

theorem spl_length (C : List Value) (o : Nat) (l : List Value) (h : o + l.length ≤ C.length) : (spl C o l).length = C.length := by
  simp [spl]; omega

/-- 'fill' comes to what 'segVC' shows. -/
theorem seg_sound (ρ : Operand → Value) (place : Nat → Option (Nat × Nat)) : ∀ (parts : List (Nat × Operand)) (ps : List (Nat × Nat × Operand)) (acc : List Value) (K : List Value → Prop),
    ps.length = parts.length → (∀ (k i : Nat) (x : Operand) (off n : Nat) (y : Operand), parts[k]? = some (i, x) → ps[k]? = some (off, n, y) → y = x ∧ place i = some (off, n) ∧ off + n ≤ acc.length) →
    segVC ρ ps acc K → ∃ cs, K cs ∧ Instr.fill place acc.toArray (parts.map fun (i, x) => (i, ρ x)) = some cs.toArray
  | [], [], acc, K, _, _, hk => ⟨acc, hk, rfl⟩
  | (i, x) :: parts, (off, n, y) :: ps, acc, K, hl, hp, hk => by
    obtain ⟨rfl, hpl, hb⟩ := hp 0 i x off n y rfl rfl
    have tail : ∀ acc' : List Value, acc'.length = acc.length → segVC ρ ps acc' K → ∃ cs, K cs ∧ Instr.fill place acc'.toArray (parts.map fun (i, x) => (i, ρ x)) = some cs.toArray :=
      fun acc' hl' hk' => seg_sound ρ place parts ps acc' K (by simpa using hl) (fun k i x off n y h1 h2 => by rw [hl']; exact hp (k + 1) i x off n y h1 h2) hk'
    have one : ∀ v : Value, ρ y = v → v.cells = #[v] → n = 1 → segVC ρ ps (acc.set off v) K → ∃ cs, K cs ∧ Instr.fill place acc.toArray (((i, y) :: parts).map fun (i, x) => (i, ρ x)) = some cs.toArray := by
      intro v hv hc hn hk'
      subst hn
      obtain ⟨cs, h1, h2⟩ := tail (acc.set off v) (by simp) hk'
      refine ⟨cs, h1, ?_⟩
      simp only [List.map_cons, hv]
      rw [fill_one place i off v hc _ _ hpl (by simpa using hb)]
      simpa using h2
    unfold segVC at hk
    split at hk
    · rename_i cs hv
      obtain ⟨hn, hk⟩ := hk
      obtain ⟨cs', h1, h2⟩ := tail (spl acc off cs.toList) (spl_length _ _ _ (by simp; omega)) hk
      refine ⟨cs', h1, ?_⟩
      simp only [List.map_cons, hv]
      rw [fill_agg place i off n cs _ _ hpl hn (by simpa using hb)]
      simpa using h2
    · rename_i hv; exact one _ hv rfl hk.1 hk.2
    · rename_i hv; exact one _ hv rfl hk.1 hk.2
    · rename_i hv; exact one _ hv rfl hk.1 hk.2
    · rename_i hv; exact one _ hv rfl hk.1 hk.2
    · rename_i hv; exact one _ hv rfl hk.1 hk.2
    · exact hk.elim
  | [], _ :: _, _, _, h, _, _ => by simp at h
  | _ :: _, [], _, _, h, _, _ => by simp at h
end Go.Vc
