/- Effects are sound. Condition: none. -/
import Derived.Test.YtbikhpphdhffaaaGreatDoorBase4
namespace Go.Vc

theorem firstCells_row {P : Program} (w : World) (size n : Nat) (a : Option Addr) (len cap : Nat) (xs : List Value) (hl : xs.length = n * size) (h : RowAt w.heap a xs) :
    (Builtin.firstCells size n (.slice a len cap)).run P w = .ok xs.toArray w := by
  cases a with
  | none =>
    have : xs = [] := h
    subst this
    exact run_firstCells_none (P := P) w size n len cap
  | some a => exact run_firstCells_some (P := P) w size n a len cap xs hl h

theorem setRow_hput (w : World) (b : Nat) (c : List Value) (old : Array Value) (T : TypeId) (h : w.heap[b]? = some (.cells old T (0, 0))) : (w.setRow b c.toArray).heap = hput w.heap b c T := by
  unfold World.setRow hput
  apply Array.ext_getElem?
  intro i
  have hb := (Array.getElem?_eq_some_iff.1 h).1
  simp only [Array.getElem?_modify, Array.getElem?_setIfInBounds]
  by_cases e : b = i
  · subst e
    have hv := (Array.getElem?_eq_some_iff.1 h).2
    simp only [if_true, hb, Array.getElem?_eq_getElem hb, hv, Option.map_some]
  · simp [e]

/-- A value or nothing, by a run. -/
def Does (P : Program) (ρ : Operand → Value) (o : Oper) (w : World) (K : Value → Heap → Prop) : Prop :=
  (∃ v w', (execOp ρ o).run P w = .ok (.value v) w' ∧ Sim w w' ∧ K v w'.heap) ∨
  (∃ w', (execOp ρ o).run P w = .ok .skip w' ∧ Sim w w' ∧ K undef w'.heap) ∨
  (∃ f args, (execOp ρ o).run P w = .ok (.enter f args) w ∧ Calls P f args w fun e w' => ∃ v, e = .returned v ∧ Sim w w' ∧ K v w'.heap)

theorem Does.wp {P : Program} {ρ : Operand → Value} {o : Oper} {w : World} {K : Value → Heap → Prop} (h : Does P ρ o w K) {a : Act} (ha : a.eval = ρ) {next : Act → World → Prop} {Q : Exit → Act → World → Prop}
    (hn : ∀ v w', Sim w w' → K v w'.heap → next (a.put o.dst v) w') : o.wp P a w next Q := by
  unfold Oper.wp
  rw [ha]
  rcases h with ⟨v, w', hr, hs, hk⟩ | ⟨w', hr, hs, hk⟩ | ⟨f, args, hr, hc⟩
  · rw [hr]; exact hn v w' hs hk
  · rw [hr]; exact hn undef w' hs hk
  · rw [hr, Oper.upon_enter]
    refine hc.mono ?_
    rintro e w' ⟨v, rfl, hs, hk⟩
    exact hn v w' hs hk

theorem zero_mod (z : Array Value) (n : Nat) (i : Nat) (hi : i < n) : ((Array.range n).map (z[· % z.size]!)).toList[i]? = some (z[i % z.size]!) := by
  simp [hi]

theorem mk_sound {P : Program} {t e : TypeId} {i : TypeInfo} {z : List Value} (ht : P.underlying t = some (.slice e)) (hi : P.info? e = some i) (hz : zeroOf P e = some z) (hz0 : 0 < z.length)
    (l c : Value) (w : World) (K : Value → Heap → Prop) (hk : MkVC w.heap e i.size i.bytes z l c K) :
    ∃ v w', (Instr.makeSlice t l c).run P w = .ok v w' ∧ Sim w w' ∧ K v w'.heap := by
  obtain ⟨n, m, k, k', rfl, rfl, hnm, hmm, hb, hk⟩ := hk
  unfold zeroOf at hz
  cases hzz : i.zero with
  | none => simp [hi, hzz] at hz
  | some zv =>
    simp [hi, hzz] at hz
    have h63 : (m : Int) ≤ 9223372036854775807 := by
      have h := hmm
      simp [maxLen] at h
      omega
    have hb' : (i.bytes : Int) * (m : Int) ≤ 281474976710656 := by
      have h : ((m * i.bytes : Nat) : Int) ≤ 281474976710656 := by omega
      rw [Int.natCast_mul] at h
      rw [Int.mul_comm]
      exact h
    have hr := run_make (P := P) w t e i zv ht hi hzz k k' (n : Int) (m : Int) (by omega) (by omega) hb' h63
    simp only [Int.toNat_natCast] at hr
    have hzs : zv.cells.size = z.length := by rw [← hz]; simp
    have hsz : (madeCells zv.cells (m * i.size)).toList.length = m * i.size := by simp [madeCells]
    refine ⟨_, _, hr, ⟨rfl, rfl, rfl⟩, ?_⟩
    have := hk (madeCells zv.cells (m * i.size)).toList hsz (fun j hj => by
      unfold madeCells
      rw [zero_mod _ _ _ hj, hzs]
      have h1 : j % z.length < zv.cells.size := by rw [hzs]; exact Nat.mod_lt _ hz0
      rw [getElem!_pos zv.cells (j % z.length) h1]
      have h3 : z[j % z.length]? = zv.cells[j % z.length]? := by
        generalize j % z.length = q
        rw [← hz]; simp
      rw [h3, getElem?_pos zv.cells (j % z.length) h1])
    rw [Array.toArray_toList] at this
    exact this

theorem app_sound {P : Program} {t e ty : TypeId} {i : TypeInfo} {zv : Value} (ht : P.underlying t = some (.slice e)) (hi : P.info? e = some i) (hz : i.zero = some zv) (hzs : zv.cells.size = i.size)
    (v x : Value) (w : World) (K : Value → Heap → Prop) (hk : AppVC w.heap e i.size i.bytes v x K) :
    ∃ r w', (Builtin.append_ #[t, t] ty #[v, x]).run P w = .ok r w' ∧ Sim w w' ∧ K r w'.heap := by
  obtain ⟨a, n, c, b, m, cb, xs, ys, rfl, rfl, hxl, hyl, hxr, hyr, h63, hbytes, hone, hin, hgrow⟩ := hk
  have hfy := firstCells_row (P := P) w i.size m b m cb ys hyl hyr
  by_cases hroom : n + m ≤ c
  · rcases hin hroom with ⟨rfl, hk⟩ | ⟨g, o, C, T, rfl, hg, hC, hk⟩
    · have hy0 : ys = [] := List.eq_nil_of_length_eq_zero (by simpa using hyl)
      subst hy0
      refine ⟨_, w, ?_, Sim.refl w, hk⟩
      cases a with
      | none => simp [Builtin.append_, run_underlying ht, sizeOf, typeInfo, hi, Builtin.lenOf, show n ≤ c by omega, hfy]
      | some a =>
        have hst : ∀ aa : Addr, (storeCells aa [] 0).run P w = .ok () w := fun _ => by simp [storeCells]
        simp [Builtin.append_, run_underlying ht, sizeOf, typeInfo, hi, Builtin.lenOf, show n ≤ c by omega, hfy, hst]
    · have hst := run_storeCells_at P g (o + n * i.size) T ys 0 C w hg (by rw [hyl]; rw [Nat.add_mul] at hC; omega) hone
      simp only [Nat.add_zero] at hst
      have hh := setRow_hput w g (spl C.toList (o + n * i.size) ys) C T hg
      rw [← hh] at hk
      refine ⟨_, _, ?_, ?_, hk⟩
      · simp [Builtin.append_, run_underlying ht, sizeOf, typeInfo, hi, Builtin.lenOf, hroom, hfy, addr_add, hst, spl]
      · exact ⟨rfl, rfl, rfl⟩
  · have hfy' := firstCells_row (P := P) w.drew i.size m b m cb ys hyl hyr
    have hfx' := firstCells_row (P := P) w.drew i.size n a n c xs hxl hxr
    have hfit := growslice_fits (need := n + m) (old := c) (bytes := i.bytes) (by omega) hbytes
    have h63' : ¬ (9223372036854775807 < ((n : Int) + (m : Int))) := by simp only [maxLen] at h63; omega
    have h48' : ¬ (281474976710656 < Builtin.nextslicecap (n + m) c * i.bytes) := by omega
    have hge := grownCap_ge w (n + m) c e
    have hle := grownCap_le_maxLen w (n + m) c e h63
    have hk := hgrow (by omega) (grownCap w (n + m) c e) (Builtin.zeroCells zv.cells (grownCap w (n + m) c e - (n + m))).toList hge hle (by simp [Builtin.zeroCells, hzs])
    have hk' : K (.slice (some ⟨w.heap.size, 0, none⟩) (n + m) (grownCap w (n + m) c e)) (w.drew.alloc (.cells (xs.toArray ++ ys.toArray ++ Builtin.zeroCells zv.cells (grownCap w (n + m) c e - (n + m))) e)).heap := by
      have e1 : xs.toArray ++ ys.toArray ++ Builtin.zeroCells zv.cells (grownCap w (n + m) c e - (n + m)) = (xs ++ ys ++ (Builtin.zeroCells zv.cells (grownCap w (n + m) c e - (n + m))).toList).toArray := by
        apply Array.toList_inj.1; simp
      rw [e1]; exact hk
    refine ⟨_, _, ?_, ?_, hk'⟩
    · simp [Builtin.append_, run_underlying ht, sizeOf, typeInfo, zeroValue, hi, hz, Builtin.lenOf, hroom, h63', h48', Question.forced, hfx', hfy', newRow, grownCap]
      congr 2
      apply Array.toList_inj.1
      simp
    · exact ⟨rfl, rfl, rfl⟩

theorem copy_sound {P : Program} {t t' e ty : TypeId} {i : TypeInfo} (ht : P.underlying t = some (.slice e)) (hi : P.info? e = some i)
    (d s : Value) (w : World) (K : Value → Heap → Prop) (hk : CopyVC w.heap i.size d s K) :
    ∃ r w', (Builtin.copy_ #[t, t'] ty #[d, s]).run P w = .ok r w' ∧ Sim w w' ∧ K r w'.heap := by
  obtain ⟨a, n, c, b, m, cb, ys, rfl, rfl, hyl, hyr, hone, hk⟩ := hk
  have hfy := firstCells_row (P := P) w i.size (min m n) b m cb ys hyl hyr
  have hmin : Nat.min m n = min m n := rfl
  rcases hk with ⟨rfl, hk⟩ | ⟨g, o, C, T, rfl, hg, hC, hk⟩
  · refine ⟨_, w, ?_, Sim.refl w, hk⟩
    have hst : ∀ aa : Addr, (storeCells aa [] 0).run P w = .ok () w := fun _ => by simp [storeCells]
    cases a <;> simp [Builtin.copy_, run_underlying ht, sizeOf, typeInfo, hi, Builtin.lenOf, hmin, hfy, hst, goInt]
  · have hst := run_storeCells_at P g o T ys 0 C w hg (by omega) hone
    simp only [Nat.add_zero] at hst
    have hh := setRow_hput w g (spl C.toList o ys) C T hg
    rw [← hh] at hk
    refine ⟨_, _, ?_, ?_, hk⟩
    · simp [Builtin.copy_, run_underlying ht, sizeOf, typeInfo, hi, Builtin.lenOf, hmin, hfy, hst, goInt, spl]
    · exact ⟨rfl, rfl, rfl⟩

theorem zeroCells_flat (z : List Value) (n : Nat) (hz : 0 < z.length) : (Builtin.zeroCells z.toArray n).toList = (List.replicate n z).flatten := by
  apply List.ext_getElem?
  intro i
  simp only [Builtin.zeroCells, List.size_toArray, Array.toList_map, Array.toList_range, List.getElem?_map]
  by_cases hi : i < n * z.length
  · have hq : i / z.length < n := Nat.div_lt_of_lt_mul (by rw [Nat.mul_comm]; exact hi)
    have hr : i % z.length < z.length := Nat.mod_lt _ hz
    have key : ∀ (n i : Nat), i < n * z.length → ((List.replicate n z).flatten)[i]? = z[i % z.length]? := by
      intro n
      induction n with
      | zero => intro i h; omega
      | succ n ih =>
        intro i h
        rw [List.replicate_succ, List.flatten_cons]
        by_cases hl : i < z.length
        · rw [List.getElem?_append_left hl, Nat.mod_eq_of_lt hl]
        · rw [List.getElem?_append_right (by omega), ih (i - z.length) (by rw [Nat.add_mul] at h; omega)]
          rw [← Nat.mod_eq_sub_mod (by omega)]
    rw [key n i hi]
    simp [List.getElem?_range hi, hr]
  · rw [List.getElem?_eq_none (l := (List.replicate n z).flatten) (by simp; omega)]
    simp; omega

theorem clear_sound {P : Program} {t e ty : TypeId} {i : TypeInfo} {z : List Value} (ht : P.underlying t = some (.slice e)) (_hi : P.info? e = some i) (hz : zeroOf P e = some z) (hzl : z.length = i.size) (hpos : 0 < i.size)
    (v : Value) (w : World) (K : Heap → Prop) (hk : ClearVC w.heap i.size z v K) :
    ∃ w', (Builtin.clear_ #[t] ty #[v]).run P w = .ok (.tuple #[]) w' ∧ Sim w w' ∧ K w'.heap := by
  obtain ⟨a, n, c, rfl, hk⟩ := hk
  rcases hk with ⟨rfl, hk⟩ | ⟨g, o, C, T, rfl, hg, hC, hzs, hone, hk⟩
  · refine ⟨w, ?_, Sim.refl w, hk⟩
    cases a <;> simp [Builtin.clear_, run_underlying ht]
  · obtain ⟨zv, hzv, hzc⟩ := run_zeroValue hz w
    have hzv2 : zv.cells = z.toArray := by rw [← hzc]
    have hfl : (List.replicate n z).flatten.length = n * i.size := by simp [hzl]
    by_cases hn : n = 0
    · subst hn
      have hh : hput w.heap g (spl C.toList o (List.replicate 0 z).flatten) T = w.heap := by
        simp only [List.replicate_zero, List.flatten_nil, spl, List.length_nil, Nat.add_zero, List.append_nil, List.take_append_drop]
        unfold hput
        apply Array.ext_getElem?
        intro j
        rw [Array.getElem?_setIfInBounds]
        split
        · rename_i e; subst e
          rw [hg]; simp [(Array.getElem?_eq_some_iff.1 hg).1]
        · rfl
      rw [hh] at hk
      exact ⟨w, by simp [Builtin.clear_, run_underlying ht], Sim.refl w, hk⟩
    · have hst := run_storeCells_at P g o T (List.replicate n z).flatten 0 C w hg (by rw [hfl]; omega) (fun u hu => by
        simp only [List.mem_flatten, List.mem_replicate] at hu
        obtain ⟨l, ⟨_, rfl⟩, hu⟩ := hu
        exact hone u hu)
      simp only [Nat.add_zero] at hst
      have hh := setRow_hput w g (spl C.toList o (List.replicate n z).flatten) C T hg
      rw [← hh] at hk
      have hzf := zeroCells_flat z n (by omega)
      refine ⟨_, ?_, ?_, hk⟩
      · cases n with
        | zero => exact absurd rfl hn
        | succ n =>
          simp only [Builtin.clear_]
          simp [run_underlying ht, hzv, hzv2, hzf, hst, spl]
      · exact ⟨rfl, rfl, rfl⟩

theorem bstr_sound {P : Program} {src dst e : TypeId} (hs : P.underlying src = some (.slice e)) (he : P.underlying e = some (.int .u8)) (hd : P.underlying dst = some .string)
    (v : Value) (w : World) (K : Value → Prop) (hk : BstrVC w.heap v K) : ∃ r, (convert src dst v).run P w = .ok r w ∧ K r := by
  obtain ⟨a, n, c, ns, rfl, hl, hrow, hk⟩ := hk
  refine ⟨_, ?_, hk⟩
  rw [run_convert_bytes_string w src dst e a n c hs he hd]
  cases a with
  | none =>
    have : ns.map (Value.int .u8) = [] := hrow
    have hn : ns = [] := by simpa using this
    subst hn
    simp [Conv.bytesToString, bstr, Sem.run_pure]
  | some a =>
    have hld := loadCells_sound (P := P) w a (ns.map (Value.int .u8)) hrow
    rw [List.length_map, hl] at hld
    exact run_bytesToString w a n c ns hld

theorem store_sound {P : Program} {t : TypeId} {i : TypeInfo} (hi : P.info? t = some i) (v x : Value) (w : World) (K : Heap → Prop) (hk : StoreVC w.heap i.size v x K) :
    ∃ w', (Instr.storeAt t v x).run P w = .ok () w' ∧ Sim w w' ∧ K w'.heap := by
  obtain ⟨b, o, C, T, rfl, hg, hxs, hC, hone, hk⟩ := hk
  have hst := run_storeCells_at P b o T x.cells.toList 0 C w hg (by simp [hxs]; omega) hone
  simp only [Nat.add_zero] at hst
  have hh := setRow_hput w b (spl C.toList o x.cells.toList) C T hg
  rw [← hh] at hk
  refine ⟨_, ?_, ?_, hk⟩
  · simp only [Instr.storeAt, Instr.sureAddr, storeVar, Sem.run_bind, Sem.run_pure, Result.andThen_ok, run_sizeOf hi, hxs]
    simp [hst, spl]
  · exact ⟨rfl, rfl, rfl⟩
end Go.Vc
