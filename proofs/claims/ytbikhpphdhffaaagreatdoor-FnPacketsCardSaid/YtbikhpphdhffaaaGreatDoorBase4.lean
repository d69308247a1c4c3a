/- Pure operations and loads are sound. Condition: none. -/
import Derived.Test.YtbikhpphdhffaaaGreatDoorBase3
import Derived.WalkSpells
namespace Go.Vc

theorem addr_add (b o n : Nat) : (⟨b, o, none⟩ : Addr).add n = ⟨b, o + n, none⟩ := Addr.add_lit b o n

theorem slc_sound {P : Program} {t e : TypeId} {i : TypeInfo} (ht : P.underlying t = some (.slice e)) (hi : P.info? e = some i) (v : Value) (lo hi' mx : Option Value) (K : Value → Prop)
    (hk : SlcVC i.size v lo hi' mx K) : ∃ r, K r ∧ ∀ w, (Instr.sliceAt t v lo hi' mx).run P w = .ok r w := by
  obtain ⟨a, n, c, l, h, m, rfl, hlh, hhm, hmc, h1, h2, h3, hk⟩ := hk
  refine ⟨_, hk, fun w => ?_⟩
  have hb : (Instr.sliceBounds true n c lo hi' mx).run P w = .ok (l, h, m) w := by
    have bnd : ∀ (k : IntKind) (x y : Nat) (code : BoundsCode), x ≤ y → (Instr.sliceBound (.int k (x : Int)) y code).run P w = .ok x w := by
      intro k x y code hxy
      simp [Instr.sliceBound, asIntOf, hxy]
    cases mx with
    | none =>
      simp only at h1
      subst h1
      cases hi' with
      | none =>
        obtain ⟨rfl, _⟩ := h2
        cases lo with
        | none => simp only at h3; subst h3; simp [Instr.sliceBounds]
        | some x => obtain ⟨k, rfl⟩ := h3; simp [Instr.sliceBounds, bnd _ _ _ _ hlh]
      | some x =>
        obtain ⟨k, rfl⟩ := h2
        cases lo with
        | none => simp only at h3; subst h3; simp [Instr.sliceBounds, bnd _ _ _ _ hhm]
        | some x => obtain ⟨k', rfl⟩ := h3; simp [Instr.sliceBounds, bnd _ _ _ _ hlh, bnd _ _ _ _ hhm]
    | some x =>
      obtain ⟨k, rfl⟩ := h1
      cases hi' with
      | none => simp at h2
      | some x =>
        obtain ⟨k', rfl⟩ := h2
        cases lo with
        | none => simp only at h3; subst h3; simp [Instr.sliceBounds, bnd _ _ _ _ hhm, bnd _ _ _ _ hmc]
        | some x => obtain ⟨k'', rfl⟩ := h3; simp [Instr.sliceBounds, bnd _ _ _ _ hlh, bnd _ _ _ _ hhm, bnd _ _ _ _ hmc]
  simp [Instr.sliceAt, Instr.slice, run_underlying ht, hb, run_sizeOf hi]

theorem sslc_sound {P : Program} {t : TypeId} (ht : P.underlying t = some .string) (v : Value) (lo hi' : Option Value) (K : Value → Prop)
    (hk : StrSlcVC v lo hi' K) : ∃ r, K r ∧ ∀ w, (Instr.sliceAt t v lo hi' none).run P w = .ok r w := by
  obtain ⟨s, l, h, rfl, hlh, hhm, h2, h3, hk⟩ := hk
  refine ⟨_, hk, fun w => ?_⟩
  have hb : (Instr.sliceBounds false s.size s.size lo hi' none).run P w = .ok (l, h, s.size) w := by
    have bnd : ∀ (k : IntKind) (x y : Nat) (code : BoundsCode), x ≤ y → (Instr.sliceBound (.int k (x : Int)) y code).run P w = .ok x w := by
      intro k x y code hxy
      simp [Instr.sliceBound, asIntOf, hxy]
    cases hi' with
    | none =>
      simp only at h2
      subst h2
      cases lo with
      | none => simp only at h3; subst h3; simp [Instr.sliceBounds]
      | some x => obtain ⟨k, rfl⟩ := h3; simp [Instr.sliceBounds, bnd _ _ _ _ hlh]
    | some x =>
      obtain ⟨k, rfl⟩ := h2
      cases lo with
      | none => simp only at h3; subst h3; simp [Instr.sliceBounds, bnd _ _ _ _ hhm]
      | some x => obtain ⟨k', rfl⟩ := h3; simp [Instr.sliceBounds, bnd _ _ _ _ hlh, bnd _ _ _ _ hhm]
  simp [Instr.sliceAt, Instr.slice, run_underlying ht, hb]

theorem mapM_some {α β : Type} (f : α → Option β) : ∀ (l : List α) (r : List β), l.mapM f = some r → r.length = l.length ∧ ∀ (k : Nat) (a : α) (b : β), l[k]? = some a → r[k]? = some b → f a = some b
  | [], r, h => by simp at h; subst h; simp
  | x :: l, r, h => by
    simp only [List.mapM_cons, Option.bind_eq_bind, Option.pure_def, Option.bind_eq_some_iff] at h
    obtain ⟨y, hy, r', hr, he⟩ := h
    simp only [Option.some.injEq] at he
    subst he
    obtain ⟨h1, h2⟩ := mapM_some f l r' hr
    refine ⟨by simp [h1], fun k a b ha hb => ?_⟩
    cases k with
    | zero => simp at ha hb; subst ha; subst hb; exact hy
    | succ k => exact h2 k a b (by simpa using ha) (by simpa using hb)

theorem build_sound {P : Program} {t : TypeId} {parts : List (Nat × Operand)} {ps : List (Nat × Nat × Operand)} {z : List Value} (h : partsOf P t parts = some ps) (hz : zeroOf P t = some z) (hok : okParts ps z.length = true)
    (ρ : Operand → Value) (K : List Value → Prop) (hk : segVC ρ ps z K) : ∃ cs, K cs ∧ ∀ w, (Instr.build t (parts.toArray.map fun (i, x) => (i, ρ x))).run P w = .ok (.agg cs.toArray) w := by
  have hokk : ∀ (k off n : Nat) (y : Operand), ps[k]? = some (off, n, y) → off + n ≤ z.length := fun k off n y hy => by
    have := List.all_eq_true.1 hok _ (List.mem_of_getElem? hy)
    simpa using this
  unfold zeroOf at hz
  cases hit : P.info? t with
  | none => simp [hit] at hz
  | some it =>
    cases hzz : it.zero with
    | none => simp [hit, hzz] at hz
    | some zv =>
      simp [hit, hzz] at hz
      unfold partsOf at h
      cases hu : P.underlying t with
      | none => simp [hu] at h
      | some d =>
        rw [hu] at h
        cases d with
        | struct fs =>
          simp only [Option.bind_eq_some_iff] at h
          obtain ⟨pl, hpl, hm⟩ := h
          obtain ⟨hl, hm⟩ := mapM_some _ _ _ hm
          obtain ⟨cs, hc, hf⟩ := seg_sound ρ (fun x => pl.toArray[x]?) parts ps z K hl (fun k i x off n y h1 h2 => by
            have h3 := hm k _ _ h1 h2
            simp only [Option.map_eq_some_iff, Prod.mk.injEq] at h3
            obtain ⟨q, hq, rfl, rfl, rfl⟩ := h3
            exact ⟨rfl, hq, hokk k _ _ _ h2⟩) hk
          refine ⟨cs, hc, fun w => run_build w t _ _ ?_⟩
          unfold Program.built
          simp only [hit, hu, hzz, hpl]
          rw [show zv.cells = z.toArray by rw [← hz]]
          simpa using hf
        | array len e =>
          simp only [Option.map_eq_some_iff] at h
          obtain ⟨ie, hie, rfl⟩ := h
          obtain ⟨cs, hc, hf⟩ := seg_sound ρ (fun i => some (i * ie.size, ie.size)) parts _ z K (by simp) (fun k i x off n y h1 h2 => by
            have h3 := hokk k _ _ _ h2
            simp only [List.getElem?_map, h1, Option.map_some, Option.some.injEq, Prod.mk.injEq] at h2
            obtain ⟨rfl, rfl, rfl⟩ := h2
            exact ⟨rfl, rfl, h3⟩) hk
          refine ⟨cs, hc, fun w => run_build w t _ _ ?_⟩
          unfold Program.built
          simp only [hit, hu, hzz, hie]
          rw [show zv.cells = z.toArray by rw [← hz]]
          simpa using hf
        | _ => simp at h

theorem eqs_fields {P : Program} (w : World) (d : Nat) (xs ys : Array Value) : ∀ (fs : List Field) (i : Nat) (ks : List Bool) (r : Bool), kindsOf P i fs = some ks → eqC ks (xs.toList.drop i) (ys.toList.drop i) = some r → (Op.eqFields (d + 1) xs ys fs).run P w = .ok r w
  | [], i, ks, r, hk, hr => by
    simp only [kindsOf, Option.some.injEq] at hk
    subst hk
    unfold eqC at hr
    split at hr <;> first | cases hr | skip
    all_goals simp_all [Op.eqFields]
  | f :: fs, i, ks, r, hk, hr => by
    unfold kindsOf at hk
    split at hk
    · rename_i hc
      simp only [Bool.and_eq_true, bne_iff_ne, beq_iff_eq] at hc
      obtain ⟨hn, ho⟩ := hc
      have tail : ∀ {l : List Value} {x : Value} {s : List Value}, l.drop i = x :: s → l[i]? = some x ∧ l.drop (i + 1) = s := by
        intro l x s h
        refine ⟨?_, ?_⟩
        · have : (l.drop i)[0]? = some x := by rw [h]; rfl
          simpa using this
        · have : (l.drop i).tail = s := by rw [h]; rfl
          rw [← this, List.tail_drop]
      split at hk
      · rename_i q hu
        simp only [Option.map_eq_some_iff] at hk
        obtain ⟨ks', hk', rfl⟩ := hk
        unfold eqC at hr
        split at hr
        · rename_i e1 _ _; cases e1
        · rename_i k a xr k' b yr e1 e2 e3
          cases e1
          split at hr
          · rename_i hkk
            simp only [Option.map_eq_some_iff] at hr
            obtain ⟨r', hr', rfl⟩ := hr
            subst hkk
            obtain ⟨x1, x2⟩ := tail e2
            obtain ⟨y1, y2⟩ := tail e3
            rw [← x2, ← y2] at hr'
            have ih := eqs_fields w d xs ys fs (i + 1) ks' r' hk' hr'
            have pk : P.plainKey f.type = true := by simp [Program.plainKey, hu]
            rw [Array.getElem?_toList] at x1 y1
            have p1 := run_part_plain w pk (off := f.offset) (by rw [ho]; exact x1)
            have p2 := run_part_plain w pk (off := f.offset) (by rw [ho]; exact y1)
            have p3 := run_equalIn_int w d f.type k q a b hu
            simp only [Op.eqFields, hn, ne_eq, not_false_eq_true, if_true, Sem.run_bind, p1, p2, p3, Result.andThen_ok]
            cases hab : (a == b)
            · simp
            · simpa using ih
          · cases hr
        · rename_i e1 _ _; cases e1
        · cases hr
      · rename_i hu
        simp only [Option.map_eq_some_iff] at hk
        obtain ⟨ks', hk', rfl⟩ := hk
        unfold eqC at hr
        split at hr
        · rename_i e1 _ _; cases e1
        · rename_i e1 _ _; cases e1
        · rename_i a xr b yr e1 e2 e3
          cases e1
          simp only [Option.map_eq_some_iff] at hr
          obtain ⟨r', hr', rfl⟩ := hr
          obtain ⟨x1, x2⟩ := tail e2
          obtain ⟨y1, y2⟩ := tail e3
          rw [← x2, ← y2] at hr'
          have ih := eqs_fields w d xs ys fs (i + 1) ks' r' hk' hr'
          have pk : P.plainKey f.type = true := by simp [Program.plainKey, hu]
          rw [Array.getElem?_toList] at x1 y1
          have p1 := run_part_plain w pk (off := f.offset) (by rw [ho]; exact x1)
          have p2 := run_part_plain w pk (off := f.offset) (by rw [ho]; exact y1)
          have p3 := run_equalIn_bool w d f.type a b hu
          simp only [Op.eqFields, hn, ne_eq, not_false_eq_true, if_true, Sem.run_bind, p1, p2, p3, Result.andThen_ok]
          cases hab : (a == b)
          · simp
          · simpa using ih
        · cases hr
      · cases hk
    · cases hk
theorem eqs_equal {P : Program} (w : World) {t : TypeId} {fs : Array Field} {ks : List Bool} (hu : P.underlying t = some (.struct fs)) (hk : eqsKinds P t fs = some ks) {xs ys : Array Value} {r : Bool} (hr : eqC ks xs.toList ys.toList = some r) :
    (Op.equalIn 10000 t (.agg xs) (.agg ys)).run P w = .ok r w ∧ P.eqGuardType P.depth t = false := by
  unfold eqsKinds at hk
  split at hk
  · cases hk
  · rename_i hc
    simp only [Bool.or_eq_true, not_or, Bool.not_eq_true] at hc
    have hf : P.fieldsOf t = fs := by simp [Program.fieldsOf, hu]
    refine ⟨?_, hc.2⟩
    have := run_equalIn_struct w 9999 t xs ys (by rw [hf]; exact hu) hc.1
    rw [this, hf]
    exact eqs_fields w 9998 xs ys fs.toList 0 ks r hk (by simpa using hr)

theorem guardI {P : Program} (w : World) (op : BinOp) (t : TypeId) (x : Operand) {v : Value} {b : Bool} (hv : (v = .nilIface ∧ b = true) ∨ ((∃ tt u, v = .iface tt u) ∧ b = false)) : (eqGuard op t x (.const .nilIface) v .nilIface).run P w = .ok () w := by
  unfold eqGuard
  rcases hv with ⟨rfl, rfl⟩ | ⟨⟨tt, u, rfl⟩, rfl⟩ <;> split <;> simp
theorem eqI {P : Program} (w : World) (d : Nat) {t : TypeId} {ms : Array (String × TypeId)} (hu : P.underlying t = some (.interface ms)) {v : Value} {b : Bool} (hv : (v = .nilIface ∧ b = true) ∨ ((∃ tt u, v = .iface tt u) ∧ b = false)) : (Op.equalIn (d + 1) t v .nilIface).run P w = .ok b w := by
  rw [Op.equalIn]
  rcases hv with ⟨rfl, rfl⟩ | ⟨⟨tt, u, rfl⟩, rfl⟩ <;> simp [run_underlying hu]
theorem binI_eql {P : Program} (w : World) {t : TypeId} {ms : Array (String × TypeId)} (hu : P.underlying t = some (.interface ms)) {v : Value} {b : Bool} (hv : (v = .nilIface ∧ b = true) ∨ ((∃ tt u, v = .iface tt u) ∧ b = false)) : (binOp .eql t v .nilIface).run P w = .ok (.bool (bif false then !b else b)) w := by
  have := eqI w 9999 hu hv
  rcases hv with ⟨rfl, rfl⟩ | ⟨⟨tt, u, rfl⟩, rfl⟩ <;> (simp only [binOp]; simp [Op.equal, Op.maxDepth, this])
theorem binI_neq {P : Program} (w : World) {t : TypeId} {ms : Array (String × TypeId)} (hu : P.underlying t = some (.interface ms)) {v : Value} {b : Bool} (hv : (v = .nilIface ∧ b = true) ∨ ((∃ tt u, v = .iface tt u) ∧ b = false)) : (binOp .neq t v .nilIface).run P w = .ok (.bool (bif true then !b else b)) w := by
  have := eqI w 9999 hu hv
  rcases hv with ⟨rfl, rfl⟩ | ⟨⟨tt, u, rfl⟩, rfl⟩ <;> (simp only [binOp]; simp [Op.equal, Op.maxDepth, this])
theorem pure_sound0 {P : Program} {o : Oper} {p : POp} (hr : resolveOp0 P o.op = some (.pure p)) (ρ : Operand → Value) (hc : ∀ v, ρ (.const v) = v) (K : Value → Prop) (hk : p.wp ρ K) :
    ∃ v, K v ∧ Gives P ρ o v := by
  cases ho : o.op <;> rw [ho] at hr <;> simp only [resolveOp0] at hr <;> try (cases hr; done)
  case move x => simp at hr; subst hr; exact ⟨_, hk, fun w => by simp [execOp, ho]⟩
  case assign x => simp at hr; subst hr; exact ⟨_, hk, fun w => by simp [execOp, ho]⟩
  case pick c a b =>
    simp at hr; subst hr
    simp only [POp.wp] at hk
    split at hk
    · rename_i hv; exact ⟨_, hk, fun w => by simp [execOp, ho, hv, asBool]⟩
    · rename_i hv; exact ⟨_, hk, fun w => by simp [execOp, ho, hv, asBool]⟩
    · exact hk.elim
  case alloc t => cases h : zeroOf P t <;> simp [h] at hr
  case build t parts =>
    simp only [Option.bind_eq_some_iff] at hr
    obtain ⟨z, hz, ps, hps, hr⟩ := hr
    split at hr
    · rename_i hok
      simp at hr; subst hr
      obtain ⟨cs, hc, hrun⟩ := build_sound hps hz hok ρ _ hk
      refine ⟨_, hc, gives_of (s := Instr.build t (parts.map fun (i, x) => (i, ρ x))) (by simp [execOp, ho]) (by simpa using hrun)⟩
    · simp at hr
  case buildSlice t len parts =>
    split at hr
    · simp only [Option.bind_eq_some_iff] at hr
      obtain ⟨i, _, z, _, hr⟩ := hr
      split at hr <;> simp at hr
    · simp at hr
  case load t a => cases h : aggN P t <;> simp [h] at hr
  case store t a x => cases h : P.info? t <;> simp [h] at hr
  case nilCheck x =>
    simp at hr; subst hr
    simp only [POp.wp] at hk
    split at hk
    · rename_i hv; exact ⟨_, hk, fun w => by simp [execOp, ho, hv]⟩
    · rename_i hv; exact ⟨_, hk, fun w => by simp [execOp, ho, hv]⟩
    · exact hk.elim
  case binOp op t x y yt =>
    have bin : p = .bin op x y → ∃ v, K v ∧ Gives P ρ o v := by
      rintro rfl
      obtain ⟨v, h1, h2⟩ := bin_sound P op t x y _ _ K hk
      exact ⟨v, h1, gives_of (s := do eqGuard op t x y (ρ x) (ρ y); binOp op t (ρ x) (ρ y)) (by simp [execOp, ho]) h2⟩
    split at hr
    · simp at hr; exact bin hr.symm
    · simp at hr; exact bin hr.symm
    · rename_i hu
      split at hr
      · simp at hr; subst hr
        simp only [POp.wp] at hk
        split at hk
        · rename_i a b hx hy
          refine ⟨_, hk, gives_of (s := do eqGuard .eql t x y (ρ x) (ρ y); binOp .eql t (ρ x) (ρ y)) (by simp [execOp, ho]) fun w => ?_⟩
          simp [hx, hy, eqGuard_at_bool, run_eql_bool w t a b hu]
        · exact hk.elim
      · simp at hr; subst hr
        simp only [POp.wp] at hk
        split at hk
        · rename_i a b hx hy
          refine ⟨_, hk, gives_of (s := do eqGuard .neq t x y (ρ x) (ρ y); binOp .neq t (ρ x) (ρ y)) (by simp [execOp, ho]) fun w => ?_⟩
          simp [hx, hy, eqGuard_at_bool, run_neq_bool w t a b hu, bne]
        · exact hk.elim
      · simp at hr
    · rename_i e hu
      split at hr
      · rename_i hnil
        obtain ⟨n', c', rfl⟩ := isNilC_spec hnil
        split at hr
        · simp at hr; subst hr
          obtain ⟨a, n, c, hv, hk⟩ := hk
          refine ⟨_, hk, gives_of (s := do eqGuard .eql t x (.const (.slice none n' c')) (ρ x) (ρ (.const (.slice none n' c'))); binOp .eql t (ρ x) (ρ (.const (.slice none n' c')))) (by simp [execOp, ho]) fun w => ?_⟩
          simp [hv, hc, eqGuard_at_slice, Lib.run_eql_slice_nil w t e a n c n' c' hu]
        · simp at hr; subst hr
          obtain ⟨a, n, c, hv, hk⟩ := hk
          refine ⟨_, hk, gives_of (s := do eqGuard .neq t x (.const (.slice none n' c')) (ρ x) (ρ (.const (.slice none n' c'))); binOp .neq t (ρ x) (ρ (.const (.slice none n' c')))) (by simp [execOp, ho]) fun w => ?_⟩
          simp [hv, hc, eqGuard_at_slice, run_neq_slice_nil_any w t e a n c n' c' hu]
        · simp at hr
      · simp at hr
    · rename_i ms hu
      split at hr
      · rename_i hnil
        obtain rfl := isNilI_spec hnil
        split at hr
        · simp at hr; subst hr
          obtain ⟨b, hv, hk⟩ := hk
          refine ⟨_, hk, gives_of (s := do eqGuard .eql t x (.const .nilIface) (ρ x) (ρ (.const .nilIface)); binOp .eql t (ρ x) (ρ (.const .nilIface))) (by simp [execOp, ho]) fun w => ?_⟩
          rw [hc, Sem.run_bind, guardI w _ t x hv, Result.andThen_ok, binI_eql w hu hv]
        · simp at hr; subst hr
          obtain ⟨b, hv, hk⟩ := hk
          refine ⟨_, hk, gives_of (s := do eqGuard .neq t x (.const .nilIface) (ρ x) (ρ (.const .nilIface)); binOp .neq t (ρ x) (ρ (.const .nilIface))) (by simp [execOp, ho]) fun w => ?_⟩
          rw [hc, Sem.run_bind, guardI w _ t x hv, Result.andThen_ok, binI_neq w hu hv]
        · simp at hr
      · simp at hr
    · rename_i fs hu
      simp only [Option.bind_eq_some_iff] at hr
      obtain ⟨ks, hks, hr⟩ := hr
      split at hr
      · simp at hr; subst hr
        obtain ⟨a, b, r, hx, hy, he, hk⟩ := hk
        refine ⟨_, hk, gives_of (s := do eqGuard .eql t x y (ρ x) (ρ y); binOp .eql t (ρ x) (ρ y)) (by simp [execOp, ho]) fun w => ?_⟩
        obtain ⟨h1, h2⟩ := eqs_equal w hu hks he
        rw [hx, hy]
        simp only [Sem.run_bind, run_eqGuard_agg w .eql t x y a b h2, Result.andThen_ok, run_eql_struct, h1, cond_false]
      · simp at hr; subst hr
        obtain ⟨a, b, r, hx, hy, he, hk⟩ := hk
        refine ⟨_, hk, gives_of (s := do eqGuard .neq t x y (ρ x) (ρ y); binOp .neq t (ρ x) (ρ y)) (by simp [execOp, ho]) fun w => ?_⟩
        obtain ⟨h1, h2⟩ := eqs_equal w hu hks he
        rw [hx, hy]
        simp only [Sem.run_bind, run_eqGuard_agg w .neq t x y a b h2, Result.andThen_ok, run_neq_struct, h1, cond_true]
      · simp at hr
    · simp at hr
  case unOp op t x =>
    cases op <;> simp only at hr <;> try (cases hr; done)
    · simp at hr; subst hr
      simp only [POp.wp] at hk
      split at hk
      · rename_i k a hv
        obtain ⟨-, hk⟩ := hk
        exact ⟨_, hk, fun w => by simp [execOp, ho, hv, Op.unary, Op.intArith]⟩
      · exact hk.elim
    · simp at hr; subst hr
      simp only [POp.wp] at hk
      split at hk
      · rename_i b hv; exact ⟨_, hk, fun w => by simp [execOp, ho, hv, Op.unary]⟩
      · exact hk.elim
  case convert src dst x =>
    split at hr
    · rename_i k' k hs hd
      simp at hr; subst hr
      simp only [POp.wp] at hk
      split at hk
      · rename_i ki a hv
        refine ⟨_, hk, fun w => ?_⟩
        simp [execOp, ho, hv, convert, run_underlying hs, run_underlying hd, Conv.intToInt]
      · exact hk.elim
    · split at hr <;> simp at hr
    · simp at hr
  case makeFunc fn first cap =>
    simp at hr; subst hr
    refine ⟨_, hk, fun w => ?_⟩
    have e : ∀ l : Array Operand, Array.map ρ l = (List.map ρ l.toList).toArray := fun l => by apply Array.toList_inj.1; simp
    simp only [execOp, ho, Instr.makeFunc, e]
    rfl
  case makeSlice t l c =>
    split at hr
    · simp only [Option.bind_eq_some_iff] at hr
      obtain ⟨i, _, z, _, hr⟩ := hr
      split at hr <;> simp at hr
    · simp at hr
  case slice t x lo hi mx =>
    split at hr
    · rename_i e ht
      simp only [Option.map_eq_some_iff] at hr
      obtain ⟨i, hi', hr⟩ := hr
      simp at hr; subst hr
      obtain ⟨r, h1, h2⟩ := slc_sound ht hi' _ _ _ _ K hk
      exact ⟨r, h1, gives_of (by simp only [execOp, ho]) h2⟩
    · rename_i ht
      split at hr
      · rename_i hm
        simp at hr hm; subst hr; subst hm
        obtain ⟨r, h1, h2⟩ := sslc_sound ht _ _ _ K hk
        exact ⟨r, h1, gives_of (by simp only [execOp, ho]; rfl) h2⟩
      · simp at hr
    · simp at hr
  case fieldAddr s x f =>
    simp only [Option.bind_eq_some_iff] at hr
    obtain ⟨fl, hfl, i, hi, hr⟩ := hr
    split at hr
    · simp at hr
    · rename_i hsz
      simp at hr; subst hr
      simp only [POp.wp] at hk
      split at hk
      · rename_i b o hv
        refine ⟨_, hk, fun w => ?_⟩
        unfold fieldOf at hfl
        split at hfl
        · rename_i fs hu
          simp [execOp, ho, hv, Instr.fieldAt, run_underlying hu, hfl, Instr.sureAddr, fieldPlace, run_sizeOf hi]
          rw [if_neg (by simpa using hsz)]
          simp [addr_add]
        · simp at hfl
      · exact hk.elim
  case field t x f =>
    simp only [Option.bind_eq_some_iff, Option.map_eq_some_iff] at hr
    obtain ⟨fl, hfl, n, hn, hr⟩ := hr
    simp at hr; subst hr
    simp only [POp.wp] at hk
    unfold fieldOf at hfl
    split at hfl
    · rename_i fs hu
      split at hk
      · rename_i cs hv
        split at hk
        · split at hk
          · rename_i u r hd
            have := list_drop_cons hd
            refine ⟨_, hk, fun w => ?_⟩
            simp only [Array.getElem?_toList] at this
            simp [execOp, ho, hv, Instr.field, run_underlying hu, hfl, asAgg, part, aggN_none hn w, this]
          · exact hk.elim
        · rename_i n
          obtain ⟨h1, h2⟩ := aggN_some hn default
          refine ⟨_, hk, fun w => ?_⟩
          obtain ⟨h1, h2⟩ := aggN_some hn w
          simp [execOp, ho, hv, Instr.field, run_underlying hu, hfl, asAgg, part, h1, h2]
          apply Array.toList_inj.1
          simp [Array.toList_extract]
      · exact hk.elim
    · simp at hfl
  case indexAddr t x i =>
    split at hr
    · rename_i e ht
      simp only [Option.map_eq_some_iff] at hr
      obtain ⟨inf, hi', hr⟩ := hr
      simp at hr; subst hr
      obtain ⟨b, off, n, c, ki, k, hv, hix, h0, h1, hk⟩ := hk
      refine ⟨_, hk, fun w => ?_⟩
      simp [execOp, ho, hv, hix, Instr.indexAt, asIntOf, run_underlying ht, h0, h1, run_sizeOf hi', addr_add]
    · rename_i len e ht
      simp only [Option.map_eq_some_iff] at hr
      obtain ⟨inf, hi', hr⟩ := hr
      simp at hr; subst hr
      obtain ⟨b, off, ki, k, hv, hix, hlt, hk⟩ := hk
      refine ⟨_, hk, fun w => ?_⟩
      simp [execOp, ho, hv, hix, Instr.indexAt, asIntOf, run_underlying ht, Instr.sureAddr, hlt, run_sizeOf hi', addr_add]
    · simp at hr
  case index t x i =>
    split at hr
    · rename_i ht
      simp at hr; subst hr
      obtain ⟨s, ki, k, b, hv, hix, hb, hk⟩ := hk
      refine ⟨_, hk, fun w => ?_⟩
      have : s[k]? = some b := by
        have hk' : k < s.data.toList.length := (List.getElem?_eq_some_iff.1 hb).1
        have hk2 : k < s.size := by simpa using hk'
        have e := (List.getElem?_eq_some_iff.1 hb).2
        rw [getElem?_pos s k hk2]
        exact congrArg some e
      simp [execOp, ho, hv, hix, Instr.index, asIntOf, run_underlying ht, this]
    · rename_i len e ht
      simp only [Option.bind_eq_some_iff, Option.map_eq_some_iff] at hr
      obtain ⟨inf, hi', n, hn, hr⟩ := hr
      simp at hr; subst hr
      obtain ⟨cs, ki, k, hv, hix, hlt, hk⟩ := hk
      cases n with
      | none =>
        obtain ⟨u, hu, hk⟩ := hk
        refine ⟨_, hk, fun w => ?_⟩
        have hu' : cs[k * inf.size]? = some u := by simpa using hu
        simp [execOp, ho, hv, hix, Instr.index, asIntOf, run_underlying ht, hlt, run_sizeOf hi', part, aggN_none hn w, hu']
      | some n =>
        refine ⟨_, hk, fun w => ?_⟩
        obtain ⟨h1, h2⟩ := aggN_some hn w
        have h3 := (run_sizeOf hi' w).symm.trans h2
        simp only [Result.ok.injEq, and_true] at h3
        subst h3
        simp [execOp, ho, hv, hix, Instr.index, asIntOf, run_underlying ht, hlt, run_sizeOf hi', part, h1]
        apply Array.toList_inj.1
        simp [Array.toList_extract]
    · simp at hr
  case extract x i =>
    simp at hr; subst hr
    simp only [POp.wp] at hk
    split at hk
    · rename_i vs hv
      split at hk
      · rename_i u r hd
        have := list_drop_cons hd
        simp only [Array.getElem?_toList] at this
        exact ⟨_, hk, fun w => by simp [execOp, ho, hv, Instr.extract, this]⟩
      · exact hk.elim
    · exact hk.elim
  case call c =>
    unfold resolveCall at hr
    split at hr
    · rename_i x t hc hargs ht
      have ha : c.args = #[x] := by apply Array.toList_inj.1; simpa using hargs
      have hat : c.argTypes = #[t] := by apply Array.toList_inj.1; simpa using ht
      split at hr
      · rename_i e hu
        simp at hr; subst hr
        obtain ⟨a, n, cc, hv, hk⟩ := hk
        refine ⟨_, hk, fun w => ?_⟩
        simp [execOp, ho, resolve, hc, ha, hat, hv, invoke, builtin, Builtin.len_, run_underlying hu, goInt]
      · rename_i hu
        simp at hr; subst hr
        simp only [POp.wp] at hk
        split at hk
        · rename_i s hv
          refine ⟨_, hk, fun w => ?_⟩
          simp [execOp, ho, resolve, hc, ha, hat, hv, invoke, builtin, Builtin.len_, run_underlying hu, goInt]
        · exact hk.elim
      · simp at hr
    · split at hr
      · split at hr
        · simp only [Option.bind_eq_some_iff] at hr
          obtain ⟨i, _, hr⟩ := hr
          split at hr
          · split at hr <;> simp at hr
          · simp at hr
        · simp at hr
      · simp at hr
    · split at hr
      · simp only [Option.map_eq_some_iff] at hr
        obtain ⟨i, _, hr⟩ := hr
        simp at hr
      · simp at hr
    · split at hr
      · simp only [Option.bind_eq_some_iff] at hr
        obtain ⟨i, _, z, _, hr⟩ := hr
        split at hr <;> simp at hr
      · simp at hr
    · rename_i x y hc hargs
      have ha : c.args = #[x, y] := by apply Array.toList_inj.1; simpa using hargs
      simp at hr; subst hr
      simp only [POp.wp] at hk
      split at hk
      · rename_i k a k' b hx hy
        refine ⟨_, hk, fun w => ?_⟩
        simp [execOp, ho, resolve, hc, ha, hx, hy, invoke, builtin, run_min_int2]
      · exact hk.elim
    · rename_i x y hc hargs
      have ha : c.args = #[x, y] := by apply Array.toList_inj.1; simpa using hargs
      simp at hr; subst hr
      simp only [POp.wp] at hk
      split at hk
      · rename_i k a k' b hx hy
        refine ⟨_, hk, fun w => ?_⟩
        simp [execOp, ho, resolve, hc, ha, hx, hy, invoke, builtin, run_max_int2]
      · exact hk.elim
    · simp at hr
    · simp at hr
    · simp at hr

theorem loadCells_sound {P : Program} (w : World) (a : Addr) (cs : List Value) (h : ∀ (j : Nat) (u : Value), cs[j]? = some u → hcell w.heap (a.add j) = some u) : (loadCells a cs.length).run P w = .ok cs.toArray w :=
  run_loadCells_list w a cs h

theorem loadVar_sound {P : Program} {t : TypeId} {n : Option Nat} (ht : aggN P t = some n) (w : World) (v : Value) (K : Value → Prop) (hk : LoadVC w.heap v n K) :
    ∃ r, K r ∧ (Instr.loadAt t v).run P w = .ok r w := by
  obtain ⟨a, rfl, hk⟩ := hk
  cases n with
  | none =>
    obtain ⟨c, hc, hk⟩ := hk
    refine ⟨c, hk, ?_⟩
    have hc' : w.cell? a = some c := hc
    simp [Instr.loadAt, Instr.sureAddr, loadVar, aggN_none ht w, hc']
  | some n =>
    obtain ⟨cs, hl, hc, hk⟩ := hk
    obtain ⟨h1, h2⟩ := aggN_some ht w
    refine ⟨_, hk, ?_⟩
    subst hl
    simp [Instr.loadAt, Instr.sureAddr, loadVar, h1, h2, loadCells_sound w a cs hc]

theorem load_sound0 {P : Program} {o : Oper} {n : Option Nat} {x : Operand} (hr : resolveOp0 P o.op = some (.load n x)) (ρ : Operand → Value) (w : World) (K : Value → Prop) (hk : LoadVC w.heap (ρ x) n K) :
    ∃ v, K v ∧ (execOp ρ o).run P w = .ok (.value v) w := by
  cases ho : o.op <;> rw [ho] at hr <;> simp only [resolveOp0] at hr <;> try (cases hr; done)
  case load t a =>
    simp only [Option.map_eq_some_iff] at hr
    obtain ⟨n', hn, hr⟩ := hr
    simp at hr
    obtain ⟨rfl, rfl⟩ := hr
    obtain ⟨r, h1, h2⟩ := loadVar_sound hn w _ K hk
    exact ⟨r, h1, by simp [execOp, ho, h2]⟩
  case alloc t => cases h : zeroOf P t <;> simp [h] at hr
  case build t parts =>
    simp only [Option.bind_eq_some_iff] at hr
    obtain ⟨z, hz, ps, hps, hr⟩ := hr
    split at hr <;> simp at hr
  case buildSlice t len parts =>
    split at hr
    · simp only [Option.bind_eq_some_iff] at hr
      obtain ⟨i, _, z, _, hr⟩ := hr
      split at hr <;> simp at hr
    · simp at hr
  case store t a x => cases h : P.info? t <;> simp [h] at hr
  case binOp op t x y yt =>
    split at hr
    · simp at hr
    · simp at hr
    · split at hr <;> simp at hr
    · split at hr
      · split at hr <;> simp at hr
      · simp at hr
    · split at hr
      · split at hr <;> simp at hr
      · simp at hr
    · simp only [Option.bind_eq_some_iff] at hr
      obtain ⟨_, _, hr⟩ := hr
      split at hr <;> simp at hr
    · simp at hr
  case unOp op t x => cases op <;> simp at hr
  case convert src dst x =>
    split at hr
    · simp at hr
    · split at hr <;> simp at hr
    · simp at hr
  case makeSlice t l c =>
    split at hr
    · simp only [Option.bind_eq_some_iff] at hr
      obtain ⟨i, _, z, _, hr⟩ := hr
      split at hr <;> simp at hr
    · simp at hr
  case slice t x lo hi mx =>
    split at hr
    · simp only [Option.map_eq_some_iff] at hr
      obtain ⟨i, _, hr⟩ := hr
      simp at hr
    · split at hr <;> simp at hr
    · simp at hr
  case fieldAddr s x f =>
    simp only [Option.bind_eq_some_iff] at hr
    obtain ⟨fl, hfl, i, hi, hr⟩ := hr
    split at hr <;> simp at hr
  case field t x f =>
    simp only [Option.bind_eq_some_iff, Option.map_eq_some_iff] at hr
    obtain ⟨fl, hfl, n, hn, hr⟩ := hr
    simp at hr
  case indexAddr t x i =>
    split at hr
    · simp only [Option.map_eq_some_iff] at hr
      obtain ⟨inf, _, hr⟩ := hr
      simp at hr
    · simp only [Option.map_eq_some_iff] at hr
      obtain ⟨inf, _, hr⟩ := hr
      simp at hr
    · simp at hr
  case index t x i =>
    split at hr
    · simp at hr
    · simp only [Option.bind_eq_some_iff, Option.map_eq_some_iff] at hr
      obtain ⟨inf, _, n, _, hr⟩ := hr
      simp at hr
    · simp at hr
  case call c =>
    unfold resolveCall at hr
    split at hr
    · split at hr <;> simp at hr
    · split at hr
      · split at hr
        · simp only [Option.bind_eq_some_iff] at hr
          obtain ⟨i, _, hr⟩ := hr
          split at hr
          · split at hr <;> simp at hr
          · simp at hr
        · simp at hr
      · simp at hr
    · split at hr
      · simp only [Option.map_eq_some_iff] at hr
        obtain ⟨i, _, hr⟩ := hr
        simp at hr
      · simp at hr
    · split at hr
      · simp only [Option.bind_eq_some_iff] at hr
        obtain ⟨i, _, z, _, hr⟩ := hr
        split at hr <;> simp at hr
      · simp at hr
    · simp at hr
    · simp at hr
    · simp at hr
    · simp at hr
    · simp at hr
end Go.Vc
