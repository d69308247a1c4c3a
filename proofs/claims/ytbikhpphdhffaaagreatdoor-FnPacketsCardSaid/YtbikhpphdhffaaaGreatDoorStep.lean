/- Steps through the condition 'vc', one lemma for each kind of operation. Condition: none. -/
import Derived.Test.YtbikhpphdhffaaaGreatDoorRes
namespace Go.Vc

section
variable {P : Program} {l : List MStep} {E : Env} {h : Heap} {K : Env → Heap → Prop}

theorem s_nil (hk : K E h) : vcOps P [] E h K := hk
theorem s_splitT {t : Nat} {b : Bool} {p : Prop} [i : IsProp b p] (hv : E t = .bool b) (ht : p → vcOps P l (E.put t (.bool true)) h K) (hf : ¬ p → vcOps P l (E.put t (.bool false)) h K) : vcOps P (.split t :: l) E h K := by
  show SplitVC (E t) _ _
  rw [hv]; exact SplitVC.mk ht hf
theorem s_splitY {t : Nat} {b : Bool} {p : Prop} [i : IsProp b p] (hv : E t = .bool b) (hp : p) (ht : vcOps P l (E.put t (.bool true)) h K) : vcOps P (.split t :: l) E h K := by
  show SplitVC (E t) _ _
  rw [hv]; exact SplitVC.yes hp ht
theorem s_splitN {t : Nat} {b : Bool} {p : Prop} [i : IsProp b p] (hv : E t = .bool b) (hp : ¬ p) (hf : vcOps P l (E.put t (.bool false)) h K) : vcOps P (.split t :: l) E h K := by
  show SplitVC (E t) _ _
  rw [hv]; exact SplitVC.no hp hf
theorem s_splitU {t : Nat} (hv : E t = undef) (hk : vcOps P l E h K) : vcOps P (.split t :: l) E h K := SplitVC.u hv hk
/-- a guarded operation that is done -/
theorem s_run {d : Option Nat} {m : MOp} {g : Nat} {w : Bool} (hg : E g = .bool w) (hk : vcOps P (.op ⟨d, m, none⟩ :: l) E h K) : vcOps P (.op ⟨d, m, some (g, w)⟩ :: l) E h K := by
  cases w
  · show runG E (some (g, false)) _ _
    simp only [runG, hg]; exact hk
  · show runG E (some (g, true)) _ _
    simp only [runG, hg]; exact hk
/-- a guarded operation that is passed over -/
theorem s_passU {d : Nat} {m : MOp} {g : Nat} {w : Bool} (hg : E g = undef) (hk : vcOps P l (E.put d undef) h K) : vcOps P (.op ⟨some d, m, some (g, w)⟩ :: l) E h K := by
  show runG E (some (g, w)) _ _
  simp only [runG, hg, undef]; exact hk
theorem s_passUN {m : MOp} {g : Nat} {w : Bool} (hg : E g = undef) (hk : vcOps P l E h K) : vcOps P (.op ⟨none, m, some (g, w)⟩ :: l) E h K := by
  show runG E (some (g, w)) _ _
  simp only [runG, hg, undef]; exact hk
theorem s_pass {d : Nat} {m : MOp} {g : Nat} {w : Bool} (hg : E g = .bool (!w)) (hk : vcOps P l (E.put d undef) h K) : vcOps P (.op ⟨some d, m, some (g, w)⟩ :: l) E h K := by
  cases w
  · show runG E (some (g, false)) _ _
    simp only [Bool.not_false] at hg
    simp only [runG, hg]; exact hk
  · show runG E (some (g, true)) _ _
    simp only [Bool.not_true] at hg
    simp only [runG, hg]; exact hk
theorem s_passN {m : MOp} {g : Nat} {w : Bool} (hg : E g = .bool (!w)) (hk : vcOps P l E h K) : vcOps P (.op ⟨none, m, some (g, w)⟩ :: l) E h K := by
  cases w
  · show runG E (some (g, false)) _ _
    simp only [Bool.not_false] at hg
    simp only [runG, hg]; exact hk
  · show runG E (some (g, true)) _ _
    simp only [Bool.not_true] at hg
    simp only [runG, hg]; exact hk
theorem s_pure {d : Nat} {p : POp} (v : Value) (hv : ∀ K : Value → Prop, K v → p.wp (ev E) K) (hk : vcOps P l (E.put d v) h K) : vcOps P (.op ⟨some d, .pure p, none⟩ :: l) E h K :=
  hv (fun v => vcOps P l (E.put d v) h K) hk
theorem s_pq {d : Nat} {p : POp} (v : Value) (hk : vcOps P l (E.put d v) h K) (hv : ∀ K : Value → Prop, K v → p.wp (ev E) K := by exact fun _ q => q) : vcOps P (.op ⟨some d, .pure p, none⟩ :: l) E h K := s_pure v hv hk
theorem s_pureN {p : POp} (v : Value) (hv : ∀ K : Value → Prop, K v → p.wp (ev E) K) (hk : vcOps P l E h K) : vcOps P (.op ⟨none, .pure p, none⟩ :: l) E h K :=
  hv (fun _ => vcOps P l E h K) hk
theorem s_load {d : Nat} {n : Option Nat} {x : Operand} (v : Value) (hv : ∀ K : Value → Prop, K v → LoadVC h (ev E x) n K) (hk : vcOps P l (E.put d v) h K) : vcOps P (.op ⟨some d, .load n x, none⟩ :: l) E h K := by
  show LoadVC h (ev E x) n _
  exact hv _ hk
theorem s_loadN {n : Option Nat} {x : Operand} (v : Value) (hv : ∀ K : Value → Prop, K v → LoadVC h (ev E x) n K) (hk : vcOps P l E h K) : vcOps P (.op ⟨none, .load n x, none⟩ :: l) E h K := by
  show LoadVC h (ev E x) n _
  exact hv _ hk
/-- an effect with a value; the rest is told by R -/
theorem s_eff {d : Nat} {e : EOp} (R : Value → Heap → Prop) (hv : e.wp P (ev E) h R) (hk : ∀ v h', R v h' → vcOps P l (E.put d v) h' K) : vcOps P (.op ⟨some d, .eff e, none⟩ :: l) E h K := by
  show e.wp P (ev E) h _
  exact eop_mono P e _ _ hk hv
theorem s_effN {e : EOp} (R : Value → Heap → Prop) (hv : e.wp P (ev E) h R) (hk : ∀ v h', R v h' → vcOps P l E h' K) : vcOps P (.op ⟨none, .eff e, none⟩ :: l) E h K := by
  show e.wp P (ev E) h _
  exact eop_mono P e _ _ hk hv
theorem s_call {d : Nat} {f : FuncId} {args : List Operand} {R : Value → Heap → Prop} (vs : List Value) (ha : args.map (ev E) = vs) (hc : CallsH P f vs h R) (hk : ∀ v h', R v h' → vcOps P l (E.put d v) h' K) :
    vcOps P (.op ⟨some d, .eff (.call f args), none⟩ :: l) E h K := by
  show CallsH P f (args.map (ev E)) h _
  rw [ha]; exact hc.mono hk
theorem s_callN {f : FuncId} {args : List Operand} {R : Value → Heap → Prop} (vs : List Value) (ha : args.map (ev E) = vs) (hc : CallsH P f vs h R) (hk : ∀ v h', R v h' → vcOps P l E h' K) :
    vcOps P (.op ⟨none, .eff (.call f args), none⟩ :: l) E h K := by
  show CallsH P f (args.map (ev E)) h _
  rw [ha]; exact hc.mono hk
/-- a call that only tells a value -/
theorem s_callS {d : Nat} {f : FuncId} {args : List Operand} (vs : List Value) (v : Value) (ha : args.map (ev E) = vs) (hc : CallsH P f vs h fun r h' => r = v ∧ h' = h) (hk : vcOps P l (E.put d v) h K) :
    vcOps P (.op ⟨some d, .eff (.call f args), none⟩ :: l) E h K := by
  refine s_call vs ha hc ?_
  rintro _ _ ⟨rfl, rfl⟩; exact hk
theorem s_callv {d : Nat} {t : Operand} {g : FuncId} {a b : Array Value} {args : List Operand} {R : Value → Heap → Prop} (vs : List Value) (hf : ev E t = .func (.func g) a b) (ha : a.toList ++ args.map (ev E) ++ b.toList = vs) (hc : CallsH P g vs h R) (hk : ∀ v h', R v h' → vcOps P l (E.put d v) h' K) :
    vcOps P (.op ⟨some d, .eff (.callv t args), none⟩ :: l) E h K := by
  show (match ev E t with | .func (.func g) first cap => CallsH P g (first.toList ++ args.map (ev E) ++ cap.toList) h _ | _ => False)
  rw [hf]
  show CallsH P g (a.toList ++ args.map (ev E) ++ b.toList) h _
  rw [ha]; exact hc.mono hk
theorem s_new {d : Nat} {t : TypeId} {cells : List Value} (hk : ∀ h' b, b = h.size → h'.size = h.size + 1 → Ext h h' → Bx h' b cells t → vcOps P l (E.put d (.pointer (some ⟨b, 0, none⟩))) h' K) :
    vcOps P (.op ⟨some d, .eff (.new t cells), none⟩ :: l) E h K := by
  show AllocVC h cells.toArray t _
  exact AllocVC.mk cells rfl hk
theorem s_box {d : Nat} {t : TypeId} {x : Operand} (cells : List Value) (hc : (ev E x).cells.toList = cells) (hk : ∀ h' b, b = h.size → h'.size = h.size + 1 → Ext h h' → Bx h' b cells t → vcOps P l (E.put d (.pointer (some ⟨b, 0, none⟩))) h' K) :
    vcOps P (.op ⟨some d, .eff (.box t x), none⟩ :: l) E h K := by
  show AllocVC h (ev E x).cells t _
  exact AllocVC.mk cells hc hk
/-- a store into a variable -/
theorem s_stBx {n : Nat} {a x : Operand} {b o : Nat} {cs : List Value} {T : TypeId} (y : Value) (us new : List Value) (hb : Bx h b cs T) (ha : ev E a = .pointer (some ⟨b, o, none⟩)) (hx : ev E x = y) (hu : y.cells.toList = us) (hl : us.length = n) (ho : o + n ≤ cs.length) (h1 : ∀ u ∈ us, u.oneCell' = true)
    (hn : spl cs o us = new) (hk : ∀ h', Mod [b] h h' → h'.size = h.size → Bx h' b new T → vcOps P l E h' K) : vcOps P (.op ⟨none, .eff (.store n a x), none⟩ :: l) E h K := by
  show StoreVC h n (ev E a) (ev E x) _
  rw [ha, hx]
  refine hb.store hu hl ho h1 (fun h' m z bx => hk h' m z (hn ▸ bx))
/-- a store into an element of a slice -/
theorem s_stSl {α : Type} [Enc α] {n : Nat} {a x : Operand} {v : Value} {xs : List α} {k j o : Nat} {x0 : α} (x1 : α) (y : Value) (us : List Value) (hs : SlO h v xs) (ha : ev E a = .pointer (some ⟨sblk v, o, none⟩)) (ho : o = soff v + k * Enc.sz α + j) (hx : ev E x = y) (hu : y.cells.toList = us) (hl : us.length = n)
    (hx0 : xs[k]? = some x0) (hj : j + us.length ≤ Enc.sz α) (h1 : Enc.cells x1 = spl (Enc.cells x0) j us) (ho1 : ∀ u ∈ us, u.oneCell' = true)
    (hk : ∀ h', Mod (blks v) h h' → h'.size = h.size → SlO h' v (xs.set k x1) → vcOps P l E h' K) : vcOps P (.op ⟨none, .eff (.store n a x), none⟩ :: l) E h K := by
  show StoreVC h n (ev E a) (ev E x) _
  rw [ha, hx]
  exact hs.store hx0 hu hl ho hj h1 ho1 hk
theorem s_app {α : Type} [Enc α] {d : Nat} {e : TypeId} {sz bytes : Nat} {s x : Operand} {v w : Value} {xs ys : List α} {own : Bool} (hs : SlO h v xs) (hy : SlX own h w ys) (ha : ev E s = v) (hx : ev E x = w) (hsz : sz = Enc.sz α) (hl : xs.length + ys.length ≤ maxLen) (hb : (xs.length + ys.length) * bytes ≤ 140737488355328)
    (hk : ∀ v' h', Mod (blks v) h h' → h.size ≤ h'.size → SlO h' v' (xs ++ ys) → (∀ b ∈ blks v', b ∈ blks v ∨ h.size ≤ b) → vcOps P l (E.put d v') h' K) : vcOps P (.op ⟨some d, .eff (.app e sz bytes s x), none⟩ :: l) E h K := by
  show AppVC h e sz bytes (ev E s) (ev E x) _
  rw [ha, hx]
  exact hs.append hy hsz hl hb (fun v' h' m so hb' => hk v' h' m m.size so hb')
theorem s_row {α : Type} [Enc α] {d : Nat} {t : TypeId} {n : Nat} {zero : List Value} {parts : List (Nat × Nat × Operand)} (ys : List α) (hp : ∀ K : List Value → Prop, K (flat ys) → segVC (ev E) parts zero K) (hn : n = ys.length) (hm : ys.length ≤ maxLen)
    (hk : ∀ v h', Ext h h' → h'.size = h.size + 1 → SlO h' v ys → Fr h.size v → vcOps P l (E.put d v) h' K) : vcOps P (.op ⟨some d, .eff (.row t n zero parts), none⟩ :: l) E h K := by
  show segVC (ev E) parts zero _
  exact hp _ (SlX.row ys rfl hn hm hk)
theorem s_mk {α : Type} [Enc α] {d : Nat} {e : TypeId} {sz bytes : Nat} {zero : List Value} {a c : Operand} (n : Nat) (z : α) {m m' : Int} {k k' : IntKind} (ha : ev E a = .int k m) (hc : ev E c = .int k' m') (hm : m = (n : Int)) (hm' : m' = (n : Int)) (hz : zero = Enc.cells z) (hsz : sz = Enc.sz α) (hn : n ≤ maxLen) (hb : n * bytes ≤ 281474976710656)
    (hk : ∀ v h', Ext h h' → h'.size = h.size + 1 → SlO h' v (List.replicate n z) → Fr h.size v → vcOps P l (E.put d v) h' K) : vcOps P (.op ⟨some d, .eff (.mk e sz bytes zero a c), none⟩ :: l) E h K := by
  show MkVC h e sz bytes zero (ev E a) (ev E c) _
  rw [ha, hc, hm, hm']
  exact SlX.make n z hz hsz hn hb hk
theorem s_copy {α : Type} [Enc α] {d : Nat} {sz : Nat} {a x : Operand} {v w : Value} {xs ys : List α} {own : Bool} (hs : SlO h v xs) (hy : SlX own h w ys) (ha : ev E a = v) (hx : ev E x = w) (hsz : sz = Enc.sz α)
    (hk : ∀ h', Mod (blks v) h h' → h'.size = h.size → SlO h' v (ys.take xs.length ++ xs.drop ys.length) → vcOps P l (E.put d (.int .i64 (min ys.length xs.length : Nat))) h' K) : vcOps P (.op ⟨some d, .eff (.copy sz a x), none⟩ :: l) E h K := by
  show CopyVC h sz (ev E a) (ev E x) _
  rw [ha, hx]
  exact hs.copy hy hsz hk
theorem s_copyN {α : Type} [Enc α] {sz : Nat} {a x : Operand} {v w : Value} {xs ys : List α} {own : Bool} (hs : SlO h v xs) (hy : SlX own h w ys) (ha : ev E a = v) (hx : ev E x = w) (hsz : sz = Enc.sz α)
    (hk : ∀ h', Mod (blks v) h h' → h'.size = h.size → SlO h' v (ys.take xs.length ++ xs.drop ys.length) → vcOps P l E h' K) : vcOps P (.op ⟨none, .eff (.copy sz a x), none⟩ :: l) E h K := by
  show CopyVC h sz (ev E a) (ev E x) _
  rw [ha, hx]
  exact hs.copy hy hsz hk
end

/-! ### Code -/
def Post.seq (P : Program) (b : MCode) (Q : Post) : Post := fun x E h => match x with | .normal => vc P b Q E h | x => Q x E h
def Post.blk (id : Nat) (Q : Post) : Post := fun x E h => match x with
    | .exit i => bif Nat.beq i id then Q .normal E h else Q (.exit i) E h
    | x => Q x E h
section
variable {P : Program} {E : Env} {h : Heap} {Q : Post}
theorem v_skip (hk : Q .normal E h) : vc P .skip Q E h := hk
theorem v_ops {l : List MStep} (hk : vcOps P l E h fun E h => Q .normal E h) : vc P (.ops l) Q E h := hk
theorem v_seq {a b : MCode} (hk : vc P a (Post.seq P b Q) E h) : vc P (.seq a b) Q E h := hk
theorem v_block {id : Nat} {c : MCode} (hk : vc P c (Post.blk id Q) E h) : vc P (.block id c) Q E h := hk
theorem v_cond {c : Operand} {a b : MCode} {t : Bool} {p : Prop} [i : IsProp t p] (hv : ev E c = .bool t) (ht : p → vc P a Q E h) (hf : ¬ p → vc P b Q E h) : vc P (.cond c a b) Q E h := by
  show CondVC (ev E c) _ _
  rw [hv]; exact CondVC.mk ht hf
theorem v_condY {c : Operand} {a b : MCode} {t : Bool} {p : Prop} [i : IsProp t p] (hv : ev E c = .bool t) (hp : p) (ht : vc P a Q E h) : vc P (.cond c a b) Q E h := by
  show CondVC (ev E c) _ _
  rw [hv]; exact CondVC.yes hp ht
theorem v_condN {c : Operand} {a b : MCode} {t : Bool} {p : Prop} [i : IsProp t p] (hv : ev E c = .bool t) (hp : ¬ p) (hf : vc P b Q E h) : vc P (.cond c a b) Q E h := by
  show CondVC (ev E c) _ _
  rw [hv]; exact CondVC.no hp hf
theorem v_exit {id : Nat} (hk : Q (.exit id) E h) : vc P (.exit id) Q E h := hk
theorem v_ret (hk : Q .ret E h) : vc P .ret Q E h := hk
/-- what holds where control comes together again -/
theorem v_cut {c : MCode} {α : Type} (slots : α → List (Nat × Value)) (I : α → Heap → Prop) (g : α) (hs : AllEq E (slots g)) (hI : I g h) (hk : ∀ g (R : Env) h, I g h → vc P c Q (R.puts (slots g)) h) : vc P c Q E h := by
  have := hk g E h hI
  rwa [puts_self E _ hs] at this
def Post.loop {α : Type} (slots : α → List (Nat × Value)) (I : α → Heap → Prop) (μ : α → Nat) (g : α) (Q : Post) : Post :=
  fun x E' h' => match x with | .normal => ∃ g', (AllEq E' (slots g') ∧ I g' h') ∧ μ g' < μ g | x => Q x E' h'
theorem v_loop {c : MCode} {α : Type} (slots : α → List (Nat × Value)) (I : α → Heap → Prop) (μ : α → Nat) (g0 : α) (hs : AllEq E (slots g0)) (h0 : I g0 h)
    (round : ∀ g (R : Env) h, I g h → vc P c (Post.loop slots I μ g Q) (R.puts (slots g)) h) : vc P (.loop c) Q E h := by
  show LoopVC (fun Q E h => vc P c Q E h) Q E h
  exact LoopVC.mk slots I μ g0 hs h0 round
/-- the end of a round told by N -/
def Post.lp (N : Env → Heap → Prop) (Q : Post) : Post := fun x E' h' => match x with | .normal => N E' h' | x => Q x E' h'
theorem p_lpN {N : Env → Heap → Prop} (hk : N E h) : Post.lp N Q .normal E h := hk
theorem p_lpX {N : Env → Heap → Prop} {i : Nat} (hk : Q (.exit i) E h) : Post.lp N Q (.exit i) E h := hk
theorem p_lpR {N : Env → Heap → Prop} (hk : Q .ret E h) : Post.lp N Q .ret E h := hk
theorem v_loop1 {c : MCode} {α : Type} (slots : α → List (Nat × Value)) (I : α → Heap → Prop) (μ : α → Nat) (a0 : α) (hs : AllEq E (slots a0)) (h0 : I a0 h)
    (round : ∀ a0 (R : Env) h, I a0 h → vc P c (Post.lp (fun E' h' => ∃ b0, AllEq E' (slots b0) ∧ I b0 h' ∧ μ b0 < μ a0) Q) (R.puts (slots a0)) h) : vc P (.loop c) Q E h := by
  refine v_loop (α := α) (fun g => slots g) (fun g => I g) (fun g => μ g) a0 hs h0 ?_
  intro g R h hI
  have e : Post.loop (α := α) (fun g => slots g) (fun g => I g) (fun g => μ g) g Q = Post.lp (fun E' h' => ∃ b0, AllEq E' (slots b0) ∧ I b0 h' ∧ μ b0 < μ g) Q := by
    funext x E' h'
    cases x with
    | normal => exact propext ⟨fun ⟨g', ⟨h1, h2⟩, h3⟩ => ⟨g', h1, h2, h3⟩, fun ⟨b0, h1, h2, h3⟩ => ⟨b0, ⟨h1, h2⟩, h3⟩⟩
    | exit i => rfl
    | ret => rfl
  rw [e]
  exact round g R h hI
theorem v_loop2 {c : MCode} {α β : Type} (slots : α → β → List (Nat × Value)) (I : α → β → Heap → Prop) (μ : α → β → Nat) (a0 : α) (a1 : β) (hs : AllEq E (slots a0 a1)) (h0 : I a0 a1 h)
    (round : ∀ a0 a1 (R : Env) h, I a0 a1 h → vc P c (Post.lp (fun E' h' => ∃ b0 b1, AllEq E' (slots b0 b1) ∧ I b0 b1 h' ∧ μ b0 b1 < μ a0 a1) Q) (R.puts (slots a0 a1)) h) : vc P (.loop c) Q E h := by
  refine v_loop (α := α × β) (fun g => slots g.1 g.2) (fun g => I g.1 g.2) (fun g => μ g.1 g.2) (a0, a1) hs h0 ?_
  intro g R h hI
  have e : Post.loop (α := α × β) (fun g => slots g.1 g.2) (fun g => I g.1 g.2) (fun g => μ g.1 g.2) g Q = Post.lp (fun E' h' => ∃ b0 b1, AllEq E' (slots b0 b1) ∧ I b0 b1 h' ∧ μ b0 b1 < μ g.1 g.2) Q := by
    funext x E' h'
    cases x with
    | normal => exact propext ⟨fun ⟨g', ⟨h1, h2⟩, h3⟩ => ⟨g'.1, g'.2, h1, h2, h3⟩, fun ⟨b0, b1, h1, h2, h3⟩ => ⟨(b0, b1), ⟨h1, h2⟩, h3⟩⟩
    | exit i => rfl
    | ret => rfl
  rw [e]
  exact round g.1 g.2 R h hI
theorem v_loop3 {c : MCode} {α β γ : Type} (slots : α → β → γ → List (Nat × Value)) (I : α → β → γ → Heap → Prop) (μ : α → β → γ → Nat) (a0 : α) (a1 : β) (a2 : γ) (hs : AllEq E (slots a0 a1 a2)) (h0 : I a0 a1 a2 h)
    (round : ∀ a0 a1 a2 (R : Env) h, I a0 a1 a2 h → vc P c (Post.lp (fun E' h' => ∃ b0 b1 b2, AllEq E' (slots b0 b1 b2) ∧ I b0 b1 b2 h' ∧ μ b0 b1 b2 < μ a0 a1 a2) Q) (R.puts (slots a0 a1 a2)) h) : vc P (.loop c) Q E h := by
  refine v_loop (α := α × β × γ) (fun g => slots g.1 g.2.1 g.2.2) (fun g => I g.1 g.2.1 g.2.2) (fun g => μ g.1 g.2.1 g.2.2) (a0, a1, a2) hs h0 ?_
  intro g R h hI
  have e : Post.loop (α := α × β × γ) (fun g => slots g.1 g.2.1 g.2.2) (fun g => I g.1 g.2.1 g.2.2) (fun g => μ g.1 g.2.1 g.2.2) g Q = Post.lp (fun E' h' => ∃ b0 b1 b2, AllEq E' (slots b0 b1 b2) ∧ I b0 b1 b2 h' ∧ μ b0 b1 b2 < μ g.1 g.2.1 g.2.2) Q := by
    funext x E' h'
    cases x with
    | normal => exact propext ⟨fun ⟨g', ⟨h1, h2⟩, h3⟩ => ⟨g'.1, g'.2.1, g'.2.2, h1, h2, h3⟩, fun ⟨b0, b1, b2, h1, h2, h3⟩ => ⟨(b0, b1, b2), ⟨h1, h2⟩, h3⟩⟩
    | exit i => rfl
    | ret => rfl
  rw [e]
  exact round g.1 g.2.1 g.2.2 R h hI
theorem v_loop4 {c : MCode} {α β γ δ : Type} (slots : α → β → γ → δ → List (Nat × Value)) (I : α → β → γ → δ → Heap → Prop) (μ : α → β → γ → δ → Nat) (a0 : α) (a1 : β) (a2 : γ) (a3 : δ) (hs : AllEq E (slots a0 a1 a2 a3)) (h0 : I a0 a1 a2 a3 h)
    (round : ∀ a0 a1 a2 a3 (R : Env) h, I a0 a1 a2 a3 h → vc P c (Post.lp (fun E' h' => ∃ b0 b1 b2 b3, AllEq E' (slots b0 b1 b2 b3) ∧ I b0 b1 b2 b3 h' ∧ μ b0 b1 b2 b3 < μ a0 a1 a2 a3) Q) (R.puts (slots a0 a1 a2 a3)) h) : vc P (.loop c) Q E h := by
  refine v_loop (α := α × β × γ × δ) (fun g => slots g.1 g.2.1 g.2.2.1 g.2.2.2) (fun g => I g.1 g.2.1 g.2.2.1 g.2.2.2) (fun g => μ g.1 g.2.1 g.2.2.1 g.2.2.2) (a0, a1, a2, a3) hs h0 ?_
  intro g R h hI
  have e : Post.loop (α := α × β × γ × δ) (fun g => slots g.1 g.2.1 g.2.2.1 g.2.2.2) (fun g => I g.1 g.2.1 g.2.2.1 g.2.2.2) (fun g => μ g.1 g.2.1 g.2.2.1 g.2.2.2) g Q = Post.lp (fun E' h' => ∃ b0 b1 b2 b3, AllEq E' (slots b0 b1 b2 b3) ∧ I b0 b1 b2 b3 h' ∧ μ b0 b1 b2 b3 < μ g.1 g.2.1 g.2.2.1 g.2.2.2) Q := by
    funext x E' h'
    cases x with
    | normal => exact propext ⟨fun ⟨g', ⟨h1, h2⟩, h3⟩ => ⟨g'.1, g'.2.1, g'.2.2.1, g'.2.2.2, h1, h2, h3⟩, fun ⟨b0, b1, b2, b3, h1, h2, h3⟩ => ⟨(b0, b1, b2, b3), ⟨h1, h2⟩, h3⟩⟩
    | exit i => rfl
    | ret => rfl
  rw [e]
  exact round g.1 g.2.1 g.2.2.1 g.2.2.2 R h hI
theorem v_loop5 {c : MCode} {α β γ δ ε : Type} (slots : α → β → γ → δ → ε → List (Nat × Value)) (I : α → β → γ → δ → ε → Heap → Prop) (μ : α → β → γ → δ → ε → Nat) (a0 : α) (a1 : β) (a2 : γ) (a3 : δ) (a4 : ε) (hs : AllEq E (slots a0 a1 a2 a3 a4)) (h0 : I a0 a1 a2 a3 a4 h)
    (round : ∀ a0 a1 a2 a3 a4 (R : Env) h, I a0 a1 a2 a3 a4 h → vc P c (Post.lp (fun E' h' => ∃ b0 b1 b2 b3 b4, AllEq E' (slots b0 b1 b2 b3 b4) ∧ I b0 b1 b2 b3 b4 h' ∧ μ b0 b1 b2 b3 b4 < μ a0 a1 a2 a3 a4) Q) (R.puts (slots a0 a1 a2 a3 a4)) h) : vc P (.loop c) Q E h := by
  refine v_loop (α := α × β × γ × δ × ε) (fun g => slots g.1 g.2.1 g.2.2.1 g.2.2.2.1 g.2.2.2.2) (fun g => I g.1 g.2.1 g.2.2.1 g.2.2.2.1 g.2.2.2.2) (fun g => μ g.1 g.2.1 g.2.2.1 g.2.2.2.1 g.2.2.2.2) (a0, a1, a2, a3, a4) hs h0 ?_
  intro g R h hI
  have e : Post.loop (α := α × β × γ × δ × ε) (fun g => slots g.1 g.2.1 g.2.2.1 g.2.2.2.1 g.2.2.2.2) (fun g => I g.1 g.2.1 g.2.2.1 g.2.2.2.1 g.2.2.2.2) (fun g => μ g.1 g.2.1 g.2.2.1 g.2.2.2.1 g.2.2.2.2) g Q = Post.lp (fun E' h' => ∃ b0 b1 b2 b3 b4, AllEq E' (slots b0 b1 b2 b3 b4) ∧ I b0 b1 b2 b3 b4 h' ∧ μ b0 b1 b2 b3 b4 < μ g.1 g.2.1 g.2.2.1 g.2.2.2.1 g.2.2.2.2) Q := by
    funext x E' h'
    cases x with
    | normal => exact propext ⟨fun ⟨g', ⟨h1, h2⟩, h3⟩ => ⟨g'.1, g'.2.1, g'.2.2.1, g'.2.2.2.1, g'.2.2.2.2, h1, h2, h3⟩, fun ⟨b0, b1, b2, b3, b4, h1, h2, h3⟩ => ⟨(b0, b1, b2, b3, b4), ⟨h1, h2⟩, h3⟩⟩
    | exit i => rfl
    | ret => rfl
  rw [e]
  exact round g.1 g.2.1 g.2.2.1 g.2.2.2.1 g.2.2.2.2 R h hI
theorem v_loop6 {c : MCode} {α β γ δ ε ζ : Type} (slots : α → β → γ → δ → ε → ζ → List (Nat × Value)) (I : α → β → γ → δ → ε → ζ → Heap → Prop) (μ : α → β → γ → δ → ε → ζ → Nat) (a0 : α) (a1 : β) (a2 : γ) (a3 : δ) (a4 : ε) (a5 : ζ) (hs : AllEq E (slots a0 a1 a2 a3 a4 a5)) (h0 : I a0 a1 a2 a3 a4 a5 h)
    (round : ∀ a0 a1 a2 a3 a4 a5 (R : Env) h, I a0 a1 a2 a3 a4 a5 h → vc P c (Post.lp (fun E' h' => ∃ b0 b1 b2 b3 b4 b5, AllEq E' (slots b0 b1 b2 b3 b4 b5) ∧ I b0 b1 b2 b3 b4 b5 h' ∧ μ b0 b1 b2 b3 b4 b5 < μ a0 a1 a2 a3 a4 a5) Q) (R.puts (slots a0 a1 a2 a3 a4 a5)) h) : vc P (.loop c) Q E h := by
  refine v_loop (α := α × β × γ × δ × ε × ζ) (fun g => slots g.1 g.2.1 g.2.2.1 g.2.2.2.1 g.2.2.2.2.1 g.2.2.2.2.2) (fun g => I g.1 g.2.1 g.2.2.1 g.2.2.2.1 g.2.2.2.2.1 g.2.2.2.2.2) (fun g => μ g.1 g.2.1 g.2.2.1 g.2.2.2.1 g.2.2.2.2.1 g.2.2.2.2.2) (a0, a1, a2, a3, a4, a5) hs h0 ?_
  intro g R h hI
  have e : Post.loop (α := α × β × γ × δ × ε × ζ) (fun g => slots g.1 g.2.1 g.2.2.1 g.2.2.2.1 g.2.2.2.2.1 g.2.2.2.2.2) (fun g => I g.1 g.2.1 g.2.2.1 g.2.2.2.1 g.2.2.2.2.1 g.2.2.2.2.2) (fun g => μ g.1 g.2.1 g.2.2.1 g.2.2.2.1 g.2.2.2.2.1 g.2.2.2.2.2) g Q = Post.lp (fun E' h' => ∃ b0 b1 b2 b3 b4 b5, AllEq E' (slots b0 b1 b2 b3 b4 b5) ∧ I b0 b1 b2 b3 b4 b5 h' ∧ μ b0 b1 b2 b3 b4 b5 < μ g.1 g.2.1 g.2.2.1 g.2.2.2.1 g.2.2.2.2.1 g.2.2.2.2.2) Q := by
    funext x E' h'
    cases x with
    | normal => exact propext ⟨fun ⟨g', ⟨h1, h2⟩, h3⟩ => ⟨g'.1, g'.2.1, g'.2.2.1, g'.2.2.2.1, g'.2.2.2.2.1, g'.2.2.2.2.2, h1, h2, h3⟩, fun ⟨b0, b1, b2, b3, b4, b5, h1, h2, h3⟩ => ⟨(b0, b1, b2, b3, b4, b5), ⟨h1, h2⟩, h3⟩⟩
    | exit i => rfl
    | ret => rfl
  rw [e]
  exact round g.1 g.2.1 g.2.2.1 g.2.2.2.1 g.2.2.2.2.1 g.2.2.2.2.2 R h hI
theorem v_loop7 {c : MCode} {α β γ δ ε ζ η : Type} (slots : α → β → γ → δ → ε → ζ → η → List (Nat × Value)) (I : α → β → γ → δ → ε → ζ → η → Heap → Prop) (μ : α → β → γ → δ → ε → ζ → η → Nat) (a0 : α) (a1 : β) (a2 : γ) (a3 : δ) (a4 : ε) (a5 : ζ) (a6 : η) (hs : AllEq E (slots a0 a1 a2 a3 a4 a5 a6)) (h0 : I a0 a1 a2 a3 a4 a5 a6 h)
    (round : ∀ a0 a1 a2 a3 a4 a5 a6 (R : Env) h, I a0 a1 a2 a3 a4 a5 a6 h → vc P c (Post.lp (fun E' h' => ∃ b0 b1 b2 b3 b4 b5 b6, AllEq E' (slots b0 b1 b2 b3 b4 b5 b6) ∧ I b0 b1 b2 b3 b4 b5 b6 h' ∧ μ b0 b1 b2 b3 b4 b5 b6 < μ a0 a1 a2 a3 a4 a5 a6) Q) (R.puts (slots a0 a1 a2 a3 a4 a5 a6)) h) : vc P (.loop c) Q E h := by
  refine v_loop (α := α × β × γ × δ × ε × ζ × η) (fun g => slots g.1 g.2.1 g.2.2.1 g.2.2.2.1 g.2.2.2.2.1 g.2.2.2.2.2.1 g.2.2.2.2.2.2) (fun g => I g.1 g.2.1 g.2.2.1 g.2.2.2.1 g.2.2.2.2.1 g.2.2.2.2.2.1 g.2.2.2.2.2.2) (fun g => μ g.1 g.2.1 g.2.2.1 g.2.2.2.1 g.2.2.2.2.1 g.2.2.2.2.2.1 g.2.2.2.2.2.2) (a0, a1, a2, a3, a4, a5, a6) hs h0 ?_
  intro g R h hI
  have e : Post.loop (α := α × β × γ × δ × ε × ζ × η) (fun g => slots g.1 g.2.1 g.2.2.1 g.2.2.2.1 g.2.2.2.2.1 g.2.2.2.2.2.1 g.2.2.2.2.2.2) (fun g => I g.1 g.2.1 g.2.2.1 g.2.2.2.1 g.2.2.2.2.1 g.2.2.2.2.2.1 g.2.2.2.2.2.2) (fun g => μ g.1 g.2.1 g.2.2.1 g.2.2.2.1 g.2.2.2.2.1 g.2.2.2.2.2.1 g.2.2.2.2.2.2) g Q = Post.lp (fun E' h' => ∃ b0 b1 b2 b3 b4 b5 b6, AllEq E' (slots b0 b1 b2 b3 b4 b5 b6) ∧ I b0 b1 b2 b3 b4 b5 b6 h' ∧ μ b0 b1 b2 b3 b4 b5 b6 < μ g.1 g.2.1 g.2.2.1 g.2.2.2.1 g.2.2.2.2.1 g.2.2.2.2.2.1 g.2.2.2.2.2.2) Q := by
    funext x E' h'
    cases x with
    | normal => exact propext ⟨fun ⟨g', ⟨h1, h2⟩, h3⟩ => ⟨g'.1, g'.2.1, g'.2.2.1, g'.2.2.2.1, g'.2.2.2.2.1, g'.2.2.2.2.2.1, g'.2.2.2.2.2.2, h1, h2, h3⟩, fun ⟨b0, b1, b2, b3, b4, b5, b6, h1, h2, h3⟩ => ⟨(b0, b1, b2, b3, b4, b5, b6), ⟨h1, h2⟩, h3⟩⟩
    | exit i => rfl
    | ret => rfl
  rw [e]
  exact round g.1 g.2.1 g.2.2.1 g.2.2.2.1 g.2.2.2.2.1 g.2.2.2.2.2.1 g.2.2.2.2.2.2 R h hI
theorem v_loop8 {c : MCode} {α β γ δ ε ζ η θ : Type} (slots : α → β → γ → δ → ε → ζ → η → θ → List (Nat × Value)) (I : α → β → γ → δ → ε → ζ → η → θ → Heap → Prop) (μ : α → β → γ → δ → ε → ζ → η → θ → Nat) (a0 : α) (a1 : β) (a2 : γ) (a3 : δ) (a4 : ε) (a5 : ζ) (a6 : η) (a7 : θ) (hs : AllEq E (slots a0 a1 a2 a3 a4 a5 a6 a7)) (h0 : I a0 a1 a2 a3 a4 a5 a6 a7 h)
    (round : ∀ a0 a1 a2 a3 a4 a5 a6 a7 (R : Env) h, I a0 a1 a2 a3 a4 a5 a6 a7 h → vc P c (Post.lp (fun E' h' => ∃ b0 b1 b2 b3 b4 b5 b6 b7, AllEq E' (slots b0 b1 b2 b3 b4 b5 b6 b7) ∧ I b0 b1 b2 b3 b4 b5 b6 b7 h' ∧ μ b0 b1 b2 b3 b4 b5 b6 b7 < μ a0 a1 a2 a3 a4 a5 a6 a7) Q) (R.puts (slots a0 a1 a2 a3 a4 a5 a6 a7)) h) : vc P (.loop c) Q E h := by
  refine v_loop (α := α × β × γ × δ × ε × ζ × η × θ) (fun g => slots g.1 g.2.1 g.2.2.1 g.2.2.2.1 g.2.2.2.2.1 g.2.2.2.2.2.1 g.2.2.2.2.2.2.1 g.2.2.2.2.2.2.2) (fun g => I g.1 g.2.1 g.2.2.1 g.2.2.2.1 g.2.2.2.2.1 g.2.2.2.2.2.1 g.2.2.2.2.2.2.1 g.2.2.2.2.2.2.2) (fun g => μ g.1 g.2.1 g.2.2.1 g.2.2.2.1 g.2.2.2.2.1 g.2.2.2.2.2.1 g.2.2.2.2.2.2.1 g.2.2.2.2.2.2.2) (a0, a1, a2, a3, a4, a5, a6, a7) hs h0 ?_
  intro g R h hI
  have e : Post.loop (α := α × β × γ × δ × ε × ζ × η × θ) (fun g => slots g.1 g.2.1 g.2.2.1 g.2.2.2.1 g.2.2.2.2.1 g.2.2.2.2.2.1 g.2.2.2.2.2.2.1 g.2.2.2.2.2.2.2) (fun g => I g.1 g.2.1 g.2.2.1 g.2.2.2.1 g.2.2.2.2.1 g.2.2.2.2.2.1 g.2.2.2.2.2.2.1 g.2.2.2.2.2.2.2) (fun g => μ g.1 g.2.1 g.2.2.1 g.2.2.2.1 g.2.2.2.2.1 g.2.2.2.2.2.1 g.2.2.2.2.2.2.1 g.2.2.2.2.2.2.2) g Q = Post.lp (fun E' h' => ∃ b0 b1 b2 b3 b4 b5 b6 b7, AllEq E' (slots b0 b1 b2 b3 b4 b5 b6 b7) ∧ I b0 b1 b2 b3 b4 b5 b6 b7 h' ∧ μ b0 b1 b2 b3 b4 b5 b6 b7 < μ g.1 g.2.1 g.2.2.1 g.2.2.2.1 g.2.2.2.2.1 g.2.2.2.2.2.1 g.2.2.2.2.2.2.1 g.2.2.2.2.2.2.2) Q := by
    funext x E' h'
    cases x with
    | normal => exact propext ⟨fun ⟨g', ⟨h1, h2⟩, h3⟩ => ⟨g'.1, g'.2.1, g'.2.2.1, g'.2.2.2.1, g'.2.2.2.2.1, g'.2.2.2.2.2.1, g'.2.2.2.2.2.2.1, g'.2.2.2.2.2.2.2, h1, h2, h3⟩, fun ⟨b0, b1, b2, b3, b4, b5, b6, b7, h1, h2, h3⟩ => ⟨(b0, b1, b2, b3, b4, b5, b6, b7), ⟨h1, h2⟩, h3⟩⟩
    | exit i => rfl
    | ret => rfl
  rw [e]
  exact round g.1 g.2.1 g.2.2.1 g.2.2.2.1 g.2.2.2.2.1 g.2.2.2.2.2.1 g.2.2.2.2.2.2.1 g.2.2.2.2.2.2.2 R h hI
/-! ends -/
theorem p_seqN {b : MCode} (hk : vc P b Q E h) : Post.seq P b Q .normal E h := hk
theorem p_seqX {b : MCode} {i : Nat} (hk : Q (.exit i) E h) : Post.seq P b Q (.exit i) E h := hk
theorem p_seqR {b : MCode} (hk : Q .ret E h) : Post.seq P b Q .ret E h := hk
theorem p_blkN {id : Nat} (hk : Q .normal E h) : Post.blk id Q .normal E h := hk
theorem p_blkR {id : Nat} (hk : Q .ret E h) : Post.blk id Q .ret E h := hk
theorem p_blkX {id : Nat} (hk : Q .normal E h) : Post.blk id Q (.exit id) E h := by
  show (bif Nat.beq id id then _ else _)
  simp only [Nat.beq_refl, cond_true]
  exact hk
theorem p_blkY {id i : Nat} (hn : Nat.beq i id = false) (hk : Q (.exit i) E h) : Post.blk id Q (.exit i) E h := by
  show (bif Nat.beq i id then _ else _)
  simp only [hn, cond_false]
  exact hk
theorem p_loopX {α : Type} {slots : α → List (Nat × Value)} {I : α → Heap → Prop} {μ : α → Nat} {g : α} {i : Nat} (hk : Q (.exit i) E h) : Post.loop slots I μ g Q (.exit i) E h := hk
theorem p_loopR {α : Type} {slots : α → List (Nat × Value)} {I : α → Heap → Prop} {μ : α → Nat} {g : α} (hk : Q .ret E h) : Post.loop slots I μ g Q .ret E h := hk
theorem p_loopN {α : Type} {slots : α → List (Nat × Value)} {I : α → Heap → Prop} {μ : α → Nat} {g : α} (g' : α) (hs : AllEq E (slots g')) (hI : I g' h) (hm : μ g' < μ g) : Post.loop slots I μ g Q .normal E h := ⟨g', ⟨hs, hI⟩, hm⟩
theorem p_ret {f : MFun} {R : Value → Heap → Prop} (vs : List Value) (v : Value) (hr : ∀ K : List Value → Prop, K vs → resVC f.res E h [] K) (hv : oneOr vs = v) (hk : R v h) : f.post R .ret E h := by
  show resVC f.res E h [] _
  exact hr _ (hv ▸ hk)
theorem p_end {f : MFun} {R : Value → Heap → Prop} (vs : List Value) (v : Value) (hr : ∀ K : List Value → Prop, K vs → resVC f.res E h [] K) (hv : oneOr vs = v) (hk : R v h) : f.post R .normal E h := by
  show resVC f.res E h [] _
  exact hr _ (hv ▸ hk)
end

/-! ### Regions that draw their order -/
section
variable {P : Program} {S : Heap → Prop} {r : DTree} {E : Env} {h : Heap} {K : Env → Heap → Prop}
theorem v_draw {t : DTree} {Q : Post} (hk : DrawVC P t E h fun E h => Q .normal E h) : vc P (.draw true t) Q E h := hk
theorem v_drawF {t : DTree} {Q : Post} (hk : vcDraw P (fun _ => True) t E h fun E h => Q .normal E h) : vc P (.draw false t) Q E h := hk
theorem d_done (hk : K E h) : vcDraw P S .done E h K := hk
theorem d_fork {a b : DTree} (ha : vcDraw P S a E h K) (hb : vcDraw P S b E h K) : vcDraw P S (.fork a b) E h K := ⟨ha, hb⟩
theorem d_splitT {t : Nat} {b : Bool} {p : Prop} [i : IsProp b p] (hv : E t = .bool b) (ht : p → vcDraw P S r (E.put t (.bool true)) h K) (hf : ¬ p → vcDraw P S r (E.put t (.bool false)) h K) : vcDraw P S (.split t r) E h K := by
  show SplitVC (E t) _ _
  rw [hv]; exact SplitVC.mk ht hf
theorem d_splitY {t : Nat} {b : Bool} {p : Prop} [i : IsProp b p] (hv : E t = .bool b) (hp : p) (ht : vcDraw P S r (E.put t (.bool true)) h K) : vcDraw P S (.split t r) E h K := by
  show SplitVC (E t) _ _
  rw [hv]; exact SplitVC.yes hp ht
theorem d_splitN {t : Nat} {b : Bool} {p : Prop} [i : IsProp b p] (hv : E t = .bool b) (hp : ¬ p) (hf : vcDraw P S r (E.put t (.bool false)) h K) : vcDraw P S (.split t r) E h K := by
  show SplitVC (E t) _ _
  rw [hv]; exact SplitVC.no hp hf
theorem d_splitU {t : Nat} (hv : E t = undef) (hk : vcDraw P S r E h K) : vcDraw P S (.split t r) E h K := SplitVC.u hv hk
theorem d_passTU {d : Option Nat} {m : MOp} {g : Nat} {w : Bool} (hg : E g = undef) (hk : vcDraw P S r (E.putO d undef) h K) : vcDraw P S (.take ⟨d, m, some (g, w)⟩ r) E h K := by
  show runG E (some (g, w)) _ _
  simp only [runG, hg, undef]; exact hk
theorem d_passOU {late : Bool} {d : Option Nat} {m : MOp} {g : Nat} {w : Bool} (hg : E g = undef) (hk : vcDraw P S r (E.putO d undef) h K) : vcDraw P S (.only late ⟨d, m, some (g, w)⟩ r) E h K := by
  show runG E (some (g, w)) _ _
  simp only [runG, hg, undef]; exact hk
/-- a quiet operation or an effect as one step -/
def MOp.dw (P : Program) (S : Heap → Prop) (tk late : Bool) (m : MOp) (ρ : Operand → Value) (h : Heap) (K : Value → Heap → Prop) : Prop := match tk, m with
  | _, .pure p => p.wp ρ fun v => K v h
  | true, .load n x => TakeVC S (ρ x) n fun v => K v h
  | false, .load n x => LoadVC h (ρ x) n fun v => K v h
  | true, .eff _ => False
  | false, .eff e => match late with
    | true => e.wp P ρ h K
    | false => e.wp P ρ h fun v h' => S h' ∧ K v h'
def DTree.mk (tk late : Bool) (m : MOper) (r : DTree) : DTree := match tk with
  | true => .take m r
  | false => .only late m r
theorem d_op {d : Option Nat} {m : MOp} {late : Bool} (hk : m.dw P S false late (ev E) h fun v h' => vcDraw P S r (E.putO d v) h' K) : vcDraw P S (.only late ⟨d, m, none⟩ r) E h K := by
  cases m with
  | pure p => exact hk
  | load n x => exact hk
  | eff e => cases late <;> exact hk
theorem d_runT {d : Option Nat} {m : MOp} {g : Nat} {w : Bool} (hg : E g = .bool w) (hk : vcDraw P S (.take ⟨d, m, none⟩ r) E h K) : vcDraw P S (.take ⟨d, m, some (g, w)⟩ r) E h K := by
  cases w
  · show runG E (some (g, false)) _ _
    simp only [runG, hg]; exact hk
  · show runG E (some (g, true)) _ _
    simp only [runG, hg]; exact hk
theorem d_runO {late : Bool} {d : Option Nat} {m : MOp} {g : Nat} {w : Bool} (hg : E g = .bool w) (hk : vcDraw P S (.only late ⟨d, m, none⟩ r) E h K) : vcDraw P S (.only late ⟨d, m, some (g, w)⟩ r) E h K := by
  cases w
  · show runG E (some (g, false)) _ _
    simp only [runG, hg]; exact hk
  · show runG E (some (g, true)) _ _
    simp only [runG, hg]; exact hk
theorem d_passT {d : Option Nat} {m : MOp} {g : Nat} {w : Bool} (hg : E g = .bool (!w)) (hk : vcDraw P S r (E.putO d undef) h K) : vcDraw P S (.take ⟨d, m, some (g, w)⟩ r) E h K := by
  cases w
  · show runG E (some (g, false)) _ _
    simp only [Bool.not_false] at hg
    simp only [runG, hg]; exact hk
  · show runG E (some (g, true)) _ _
    simp only [Bool.not_true] at hg
    simp only [runG, hg]; exact hk
theorem d_passO {late : Bool} {d : Option Nat} {m : MOp} {g : Nat} {w : Bool} (hg : E g = .bool (!w)) (hk : vcDraw P S r (E.putO d undef) h K) : vcDraw P S (.only late ⟨d, m, some (g, w)⟩ r) E h K := by
  cases w
  · show runG E (some (g, false)) _ _
    simp only [Bool.not_false] at hg
    simp only [runG, hg]; exact hk
  · show runG E (some (g, true)) _ _
    simp only [Bool.not_true] at hg
    simp only [runG, hg]; exact hk
theorem d_pureT {d : Nat} {p : POp} (v : Value) (hv : ∀ K : Value → Prop, K v → p.wp (ev E) K) (hk : vcDraw P S r (E.put d v) h K) : vcDraw P S (.take ⟨some d, .pure p, none⟩ r) E h K :=
  hv (fun v => vcDraw P S r (E.put d v) h K) hk
theorem d_pq {d : Nat} {p : POp} (v : Value) (hk : vcDraw P S r (E.put d v) h K) (hv : ∀ K : Value → Prop, K v → p.wp (ev E) K := by exact fun _ q => q) : vcDraw P S (.take ⟨some d, .pure p, none⟩ r) E h K := d_pureT v hv hk
theorem d_pureO {late : Bool} {d : Nat} {p : POp} (v : Value) (hv : ∀ K : Value → Prop, K v → p.wp (ev E) K) (hk : vcDraw P S r (E.put d v) h K) : vcDraw P S (.only late ⟨some d, .pure p, none⟩ r) E h K :=
  hv (fun v => vcDraw P S r (E.put d v) h K) hk
theorem d_loadT {d : Nat} {n : Option Nat} {x : Operand} (v : Value) (hv : ∀ K : Value → Prop, K v → TakeVC S (ev E x) n K) (hk : vcDraw P S r (E.put d v) h K) : vcDraw P S (.take ⟨some d, .load n x, none⟩ r) E h K := by
  show TakeVC S (ev E x) n _
  exact hv _ hk
theorem d_loadO {late : Bool} {d : Nat} {n : Option Nat} {x : Operand} (v : Value) (hv : ∀ K : Value → Prop, K v → LoadVC h (ev E x) n K) (hk : vcDraw P S r (E.put d v) h K) : vcDraw P S (.only late ⟨some d, .load n x, none⟩ r) E h K := by
  show LoadVC h (ev E x) n _
  exact hv _ hk
/-- an effect in such a region: as the one-step list of operations, and S holds behind it unless it is late -/
theorem d_eff {late : Bool} {d : Option Nat} {e : EOp} (hk : vcOps P [.op ⟨d, .eff e, none⟩] E h fun E' h' => (late = false → S h') ∧ vcDraw P S r E' h' K) : vcDraw P S (.only late ⟨d, .eff e, none⟩ r) E h K := by
  have hk' : e.wp P (ev E) h fun v h' => (late = false → S h') ∧ vcDraw P S r (E.putO d v) h' K := hk
  cases late
  · show e.wp P (ev E) h fun v h' => S h' ∧ vcDraw P S r (E.putO d v) h' K
    exact eop_mono P e _ _ (fun v h' q => ⟨q.1 rfl, q.2⟩) hk'
  · show e.wp P (ev E) h fun v h' => vcDraw P S r (E.putO d v) h' K
    exact eop_mono P e _ _ (fun v h' q => q.2) hk'
end
theorem nb1 {v : Value} {p : Nat} (h : p ∉ blks v) : ∀ b ∈ blks v, b ∉ [p] := fun b hb hc => h (by simp at hc; rw [← hc]; exact hb)
end Go.Vc
