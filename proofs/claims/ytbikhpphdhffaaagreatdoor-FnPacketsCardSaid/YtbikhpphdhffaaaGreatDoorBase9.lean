/- Code and functions: the condition 'vc', and that it is sound. Condition: none. -/
import Derived.Test.YtbikhpphdhffaaaGreatDoorBase8
namespace Go.Vc

inductive MCode where
  | skip
  | ops (l : List MStep)
  | draw (stop : Bool) (t : DTree)
  | seq (a b : MCode)
  | cond (c : Operand) (a b : MCode)
  | block (id : Nat) (c : MCode)
  | loop (c : MCode)
  | exit (id : Nat)
  | ret

inductive MExit where
  | normal
  | exit (id : Nat)
  | ret

def MExit.to : MExit → Exit
  | .normal => .normal
  | .exit id => .exit id
  | .ret => .ret

abbrev Post := MExit → Env → Heap → Prop

structure LoopVC (body : Post → Env → Heap → Prop) (Q : Post) (E : Env) (h : Heap) : Prop where
  ofOut ::
  out : ∃ (α : Type) (I : α → Env → Heap → Prop) (μ : α → Nat), (∃ g, I g E h) ∧ ∀ g E h, I g E h →
    body (fun x E' h' => match x with | .normal => ∃ g', I g' E' h' ∧ μ g' < μ g | x => Q x E' h') E h
structure DrawVC (P : Program) (t : DTree) (E : Env) (h : Heap) (K : Env → Heap → Prop) : Prop where
  ofOut ::
  out : ∃ S : Heap → Prop, S h ∧ vcDraw P S t E h K

def vc (P : Program) : MCode → Post → Env → Heap → Prop
  | .skip, Q, E, h => Q .normal E h
  | .ops l, Q, E, h => vcOps P l E h fun E h => Q .normal E h
  | .draw stop t, Q, E, h => match stop with
    | true => DrawVC P t E h fun E h => Q .normal E h
    | false => vcDraw P (fun _ => True) t E h fun E h => Q .normal E h
  | .seq a b, Q, E, h => vc P a (fun x E h => match x with | .normal => vc P b Q E h | x => Q x E h) E h
  | .cond c a b, Q, E, h => CondVC (ev E c) (vc P a Q E h) (vc P b Q E h)
  | .block id c, Q, E, h => vc P c (fun x E h => match x with
    | .exit i => bif Nat.beq i id then Q .normal E h else Q (.exit i) E h
    | x => Q x E h) E h
  | .loop c, Q, E, h => LoopVC (fun Q E h => vc P c Q E h) Q E h
  | .exit id, Q, E, h => Q (.exit id) E h
  | .ret, Q, E, h => Q .ret E h

/-- A tree of quiet operations as a list. -/
def convD : DTree → Option (List MStep)
  | .done => some []
  | .split t r => (convD r).map (.split t :: ·)
  | .take m r => match m.op with
    | .eff _ => none
    | _ => (convD r).map (.op m :: ·)
  | .only _ m r => match m.op with
    | .eff _ => none
    | _ => (convD r).map (.op m :: ·)
  | .fork _ _ => none
def DTree.forks : DTree → Bool
  | .done => false
  | .split _ r => r.forks
  | .take _ r => r.forks
  | .only _ _ r => r.forks
  | .fork _ _ => true
/-- Is a load taken first? -/
def DTree.held : DTree → Bool
  | .done => false
  | .split _ r => r.held
  | .take m r => (match m.op with | .load _ _ => true | _ => false) || r.held
  | .only _ _ r => r.held
  | .fork a b => a.held || b.held

theorem segVC_mono (ρ : Operand → Value) {K K' : List Value → Prop} (hK : ∀ v, K v → K' v) : ∀ (ps : List (Nat × Nat × Operand)) (acc : List Value), segVC ρ ps acc K → segVC ρ ps acc K'
  | [], acc, h => hK _ h
  | (off, n, x) :: r, acc, h => by
    unfold segVC at h ⊢
    split at h <;> first | exact h.elim | exact ⟨h.1, segVC_mono ρ hK r _ h.2⟩

theorem binVC_mono (op : BinOp) (x y : Value) {K K' : Value → Prop} (hK : ∀ v, K v → K' v) (h : binVC op x y K) : binVC op x y K' := by
  unfold binVC at h ⊢
  split at h
  · split at h
    · exact ⟨h.out.1, hK _ h.out.2⟩
    · exact ⟨h.out.1, hK _ h.out.2⟩
    · exact ⟨h.out.1, hK _ h.out.2⟩
    · exact ⟨h.out.1, h.out.2.1, hK _ h.out.2.2⟩
    · exact ⟨h.out.1, h.out.2.1, hK _ h.out.2.2⟩
    all_goals first
      | exact ⟨h.out.1, hK _ h.out.2⟩
      | (split at h
         · exact hK _ h
         · exact ⟨h.out.1, hK _ h.out.2⟩)
  · split at h
    · exact hK _ h
    · exact hK _ h
    · exact ⟨h.out.1, hK _ h.out.2⟩
    · exact h
  · exact h

theorem pop_mono (p : POp) (ρ : Operand → Value) {K K' : Value → Prop} (hK : ∀ v, K v → K' v) (h : p.wp ρ K) : p.wp ρ K' := by
  cases p <;> simp only [POp.wp] at h ⊢
  case mv => exact hK _ h
  case pick => split at h <;> first | exact hK _ h | exact h
  case bin => exact binVC_mono _ _ _ hK h
  case eqb => split at h <;> first | exact hK _ h | exact h
  case eqs => obtain ⟨a, b, r, h1, h2, h3, h4⟩ := h; exact ⟨a, b, r, h1, h2, h3, hK _ h4⟩
  case bnot => split at h <;> first | exact hK _ h | exact h
  case ineg => split at h <;> first | exact ⟨h.out.1, hK _ h.out.2⟩ | exact h
  case conv => split at h <;> first | exact hK _ h | exact h
  case field =>
    split at h
    · split at h
      · split at h <;> first | exact hK _ h | exact h
      · exact hK _ h
    · exact h
  case build => exact segVC_mono ρ (fun v hv => hK _ hv) _ _ h
  case fieldAddr => split at h <;> first | exact hK _ h | exact h
  case idx => obtain ⟨b, o, n, c, ki, k, h1, h2, h3, h4, h5⟩ := h; exact ⟨b, o, n, c, ki, k, h1, h2, h3, h4, hK _ h5⟩
  case sidx => obtain ⟨s, ki, k, b, h1, h2, h3, h4⟩ := h; exact ⟨s, ki, k, b, h1, h2, h3, hK _ h4⟩
  case len => obtain ⟨a, n, c, h1, h2⟩ := h; exact ⟨a, n, c, h1, hK _ h2⟩
  case slen => split at h <;> first | exact hK _ h | exact h
  case ifnil => obtain ⟨b, h1, h2⟩ := h; exact ⟨b, h1, hK _ h2⟩
  case isnil => obtain ⟨a, n, c, h1, h2⟩ := h; exact ⟨a, n, c, h1, hK _ h2⟩
  case arr =>
    obtain ⟨cs, ki, k, h1, h2, h3, h4⟩ := h
    refine ⟨cs, ki, k, h1, h2, h3, ?_⟩
    split at h4
    · obtain ⟨u, hu, h4⟩ := h4; exact ⟨u, hu, hK _ h4⟩
    · exact hK _ h4
  case idxA => obtain ⟨b, o, ki, k, h1, h2, h3, h4⟩ := h; exact ⟨b, o, ki, k, h1, h2, h3, hK _ h4⟩
  case min2 => split at h <;> first | exact hK _ h | exact h
  case max2 => split at h <;> first | exact hK _ h | exact h
  case mkfn => exact hK _ h
  case nilc => split at h <;> first | exact hK _ h | exact h
  case slc => obtain ⟨a, n, c, l, hh, m, h1, h2, h3, h4, h5, h6, h7, h8⟩ := h; exact ⟨a, n, c, l, hh, m, h1, h2, h3, h4, h5, h6, h7, hK _ h8⟩
  case sslc => obtain ⟨s, l, hh, h1, h2, h3, h4, h5, h6⟩ := h; exact ⟨s, l, hh, h1, h2, h3, h4, h5, hK _ h6⟩
  case ext =>
    split at h
    · split at h <;> first | exact hK _ h | exact h
    · exact h

theorem runG_mono {E : Env} {g : Option (Nat × Bool)} {a a' b b' : Prop} (ha : a → a') (hb : b → b') (h : runG E g a b) : runG E g a' b' := by
  unfold runG at h ⊢
  split at h
  · exact ha h
  · split at h
    · split at h
      · exact ha h
      · exact hb h
    · split at h
      · exact hb h
      · exact ha h
    · exact hb h

theorem conv_sound {P : Program} {h : Heap} {K : Env → Heap → Prop} : ∀ (t : DTree) (l : List MStep) (E : Env), convD t = some l → vcOps P l E h K → vcDraw P (· = h) t E h K
  | .done, l, E, hc, hk => by simp [convD] at hc; subst hc; exact hk
  | .fork _ _, l, E, hc, hk => by simp [convD] at hc
  | .split t r, l, E, hc, hk => by
    simp only [convD, Option.map_eq_some_iff] at hc
    obtain ⟨l', hl, rfl⟩ := hc
    obtain ⟨b, hb, ht, hf⟩ | ⟨hn, hk⟩ := hk
    · exact ⟨.inl ⟨b, hb, fun e => conv_sound r l' _ hl (ht e), fun e => conv_sound r l' _ hl (hf e)⟩⟩
    · exact ⟨.inr ⟨hn, conv_sound r l' _ hl hk⟩⟩
  | .take m r, l, E, hc, hk => by
    simp only [convD] at hc
    cases hm : m.op with
    | pure p =>
      rw [hm] at hc
      simp only [Option.map_eq_some_iff] at hc
      obtain ⟨l', hl, rfl⟩ := hc
      refine runG_mono (fun hr => ?_) (fun hr => conv_sound r l' _ hl hr) hk
      simp only [hm]
      rw [hm] at hr
      exact pop_mono p _ (fun v hv => conv_sound r l' _ hl hv) hr
    | load n x =>
      rw [hm] at hc
      simp only [Option.map_eq_some_iff] at hc
      obtain ⟨l', hl, rfl⟩ := hc
      refine runG_mono (fun hr => ?_) (fun hr => conv_sound r l' _ hl hr) hk
      simp only [hm]
      rw [hm] at hr
      obtain ⟨a, ha, hr⟩ := hr
      cases n with
      | none => obtain ⟨c, hc, hk'⟩ := hr; exact ⟨c, fun h' e => by subst e; exact ⟨a, ha, c, hc, rfl⟩, conv_sound r l' _ hl hk'⟩
      | some n => obtain ⟨cs, hcl, hc, hk'⟩ := hr; exact ⟨_, fun h' e => by subst e; exact ⟨a, ha, cs, hcl, hc, rfl⟩, conv_sound r l' _ hl hk'⟩
    | eff e => rw [hm] at hc; cases hc
  | .only lt m r, l, E, hc, hk => by
    simp only [convD] at hc
    cases hm : m.op with
    | pure p =>
      rw [hm] at hc
      simp only [Option.map_eq_some_iff] at hc
      obtain ⟨l', hl, rfl⟩ := hc
      refine runG_mono (fun hr => ?_) (fun hr => conv_sound r l' _ hl hr) hk
      simp only [hm]
      rw [hm] at hr
      exact pop_mono p _ (fun v hv => conv_sound r l' _ hl hv) hr
    | load n x =>
      rw [hm] at hc
      simp only [Option.map_eq_some_iff] at hc
      obtain ⟨l', hl, rfl⟩ := hc
      refine runG_mono (fun hr => ?_) (fun hr => conv_sound r l' _ hl hr) hk
      simp only [hm]
      rw [hm] at hr
      obtain ⟨a, ha, hr⟩ := hr
      cases n with
      | none => obtain ⟨c, hc, hk'⟩ := hr; exact ⟨a, ha, c, hc, conv_sound r l' _ hl hk'⟩
      | some n => obtain ⟨cs, hcl, hc, hk'⟩ := hr; exact ⟨a, ha, cs, hcl, hc, conv_sound r l' _ hl hk'⟩
    | eff e => rw [hm] at hc; cases hc

theorem eop_mono (P : Program) (e : EOp) (ρ : Operand → Value) (h : Heap) {K K' : Value → Heap → Prop} (hK : ∀ v h, K v h → K' v h) (hk : e.wp P ρ h K) : e.wp P ρ h K' := by
  cases e <;> simp only [EOp.wp] at hk ⊢
  case new => exact ⟨hK _ _ hk.out⟩
  case box => exact ⟨hK _ _ hk.out⟩
  case row => exact segVC_mono ρ (fun cs hc => ⟨hK _ _ hc.out⟩) _ _ hk
  case store => obtain ⟨b, o, C, T, h1, h2, h3, h4, h5, h6⟩ := hk; exact ⟨b, o, C, T, h1, h2, h3, h4, h5, hK _ _ h6⟩
  case mk => obtain ⟨n, m, k, k', h1, h2, h3, h4, h5, h6⟩ := hk; exact ⟨n, m, k, k', h1, h2, h3, h4, h5, fun C hC hz => hK _ _ (h6 C hC hz)⟩
  case app =>
    obtain ⟨a, n, c, b, m, cb, xs, ys, h1, h2, h3, h4, h5, h6, h7, h8, h9, h10, h11⟩ := hk
    refine ⟨a, n, c, b, m, cb, xs, ys, h1, h2, h3, h4, h5, h6, h7, h8, h9, fun hr => ?_, fun hr c' rest ha hb hc => hK _ _ (h11 hr c' rest ha hb hc)⟩
    rcases h10 hr with ⟨hm, hk⟩ | ⟨g, o, C, T, ha, hb, hc, hk⟩
    · exact .inl ⟨hm, hK _ _ hk⟩
    · exact .inr ⟨g, o, C, T, ha, hb, hc, hK _ _ hk⟩
  case copy =>
    obtain ⟨a, n, c, b, m, cb, ys, h1, h2, h3, h4, h5, h6⟩ := hk
    refine ⟨a, n, c, b, m, cb, ys, h1, h2, h3, h4, h5, ?_⟩
    rcases h6 with ⟨hy, hk⟩ | ⟨g, o, C, T, ha, hb, hc, hk⟩
    · exact .inl ⟨hy, hK _ _ hk⟩
    · exact .inr ⟨g, o, C, T, ha, hb, hc, hK _ _ hk⟩
  case clear =>
    obtain ⟨a, n, c, h1, h2⟩ := hk
    refine ⟨a, n, c, h1, ?_⟩
    rcases h2 with ⟨hn, hk⟩ | ⟨g, o, C, T, ha, hb, hc, hd, he, hk⟩
    · exact .inl ⟨hn, hK _ _ hk⟩
    · exact .inr ⟨g, o, C, T, ha, hb, hc, hd, he, hK _ _ hk⟩
  case bstr => obtain ⟨a, n, c, ns, h1, h2, h3, h4⟩ := hk; exact ⟨a, n, c, ns, h1, h2, h3, hK _ _ h4⟩
  case call => exact hk.mono hK
  case callv => split at hk <;> first | exact hk.mono hK | exact hk

theorem draw_mono (P : Program) (S : Heap → Prop) {K K' : Env → Heap → Prop} (hK : ∀ E h, K E h → K' E h) : ∀ (t : DTree) (E : Env) (h : Heap), vcDraw P S t E h K → vcDraw P S t E h K'
  | .done, E, h, hk => hK E h hk
  | .split t r, E, h, hk => by
    obtain ⟨b, hb, ht, hf⟩ | ⟨hn, hk⟩ := hk
    · exact ⟨.inl ⟨b, hb, fun e => draw_mono P S hK r _ _ (ht e), fun e => draw_mono P S hK r _ _ (hf e)⟩⟩
    · exact ⟨.inr ⟨hn, draw_mono P S hK r _ _ hk⟩⟩
  | .take m r, E, h, hk => by
    refine runG_mono (fun hr => ?_) (fun hr => draw_mono P S hK r _ _ hr) hk
    cases hm : m.op with
    | pure p => rw [hm] at hr; exact pop_mono p _ (fun v hv => draw_mono P S hK r _ _ hv) hr
    | load n x => rw [hm] at hr; obtain ⟨v, h1, h2⟩ := hr; exact ⟨v, h1, draw_mono P S hK r _ _ h2⟩
    | eff e => rw [hm] at hr; exact hr.elim
  | .only lt m r, E, h, hk => by
    refine runG_mono (fun hr => ?_) (fun hr => draw_mono P S hK r _ _ hr) hk
    cases hm : m.op with
    | pure p => rw [hm] at hr; exact pop_mono p _ (fun v hv => draw_mono P S hK r _ _ hv) hr
    | load n x =>
      rw [hm] at hr
      obtain ⟨a, ha, hr⟩ := hr
      cases n with
      | none => obtain ⟨c, hc, hk'⟩ := hr; exact ⟨a, ha, c, hc, draw_mono P S hK r _ _ hk'⟩
      | some n => obtain ⟨cs, hcl, hc, hk'⟩ := hr; exact ⟨a, ha, cs, hcl, hc, draw_mono P S hK r _ _ hk'⟩
    | eff e =>
      rw [hm] at hr
      cases lt
      · exact eop_mono P e _ h (fun v h hv => ⟨hv.1, draw_mono P S hK r _ _ hv.2⟩) hr
      · exact eop_mono P e _ h (fun v h hv => draw_mono P S hK r _ _ hv) hr
  | .fork a b, E, h, hk => ⟨draw_mono P S hK a E h hk.out.1, draw_mono P S hK b E h hk.out.2⟩

/-- As buildT, but where more than one may be next, none: the kernel shall not list all ways only to leave them. -/
def buildN (P : Program) (n : Nat) (ops : Array Oper) (late : Nat → Bool) : Nat → Array Bool → Bool → List Nat → Option DTree
  | 0, listed, _, _ => if (Region.ready .any ops listed).isEmpty then some .done else none
  | fuel + 1, listed, past, seen =>
    let rs := Region.ready .any ops listed
    if rs.isEmpty then some .done else
    match rs.find? fun i => isPure P ops i && Region.free .any ops listed i with
    | some i => nodeT P n ops late listed past seen (buildN P n ops late fuel) true i
    | none => match rs.find? fun i => isLoad P ops i && Region.free .any ops listed i && firmD P ops i with
    | some i => nodeT P n ops late listed past seen (buildN P n ops late fuel) true i
    | none => match rs with
      | [i] => nodeT P n ops late listed past seen (buildN P n ops late fuel) false i
      | _ => none

theorem nodeT_sub {P : Program} {n : Nat} {ops : Array Oper} {late : Nat → Bool} {listed : Array Bool} {past : Bool} {seen : List Nat} {rest rest' : Array Bool → Bool → List Nat → Option DTree} {tk : Bool} {i : Nat} {t : DTree}
    (hr : ∀ l p s t, rest l p s = some t → rest' l p s = some t) (h : nodeT P n ops late listed past seen rest tk i = some t) : nodeT P n ops late listed past seen rest' tk i = some t := by
  simp only [nodeT, Option.bind_eq_some_iff] at h ⊢
  obtain ⟨o, ho, m, hm, h⟩ := h
  refine ⟨o, ho, m, hm, ?_⟩
  split at h
  · rename_i hok
    rw [if_pos hok]
    split at h
    · simp only [Option.map_eq_some_iff] at h ⊢
      obtain ⟨a, ha, rfl⟩ := h
      exact ⟨a, hr _ _ _ _ ha, rfl⟩
    · split at h
      · rename_i hs
        rw [if_pos hs]
        simp only [Option.map_eq_some_iff] at h ⊢
        obtain ⟨a, ha, rfl⟩ := h
        exact ⟨a, hr _ _ _ _ ha, rfl⟩
      · rename_i hs
        rw [if_neg hs]
        simp only [Option.map_eq_some_iff] at h ⊢
        obtain ⟨a, ha, rfl⟩ := h
        exact ⟨a, hr _ _ _ _ ha, rfl⟩
  · cases h

theorem buildN_sub {P : Program} {n : Nat} {ops : Array Oper} {late : Nat → Bool} : ∀ (fuel : Nat) (listed : Array Bool) (past : Bool) (seen : List Nat) (t : DTree), buildN P n ops late fuel listed past seen = some t → buildT P n ops late false fuel listed past seen = some t
  | 0, listed, past, seen, t, h => h
  | fuel + 1, listed, past, seen, t, h => by
    have sub : ∀ l p s t, buildN P n ops late fuel l p s = some t → buildT P n ops late false fuel l p s = some t := buildN_sub fuel
    unfold buildN at h
    unfold buildT
    simp only at h ⊢
    split at h
    · rename_i hc; rw [if_pos hc]; exact h
    · rename_i hc
      rw [if_neg hc]
      split at h
      · rename_i i hi; rw [hi]; exact nodeT_sub sub h
      · rename_i hi
        rw [hi]
        simp only
        split at h
        · rename_i i hi2; rw [hi2]; exact nodeT_sub sub h
        · rename_i hi2
          rw [hi2]
          simp only [Bool.false_and]
          split at h
          · rename_i i hl; rw [hl]; exact nodeT_sub sub h
          · cases h

def resDraw (P : Program) (n : Nat) (ops : Array Oper) : Option MCode :=
  if P.follows .mixedOrders && Region.noSelect ops then
    match buildN P n ops (lateOf P ops false) ops.size (Array.replicate ops.size false) false [] with
    | some t => (match convD t with
      | some l => some (.ops l)
      | none => some (.draw false t))
    | none => match buildT P n ops (lateOf P ops true) true ops.size (Array.replicate ops.size false) false [] with
      | some t => (match convD t with
        | some l => some (.ops l)
        | none => some (.draw (t.held || t.forks) t))
      | none => match buildT P n ops (fun _ => false) true ops.size (Array.replicate ops.size false) false [] with
        | some t => some (.draw true t)
        | none => none
  else none

def resolve (P : Program) (n : Nat) : Code → Option MCode
  | .skip => some .skip
  | .region _ ops false => (resList P n ops ops.toList []).map .ops
  | .region _ ops true => resDraw P n ops
  | .seq a b => (resolve P n a).bind fun a => (resolve P n b).map (.seq a)
  | .cond c a b => (resolve P n a).bind fun a => (resolve P n b).map (.cond c a)
  | .block id c => (resolve P n c).map (.block id)
  | .loop c => (resolve P n c).map .loop
  | .exit id => some (.exit id)
  | .ret => some .ret
  | _ => none

theorem draw_region {P : Program} {n : Nat} {id : Nat} {ops : Array Oper} {Q : Post} {E : Env} {m : MCode} (hr : resDraw P n ops = some m) (w0 : World) (Q' : Exit → Act → World → Prop)
    (hQ : ∀ x E a w, Rel n E a → Sim w0 w → Q x E w.heap → Q' x.to a w) (a : Act) (w : World) (hrel : Rel n E a) (hs : Sim w0 w) (hk : vc P m Q E w.heap) : (Code.region id ops true).wp P Q' a w := by
  unfold resDraw at hr
  split at hr
  rotate_left
  · simp at hr
  rename_i hc
  simp only [Bool.and_eq_true] at hc
  obtain ⟨hm, hsel⟩ := hc
  let Qn : Exit → Act → World → Prop := fun e a w => match e with | .normal => Q' .normal a w | _ => False
  refine wp_mono (Q := Qn) ?_ (fun e a w h => by cases e <;> first | exact h | exact h.elim)
  have keyL : ∀ (late : Nat → Bool) (held : Bool) (t : DTree), buildT P n ops late held ops.size (Array.replicate ops.size false) false [] = some t → ∀ S : Heap → Prop, S w.heap → vcDraw P S t E w.heap (fun E h => Q .normal E h) → (Code.region id ops true).wp P Qn a w := by
    intro late held t hb S hS hk
    have := draw_sound (S := S) (Q := Qn) hsel w0 (fun E a w h1 h2 h3 => hQ .normal E a w h1 h2 h3) (fun c a w h => h) _ _ false [] t hb E a { w with drawn := w.drawn + 1 } (closed_start _) hrel ⟨hs.os, hs.tape, hs.output⟩ (fun _ => hS) hk
    exact wp_region_any hm (anyL_any _ _ _ _ this)
  have key := fun (held : Bool) => keyL (lateOf P ops held) held
  split at hr
  · rename_i t0 ht0
    have ht0 := buildN_sub _ _ _ _ _ ht0
    split at hr
    · rename_i l hl
      simp at hr; subst hr
      exact key false t0 ht0 (· = w.heap) rfl (conv_sound t0 l E hl hk)
    · simp at hr; subst hr
      exact key false t0 ht0 (fun _ => True) trivial hk
  · split at hr
    · rename_i t ht
      split at hr
      · rename_i l hl
        simp at hr; subst hr
        exact key true t ht (· = w.heap) rfl (conv_sound t l E hl hk)
      · simp at hr; subst hr
        cases hst : t.held || t.forks
        · rw [hst] at hk
          exact key true t ht (fun _ => True) trivial hk
        · rw [hst] at hk
          obtain ⟨S, hS, hk⟩ := hk
          exact key true t ht S hS hk
    · split at hr
      · rename_i t ht
        simp at hr; subst hr
        obtain ⟨S, hS, hk⟩ := hk
        exact keyL _ true t ht S hS hk
      · simp at hr

theorem vc_sound {P : Program} {n : Nat} : ∀ (c : Code) (m : MCode), resolve P n c = some m → ∀ (w0 : World) (Q : Post) (Q' : Exit → Act → World → Prop),
    (∀ x E a w, Rel n E a → Sim w0 w → Q x E w.heap → Q' x.to a w) → ∀ (E : Env) (a : Act) (w : World), Rel n E a → Sim w0 w → vc P m Q E w.heap → c.wp P Q' a w := by
  intro c
  induction c with
  | skip =>
    intro m hr w0 Q Q' hQ E a w hrel hs hk
    simp [resolve] at hr; subst hr
    exact wp_skip (hQ .normal E a w hrel hs hk)
  | region id ops draw =>
    intro m hr w0 Q Q' hQ E a w hrel hs hk
    cases draw
    · simp only [resolve, Option.map_eq_some_iff] at hr
      obtain ⟨steps, hr, rfl⟩ := hr
      refine wp_region_list (ops_sound w0 (K := fun E h => Q .normal E h) (fun E a w h1 h2 h3 => hQ .normal E a w h1 h2 h3) ops.toList [] steps hr E a w hrel hs hk)
    · exact draw_region hr w0 Q' hQ a w hrel hs hk
  | seq x y ihx ihy =>
    intro m hr w0 Q Q' hQ E a w hrel hs hk
    simp only [resolve, Option.bind_eq_some_iff, Option.map_eq_some_iff] at hr
    obtain ⟨mx, hx, my, hy, rfl⟩ := hr
    refine wp_seq (ihx mx hx w0 _ _ ?_ E a w hrel hs hk)
    intro e E a w hrel hs hk
    cases e with
    | normal => exact ihy my hy w0 Q Q' hQ E a w hrel hs hk
    | exit id => exact hQ (.exit id) E a w hrel hs hk
    | ret => exact hQ .ret E a w hrel hs hk
  | cond c x y ihx ihy =>
    intro m hr w0 Q Q' hQ E a w hrel hs hk
    simp only [resolve, Option.bind_eq_some_iff, Option.map_eq_some_iff] at hr
    obtain ⟨mx, hx, my, hy, rfl⟩ := hr
    obtain ⟨b, hb, ht, hf⟩ := hk
    refine wp_cond_split (t := b) (by rw [hrel.eval]; exact hb) (fun h => ihx mx hx w0 Q Q' hQ E a w hrel hs (ht h)) (fun h => ihy my hy w0 Q Q' hQ E a w hrel hs (hf h))
  | block id c ih =>
    intro m hr w0 Q Q' hQ E a w hrel hs hk
    simp only [resolve, Option.map_eq_some_iff] at hr
    obtain ⟨mc, hc, rfl⟩ := hr
    refine wp_block (ih mc hc w0 _ _ ?_ E a w hrel hs hk)
    intro e E a w hrel hs hk
    cases e with
    | normal => exact hQ .normal E a w hrel hs hk
    | ret => exact hQ .ret E a w hrel hs hk
    | exit i =>
      simp only at hk
      simp only [MExit.to, Exit.inBlock]
      cases hb : Nat.beq i id
      · rw [hb] at hk
        rw [if_neg (fun h => by subst h; simp at hb)]
        exact hQ (.exit i) E a w hrel hs hk
      · rw [hb] at hk
        rw [if_pos (Nat.eq_of_beq_eq_true hb)]
        exact hQ .normal E a w hrel hs hk
  | loop c ih =>
    intro m hr w0 Q Q' hQ E a w hrel hs hk
    simp only [resolve, Option.map_eq_some_iff] at hr
    obtain ⟨mc, hc, rfl⟩ := hr
    obtain ⟨α, I, μ, ⟨g, hI⟩, round⟩ := hk
    intro b k cs
    have key : ∀ (m : Nat) (g : α) (E : Env) (a : Act) (w : World), μ g = m → I g E w.heap → Rel n E a → Sim w0 w →
        ∃ e a' w', Q' e a' w' ∧ Arrives P (lone (b.at a (.code c :: .inLoop c :: k)) cs w) b k cs e a' w' := by
      intro m
      induction m using Nat.strongRecOn with
      | _ m ihm =>
        intro g E a w hm hI hrel hs
        let Q2 : Exit → Act → World → Prop := fun e a' w' => match e with
          | .normal => ∃ g' E', I g' E' w'.heap ∧ μ g' < μ g ∧ Rel n E' a' ∧ Sim w0 w'
          | e => Q' e a' w'
        have h1 := ih mc hc w0 _ Q2 (fun x E' a' w' hrel' hs' hk' => by
          cases x with
          | normal => obtain ⟨g', hI', hlt⟩ := hk'; exact ⟨g', E', hI', hlt, hrel', hs'⟩
          | exit id => exact hQ (.exit id) E' a' w' hrel' hs' hk'
          | ret => exact hQ .ret E' a' w' hrel' hs' hk') E a w hrel hs (round g E w.heap hI)
        obtain ⟨e, a1, w1, hq, harr⟩ := h1 b (.inLoop c :: k) cs
        cases e with
        | normal =>
          obtain ⟨g', E', hI', hlt, hrel', hs'⟩ := hq
          obtain ⟨e2, a2, w2, hq2, harr2⟩ := ihm (μ g') (hm ▸ hlt) g' E' a1 w1 rfl hI' hrel' hs'
          exact ⟨e2, a2, w2, hq2, .of_steps (Steps.trans harr (.one step_inLoop)) harr2⟩
        | exit id => exact ⟨_, a1, w1, hq, .pass (x := .inLoop c) rfl (fun _ _ => .inl (by simp)) harr⟩
        | goto l => exact ⟨_, a1, w1, hq, .pass (x := .inLoop c) rfl (fun _ _ => .inl (by simp)) harr⟩
        | ret => exact ⟨_, a1, w1, hq, .pass (x := .inLoop c) rfl (fun _ _ => .inl (by simp)) harr⟩
        | panic ch => exact ⟨_, a1, w1, hq, .pass (x := .inLoop c) rfl (fun _ _ => .inl (by simp)) harr⟩
        | outgrown => exact ⟨_, a1, w1, hq, .pass (x := .inLoop c) rfl (fun _ _ => .inl (by simp)) harr⟩
    obtain ⟨e, a', w', hq, harr⟩ := key _ g E a w rfl hI hrel hs
    exact ⟨e, a', w', hq, .of_steps (.one step_loop) harr⟩
  | exit id =>
    intro m hr w0 Q Q' hQ E a w hrel hs hk
    simp [resolve] at hr; subst hr
    exact wp_exit (hQ (.exit id) E a w hrel hs hk)
  | ret =>
    intro m hr w0 Q Q' hQ E a w hrel hs hk
    simp [resolve] at hr; subst hr
    exact wp_ret (hQ .ret E a w hrel hs hk)
  | _ => intro m hr; simp [resolve] at hr

/-! ### Functions -/
inductive MRes where
  | tmp (t : Nat)
  | cell (t : Nat) (n : Option Nat)

structure MFun where
  n : Nat
  code : MCode
  res : List MRes

def resVC : List MRes → Env → Heap → List Value → (List Value → Prop) → Prop
  | [], _, _, acc, K => K acc
  | .tmp t :: r, E, h, acc, K => resVC r E h (acc ++ [E t]) K
  | .cell t n :: r, E, h, acc, K => LoadVC h (E t) n fun v => resVC r E h (acc ++ [v]) K

def oneOr (vs : List Value) : Value := match vs with
  | [v] => v
  | vs => .tuple vs.toArray

def MFun.post (f : MFun) (R : Value → Heap → Prop) : Post := fun x E h => match x with
  | .normal => resVC f.res E h [] fun vs => R (oneOr vs) h
  | .ret => resVC f.res E h [] fun vs => R (oneOr vs) h
  | .exit _ => False

def resRes (P : Program) : ResultVar → Option MRes
  | .tmp t => some (.tmp t)
  | .cell t ty => (aggN P ty).map (.cell t)

def resFun (P : Program) (f : FuncId) : Option MFun := (P.funcs[f]?).bind fun fn => match fn.body with
  | some c => if fn.name == "runtime.NumGoroutine" then none else
    (resolve P fn.ntmps c).bind fun m => (fn.results.toList.mapM (resRes P)).map fun r => ⟨fn.ntmps, m, r⟩
  | none => none

def resOne (tmps : Array Value) : ResultVar → Sem Value
  | .tmp t => pure (tmps.getD t undef)
  | .cell a t => do loadVar t (← asAddr (tmps.getD a undef))

theorem results_eq (fn : Func) (tmps : Array Value) : results fn tmps = (do let vs ← fn.results.mapM (resOne tmps); pure (if h : vs.size = 1 then vs[0] else .tuple vs)) := rfl

theorem res_sound {P : Program} {n : Nat} {E : Env} {a : Act} (hrel : Rel n E a) (w : World) : ∀ (rs : List ResultVar) (ms : List MRes) (acc : List Value) (K : List Value → Prop), rs.mapM (resRes P) = some ms →
    resVC ms E w.heap acc K → ∃ vs, K (acc ++ vs) ∧ (rs.mapM (resOne a.tmps)).run P w = .ok vs w
  | [], ms, acc, K, hm, hk => by
    simp at hm; subst hm
    have hk' : K acc := hk
    exact ⟨[], by simpa using hk', by simp⟩
  | r :: rs, ms, acc, K, hm, hk => by
    simp only [List.mapM_cons, Option.bind_eq_bind, Option.pure_def, Option.bind_eq_some_iff, Option.some.injEq] at hm
    obtain ⟨m, hm, ms', hms, rfl⟩ := hm
    cases r with
    | tmp t =>
      simp [resRes] at hm; subst hm
      obtain ⟨vs, h1, h2⟩ := res_sound hrel w rs ms' _ K hms hk
      refine ⟨E t :: vs, by simpa using h1, ?_⟩
      have hg := hrel.get t
      rw [List.mapM_cons]
      simp only [Sem.run_bind, resOne, Sem.run_pure, Result.andThen_ok, h2, hg]
    | cell x t =>
      simp only [resRes, Option.map_eq_some_iff] at hm
      obtain ⟨nn, hn, rfl⟩ := hm
      have hk' : LoadVC w.heap (E x) nn fun v => resVC ms' E w.heap (acc ++ [v]) K := hk
      obtain ⟨v, hk2, hrun⟩ := loadVar_sound hn w _ _ hk'
      obtain ⟨vs, h1, h2⟩ := res_sound hrel w rs ms' _ K hms hk2
      refine ⟨v :: vs, by simpa using h1, ?_⟩
      have hg := hrel.get x
      obtain ⟨ad, had, _⟩ := hk'
      rw [had] at hrun hg
      have hrun' : (loadVar t ad).run P w = .ok v w := by
        simpa [Instr.loadAt, Instr.sureAddr] using hrun
      have hone : (resOne a.tmps (.cell x t)).run P w = .ok v w := by
        simp only [resOne, Sem.run_bind, hg, asAddr, Sem.run_pure, Result.andThen_ok, hrun']
      rw [List.mapM_cons]
      simp only [Sem.run_bind, hone, Result.andThen_ok, h2, Sem.run_pure]

/-- A contract of a function, out of the condition of its code. -/
theorem calls_of {P : Program} {f : FuncId} {m : MFun} (hf : resFun P f = some m) {args : List Value} {h : Heap} {R : Value → Heap → Prop} (hk : vc P m.code (m.post R) (Env.of args) h) (hn : args.length.ble m.n = true := by rfl) :
    CallsH P f args h R := by
  unfold resFun at hf
  simp only [Option.bind_eq_some_iff] at hf
  obtain ⟨fn, hfn, hf⟩ := hf
  split at hf
  rotate_left
  · simp at hf
  rename_i c hb
  split at hf
  · simp at hf
  rename_i hname
  simp only [Option.bind_eq_some_iff, Option.map_eq_some_iff] at hf
  obtain ⟨mc, hmc, ms, hms, rfl⟩ := hf
  refine ⟨⟨fn, hfn, by simp [hb], by simpa using hname⟩, fun w hw => ?_⟩
  subst hw
  refine calls_of_wp hfn hb ?_
  refine vc_sound c mc hmc w _ _ ?_ (Env.of args) _ w ?_ (Sim.refl w) hk
  · intro x E a w' hrel hs hq
    have fin : resVC ms E w'.heap [] (fun vs => R (oneOr vs) w'.heap) → a.defers = [] ∧ ∃ v, (results fn a.tmps).run P w' = .ok v w' ∧ ∃ v', Ending.returned v = .returned v' ∧ Sim w w' ∧ R v' w'.heap := by
      intro hq
      obtain ⟨vs, h1, h2⟩ := res_sound hrel w' fn.results.toList ms [] _ hms hq
      refine ⟨hrel.defers, oneOr vs, ?_, oneOr vs, rfl, hs, by simpa using h1⟩
      rw [results_eq, Array.mapM_eq_mapM_toList]
      simp only [Sem.run_bind, Sem.run_map]
      rw [h2]
      simp only [Result.andThen_ok, Sem.run_pure]
      congr 1
      unfold oneOr
      cases vs with
      | nil => simp
      | cons v vs => cases vs <;> simp
    cases x with
    | normal => exact fin hq
    | ret => exact fin hq
    | exit id => exact hq.elim
  · refine ⟨?_, fun t => ?_, rfl⟩
    · have hn := Nat.le_of_ble_eq_true hn; simp; simp at hn; omega
    · simp only [Env.of]
      simp only [Array.getD_eq_getD_getElem?, List.getD_eq_getElem?_getD]
      by_cases ht : t < args.length
      · rw [Array.getElem?_append_left (by simpa using ht)]
        simp
      · rw [Array.getElem?_append_right (by simp; omega)]
        simp only [List.size_toArray]
        rw [List.getElem?_eq_none (by omega)]
        by_cases h2 : t - args.length < fn.ntmps - args.length
        · rw [getElem?_pos _ _ (by simpa using h2)]
          simp
        · rw [getElem?_neg _ _ (by simpa using h2)]
/-- short forms for the printed code -/
abbrev o_m (d s : Nat) : MStep := .op ⟨some d, .pure (.mv (.tmp s)), none⟩
abbrev o_p (d : Nat) (p : POp) : MStep := .op ⟨some d, .pure p, none⟩
abbrev o_e (d : Nat) (p : EOp) : MStep := .op ⟨some d, .eff p, none⟩
abbrev o_l (d s : Nat) : MStep := .op ⟨some d, .load none (.tmp s), none⟩
abbrev t_m (d s : Nat) : MOper := ⟨some d, .pure (.mv (.tmp s)), none⟩
abbrev t_p (d : Nat) (p : POp) : MOper := ⟨some d, .pure p, none⟩
abbrev t_e (d : Nat) (p : EOp) : MOper := ⟨some d, .eff p, none⟩
abbrev t_l (d s : Nat) : MOper := ⟨some d, .load none (.tmp s), none⟩
end Go.Vc
