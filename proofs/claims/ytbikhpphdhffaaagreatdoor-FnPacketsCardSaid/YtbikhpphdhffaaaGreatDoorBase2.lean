/- The resolution of operations, and that it is sound. Condition: none. -/
import Derived.Test.YtbikhpphdhffaaaGreatDoorBase1
namespace Go.Vc

def zeroOf (P : Program) (t : TypeId) : Option (List Value) := (P.info? t).bind fun i => i.zero.map fun z => z.cells.toList
def aggN (P : Program) (t : TypeId) : Option (Option Nat) := match P.underlying t, P.info? t with
  | some (.struct _), some i => some (some i.size)
  | some (.array _ _), some i => some (some i.size)
  | some _, some _ => some none
  | _, _ => none
def fieldOf (P : Program) (s : TypeId) (f : Nat) : Option Field := match P.underlying s with
  | some (.struct fs) => fs[f]?
  | _ => none
def partsOf (P : Program) (t : TypeId) (parts : List (Nat × Operand)) : Option (List (Nat × Nat × Operand)) := match P.underlying t with
  | some (.struct fs) => (fs.toList.mapM fun f => (P.info? f.type).map fun i => (f.offset, i.size)).bind fun pl =>
    parts.mapM fun p => (pl.toArray[p.1]?).map fun q => (q.1, q.2, p.2)
  | some (.array _ e) => (P.info? e).map fun inf => parts.map fun (i, x) => (i * inf.size, inf.size, x)
  | _ => none
def mkZero (zero : List Value) (n : Nat) : List Value := (List.range n).map fun i => zero.getD (i % zero.length) default
def okParts (ps : List (Nat × Nat × Operand)) (n : Nat) : Bool := ps.all fun p => decide (p.1 + p.2.1 ≤ n)

def resolveCall (P : Program) (c : Call) : Option MOp := match c.callee, c.args.toList, c.argTypes.toList with
  | .builtin .len, [x], [t] => match P.underlying t with
    | some (.slice _) => some (.pure (.len x))
    | some .string => some (.pure (.slen x))
    | _ => none
  | .builtin .append, [s, x], [t, t'] => if t == t' then (match P.underlying t with
    | some (.slice e) => (P.info? e).bind fun i => match i.zero with
      | some z => if z.cells.size == i.size && decide (0 < i.bytes) then some (.eff (.app e i.size i.bytes s x)) else none
      | none => none
    | _ => none) else none
  | .builtin .copy, [d, s], [t, _] => match P.underlying t with
    | some (.slice e) => (P.info? e).map fun i => .eff (.copy i.size d s)
    | _ => none
  | .builtin .clear, [x], [t] => match P.underlying t with
    | some (.slice e) => (P.info? e).bind fun i => (zeroOf P e).bind fun z => if z.length == i.size && decide (0 < i.size) then some (.eff (.clear i.size z x)) else none
    | _ => none
  | .builtin .min, [x, y], _ => some (.pure (.min2 x y))
  | .builtin .max, [x, y], _ => some (.pure (.max2 x y))
  | .value (.func f), args, _ => some (.eff (.call f args))
  | .value (.tmp t), args, _ => some (.eff (.callv (.tmp t) args))
  | _, _, _ => none

def isNilI : Operand → Bool
  | .const .nilIface => true
  | _ => false
theorem isNilI_spec {y : Operand} (h : isNilI y = true) : y = .const .nilIface := by
  unfold isNilI at h
  split at h
  · rfl
  · cases h
def isNilC : Operand → Bool
  | .const (.slice none _ _) => true
  | _ => false
theorem isNilC_spec {y : Operand} (h : isNilC y = true) : ∃ n c, y = .const (.slice none n c) := by
  unfold isNilC at h
  split at h
  · exact ⟨_, _, rfl⟩
  · cases h

def kindsOf (P : Program) : Nat → List Field → Option (List Bool)
  | _, [] => some []
  | i, f :: fs => if f.name != "_" && f.offset == i then (match P.underlying f.type with
    | some (.int _) => (kindsOf P (i + 1) fs).map (true :: ·)
    | some .bool => (kindsOf P (i + 1) fs).map (false :: ·)
    | _ => none) else none
def eqsKinds (P : Program) (t : TypeId) (fs : Array Field) : Option (List Bool) := if P.stoodInHeld t || P.eqGuardType P.depth t then none else kindsOf P 0 fs.toList

def resolveOp0 (P : Program) (o : Op) : Option MOp := match o with
  | .move x => some (.pure (.mv x))
  | .assign x => some (.pure (.mv x))
  | .pick c a b => some (.pure (.pick c a b))
  | .alloc t => (zeroOf P t).map fun z => .eff (.new t z)
  | .box t x => some (.eff (.box t x))
  | .build t parts => (zeroOf P t).bind fun z => (partsOf P t parts.toList).bind fun ps =>
    if okParts ps z.length then some (.pure (.build z ps)) else none
  | .buildSlice t len parts => match P.underlying t with
    | some (.slice e) => (P.info? e).bind fun i => (zeroOf P e).bind fun z =>
      let ps := parts.toList.map fun (k, x) => (k * i.size, i.size, x)
      if decide (len * i.size ≤ 16777216) && decide (0 < z.length) && okParts ps (len * i.size) then some (.eff (.row e len (mkZero z (len * i.size)) ps)) else none
    | _ => none
  | .load t a => (aggN P t).map fun n => .load n a
  | .store t a x => (P.info? t).map fun i => .eff (.store i.size a x)
  | .nilCheck x => some (.pure (.nilc x))
  | .binOp op t x y _ => match P.underlying t with
    | some (.int _) => some (.pure (.bin op x y))
    | some .string => some (.pure (.bin op x y))
    | some .bool => match op with
      | .eql => some (.pure (.eqb false x y))
      | .neq => some (.pure (.eqb true x y))
      | _ => none
    | some (.slice _) => if isNilC y then (match op with
      | .eql => some (.pure (.isnil false x))
      | .neq => some (.pure (.isnil true x))
      | _ => none) else none
    | some (.interface _) => if isNilI y then (match op with
      | .eql => some (.pure (.ifnil false x))
      | .neq => some (.pure (.ifnil true x))
      | _ => none) else none
    | some (.struct fs) => (eqsKinds P t fs).bind fun ks => match op with
      | .eql => some (.pure (.eqs false ks x y))
      | .neq => some (.pure (.eqs true ks x y))
      | _ => none
    | _ => none
  | .unOp .not _ x => some (.pure (.bnot x))
  | .unOp .neg _ x => some (.pure (.ineg x))
  | .convert src dst x => match P.underlying src, P.underlying dst with
    | some (.int _), some (.int k) => some (.pure (.conv k x))
    | some (.slice e), some .string => match P.underlying e with
      | some (.int .u8) => some (.eff (.bstr x))
      | _ => none
    | _, _ => none
  | .makeFunc fn first captured => some (.pure (.mkfn fn first.toList captured.toList))
  | .makeSlice t l c => match P.underlying t with
    | some (.slice e) => (P.info? e).bind fun i => (zeroOf P e).bind fun z =>
      if decide (0 < z.length) then some (.eff (.mk e i.size i.bytes z l c)) else none
    | _ => none
  | .slice t x lo hi mx => match P.underlying t with
    | some (.slice e) => (P.info? e).map fun i => .pure (.slc i.size x lo hi mx)
    | some .string => if mx.isNone then some (.pure (.sslc x lo hi)) else none
    | _ => none
  | .fieldAddr s x f => (fieldOf P s f).bind fun fl => (P.info? fl.type).bind fun i => if i.size == 0 then none else some (.pure (.fieldAddr fl.offset x))
  | .field t x f => (fieldOf P t f).bind fun fl => (aggN P fl.type).map fun n => .pure (.field fl.offset n x)
  | .indexAddr t x i => match P.underlying t with
    | some (.slice e) => (P.info? e).map fun inf => .pure (.idx inf.size x i)
    | some (.array len e) => (P.info? e).map fun inf => .pure (.idxA len inf.size x i)
    | _ => none
  | .index t x i => match P.underlying t with
    | some .string => some (.pure (.sidx x i))
    | some (.array len e) => (P.info? e).bind fun inf => (aggN P e).map fun n => .pure (.arr len inf.size n x i)
    | _ => none
  | .extract x i => some (.pure (.ext i x))
  | .call c => resolveCall P c
  | _ => none

/-! ### Sound: pure operations -/
def Gives (P : Program) (ρ : Operand → Value) (o : Oper) (v : Value) : Prop := ∀ w, (execOp ρ o).run P w = .ok (.value v) w

theorem bin_sound (P : Program) (op : BinOp) (t : TypeId) (x y : Operand) (u v : Value) (K : Value → Prop) (hk : binVC op u v K) :
    ∃ r, K r ∧ ∀ w, (do eqGuard op t x y u v; binOp op t u v : Sem Value).run P w = .ok r w := by
  unfold binVC at hk
  split at hk
  · rename_i k a k' b
    rw [eqGuard_at_int]
    simp only [pure_bind]
    split at hk
    · obtain ⟨rfl, hk⟩ := hk; exact ⟨_, hk, fun w => by simp [binOp, Op.intArith]⟩
    · obtain ⟨rfl, hk⟩ := hk; exact ⟨_, hk, fun w => by simp [binOp, Op.intArith]⟩
    · obtain ⟨rfl, hk⟩ := hk; exact ⟨_, hk, fun w => by simp [binOp, Op.intArith]⟩
    · obtain ⟨rfl, hb, hk⟩ := hk; exact ⟨_, hk, fun w => by simp [binOp, Op.intDiv, hb]⟩
    · obtain ⟨rfl, hb, hk⟩ := hk; exact ⟨_, hk, fun w => by simp [binOp, Op.intDiv, hb]⟩
    · split at hk
      · exact ⟨_, hk, fun w => by simp [binOp, Op.intCmp]⟩
      · obtain ⟨rfl, hk⟩ := hk; exact ⟨_, hk, fun w => by simp [binOp, Op.intCmp]⟩
    · split at hk
      · exact ⟨_, hk, fun w => by simp [binOp, Op.intCmp]⟩
      · obtain ⟨rfl, hk⟩ := hk; exact ⟨_, hk, fun w => by simp [binOp, Op.intCmp]⟩
    · split at hk
      · exact ⟨_, hk, fun w => by simp [binOp, Op.intCmp]⟩
      · obtain ⟨rfl, hk⟩ := hk; exact ⟨_, hk, fun w => by simp [binOp, Op.intCmp]⟩
    · split at hk
      · exact ⟨_, hk, fun w => by simp [binOp, Op.intCmp]⟩
      · obtain ⟨rfl, hk⟩ := hk; exact ⟨_, hk, fun w => by simp [binOp, Op.intCmp]⟩
    · split at hk
      · exact ⟨_, hk, fun w => by simp [binOp, Op.intCmp]⟩
      · obtain ⟨rfl, hk⟩ := hk; exact ⟨_, hk, fun w => by simp [binOp, Op.intCmp]⟩
    · split at hk
      · exact ⟨_, hk, fun w => by simp [binOp, Op.intCmp]⟩
      · obtain ⟨rfl, hk⟩ := hk; exact ⟨_, hk, fun w => by simp [binOp, Op.intCmp]⟩
    · obtain ⟨hb, hk⟩ := hk; exact ⟨_, hk, fun w => by simp [binOp, Op.shift, Int.not_lt.2 hb]⟩
    · obtain ⟨hb, hk⟩ := hk; exact ⟨_, hk, fun w => by simp [binOp, Op.shift, Int.not_lt.2 hb]⟩
    · obtain ⟨rfl, hk⟩ := hk
      refine ⟨_, hk, fun w => ?_⟩
      cases op <;> first | contradiction | (simp [binOp, intBits_and, intBits_or, intBits_xor, intBits_andNot]; done)
  · rename_i a b
    rw [eqGuard_at_string]
    simp only [pure_bind]
    split at hk
    · exact ⟨_, hk, fun w => by simp [binOp, Op.stringOp]⟩
    · exact ⟨_, hk, fun w => by simp [binOp, Op.stringOp]⟩
    · obtain ⟨hb, hk⟩ := hk
      refine ⟨_, hk, fun w => ?_⟩
      simp only [binOp, Op.stringOp]
      rw [if_neg (by omega)]
      rfl
    · exact hk.elim
  · exact hk.elim
end Go.Vc
