/- A small program logic over the given model: the code of a function is resolved into a small tree (MCode), 'vc' says what is to be shown of it, and 'calls_of' turns that into a contract of the function. Condition: none. -/
import Derived.WalkKit
import Derived.OrdersHeld
namespace Go.Vc

/-! ### Heaps -/
abbrev Heap := Array Obj

def hcell (h : Heap) (a : Addr) : Option Value := match h[a.block]? with
  | some (.cells c _ _) => if a.spot.isSome then none else c[a.off]?
  | _ => none

theorem cell_hcell (w : World) (a : Addr) : w.cell? a = hcell w.heap a := rfl

structure Sim (w w' : World) : Prop where
  os : w'.os = w.os
  tape : w'.tape = w.tape
  output : w'.output = w.output

theorem Sim.refl (w : World) : Sim w w := ⟨rfl, rfl, rfl⟩
theorem Sim.trans {a b c : World} (h : Sim a b) (k : Sim b c) : Sim a c := ⟨k.os.trans h.os, k.tape.trans h.tape, k.output.trans h.output⟩

/-- A call of function f with these arguments in a heap h returns a value and leaves a heap that meet R. -/
structure CallsH (P : Program) (f : FuncId) (args : List Value) (h : Heap) (R : Value → Heap → Prop) : Prop where
  ofOut ::
  out : (∃ fn, P.funcs[f]? = some fn ∧ fn.body.isSome = true ∧ (fn.name == "runtime.NumGoroutine") = false) ∧
  ∀ w : World, w.heap = h → Calls P f args.toArray w fun e w' => ∃ v, e = .returned v ∧ Sim w w' ∧ R v w'.heap

theorem CallsH.mono {P : Program} {f : FuncId} {args : List Value} {h : Heap} {R R' : Value → Heap → Prop} (hc : CallsH P f args h R)
    (hr : ∀ v h', R v h' → R' v h') : CallsH P f args h R' :=
  ⟨hc.out.1, fun w hw => (hc.out.2 w hw).mono fun _ _ ⟨v, he, hs, hR⟩ => ⟨v, he, hs, hr _ _ hR⟩⟩

/-! ### Frames as functions -/
abbrev Env := Nat → Value

def Env.put (E : Env) (d : Nat) (v : Value) : Env := fun t => bif Nat.beq t d then v else E t
def Env.putO (E : Env) (d : Option Nat) (v : Value) : Env := match d with
  | some d => E.put d v
  | none => E
def ev (E : Env) : Operand → Value
  | .tmp t => E t
  | .const v => v
  | .global g => .pointer (some ⟨g, 0, none⟩)
  | .func f => .func (.func f) #[] #[]
def Env.of (args : List Value) : Env := fun t => args.getD t undef

structure Rel (n : Nat) (E : Env) (a : Act) : Prop where
  size : a.tmps.size = n
  get : ∀ t, a.tmps.getD t undef = E t
  defers : a.defers = []

theorem Rel.eval {n : Nat} {E : Env} {a : Act} (h : Rel n E a) : a.eval = ev E := by
  funext x; cases x <;> simp [Act.eval, ev, h.get]

theorem Rel.put {n : Nat} {E : Env} {a : Act} (h : Rel n E a) {d : Option Nat} (hd : ∀ k, d = some k → k < n) (v : Value) : Rel n (E.putO d v) (a.put d v) := by
  cases d with
  | none => exact h
  | some d =>
    have hd := hd d rfl
    refine ⟨by simp [Act.put, h.size], fun t => ?_, by simp [Act.put, h.defers]⟩
    have hs := h.size
    have hg := h.get t
    simp only [Act.put, Env.putO, Env.put]
    rw [Array.getD_eq_getD_getElem?] at hg ⊢
    by_cases e : t = d
    · subst e
      rw [Array.getElem?_setIfInBounds_self_of_lt (by omega)]
      simp
    · have : Nat.beq t d = false := by
        cases hb : Nat.beq t d
        · rfl
        · exact absurd (Nat.eq_of_beq_eq_true hb) e
      rw [Array.getElem?_setIfInBounds_ne (Ne.symm e), this]
      exact hg

/-! ### The stops: where the condition of a program stops to be met by a rule -/
structure ArithVC (k k' : IntKind) (n : Int) (K : Value → Prop) : Prop where
  ofOut ::
  out : k = k' ∧ K (.int k (k.wrap n))
structure QuoVC (rem : Bool) (k k' : IntKind) (a b : Int) (K : Value → Prop) : Prop where
  ofOut ::
  out : k = k' ∧ b ≠ 0 ∧ K (.int k (if rem then a.tmod b else k.wrap (a.tdiv b)))
structure CmpVC (k k' : IntKind) (b : Bool) (K : Value → Prop) : Prop where
  ofOut ::
  out : k = k' ∧ K (.bool b)
structure BitsVC (op : BinOp) (k k' : IntKind) (a b : Int) (K : Value → Prop) : Prop where
  ofOut ::
  out : k = k' ∧ K (.int k (bits op k a b))
structure ShiftVC (left : Bool) (k : IntKind) (a b : Int) (K : Value → Prop) : Prop where
  ofOut ::
  out : 0 ≤ b ∧ K (.int k (if left then k.wrap (a * 2 ^ (min b.toNat k.bits)) else a.fdiv (2 ^ (min b.toNat k.bits))))
structure CatVC (a b : ByteArray) (K : Value → Prop) : Prop where
  ofOut ::
  out : ((a.size + b.size : Nat) : Int) ≤ IntKind.i64.max ∧ K (.string (a ++ b))
structure IdxVC (sz : Nat) (v i : Value) (K : Value → Prop) : Prop where
  ofOut ::
  out : ∃ b o n c ki k, v = .slice (some ⟨b, o, none⟩) n c ∧ i = .int ki k ∧ 0 ≤ k ∧ k < (n : Int) ∧ K (.pointer (some ⟨b, o + k.toNat * sz, none⟩))
structure StrIdxVC (v i : Value) (K : Value → Prop) : Prop where
  ofOut ::
  out : ∃ s ki, ∃ k : Nat, ∃ b, v = .string s ∧ i = .int ki (k : Int) ∧ s.data.toList[k]? = some b ∧ K (.int .u8 (b.toNat : Int))
structure LenVC (v : Value) (K : Value → Prop) : Prop where
  ofOut ::
  out : ∃ a, ∃ n c : Nat, v = .slice a n c ∧ K (.int .i64 (n : Int))
structure SlcVC (sz : Nat) (v : Value) (lo hi mx : Option Value) (K : Value → Prop) : Prop where
  ofOut ::
  out : ∃ a n c, ∃ l h m : Nat, v = .slice a n c ∧ l ≤ h ∧ h ≤ m ∧ m ≤ c ∧
    (match mx with | none => m = c | some x => ∃ k, x = .int k (m : Int)) ∧
    (match hi with | none => h = n ∧ mx = none | some x => ∃ k, x = .int k (h : Int)) ∧
    (match lo with | none => l = 0 | some x => ∃ k, x = .int k (l : Int)) ∧
    K (.slice (if m = l then a else a.map (·.add (l * sz))) (h - l) (m - l))
structure StrSlcVC (v : Value) (lo hi : Option Value) (K : Value → Prop) : Prop where
  ofOut ::
  out : ∃ s, ∃ l h : Nat, v = .string s ∧ l ≤ h ∧ h ≤ s.size ∧
    (match hi with | none => h = s.size | some x => ∃ k, x = .int k (h : Int)) ∧
    (match lo with | none => l = 0 | some x => ∃ k, x = .int k (l : Int)) ∧ K (.string (s.extract l h))
structure LoadVC (h : Heap) (v : Value) (n : Option Nat) (K : Value → Prop) : Prop where
  ofOut ::
  out : ∃ a, v = .pointer (some a) ∧ match n with
    | none => ∃ c, hcell h a = some c ∧ K c
    | some n => ∃ cs : List Value, cs.length = n ∧ (∀ j u, cs[j]? = some u → hcell h (a.add j) = some u) ∧ K (.agg cs.toArray)
structure NilVC (v : Value) (ng : Bool) (K : Value → Prop) : Prop where
  ofOut ::
  out : ∃ a, ∃ n c : Nat, v = .slice a n c ∧ K (.bool (bif ng then !a.isNone else a.isNone))
structure IfNilVC (v : Value) (ng : Bool) (K : Value → Prop) : Prop where
  ofOut ::
  out : ∃ b : Bool, ((v = .nilIface ∧ b = true) ∨ ((∃ t u, v = .iface t u) ∧ b = false)) ∧ K (.bool (bif ng then !b else b))
structure ArrVC (len sz : Nat) (n : Option Nat) (x i : Value) (K : Value → Prop) : Prop where
  ofOut ::
  out : ∃ cs ki, ∃ k : Nat, x = .agg cs ∧ i = .int ki (k : Int) ∧ k < len ∧ match n with
    | none => ∃ u, cs.toList[k * sz]? = some u ∧ K u
    | some n => K (.agg ((cs.toList.drop (k * sz)).take n).toArray)
structure IdxAVC (len sz : Nat) (x i : Value) (K : Value → Prop) : Prop where
  ofOut ::
  out : ∃ b o ki, ∃ k : Nat, x = .pointer (some ⟨b, o, none⟩) ∧ i = .int ki (k : Int) ∧ k < len ∧ K (.pointer (some ⟨b, o + k * sz, none⟩))
def hput (h : Heap) (b : Nat) (c : List Value) (t : TypeId) : Heap := h.setIfInBounds b (.cells c.toArray t (0, 0))
def spl (C : List Value) (o : Nat) (l : List Value) : List Value := C.take o ++ l ++ C.drop (o + l.length)
structure StoreVC (h : Heap) (n : Nat) (v x : Value) (K : Heap → Prop) : Prop where
  ofOut ::
  out : ∃ b o C T, v = .pointer (some ⟨b, o, none⟩) ∧ h[b]? = some (.cells C T (0, 0)) ∧ x.cells.size = n ∧ o + n ≤ C.size ∧ (∀ u ∈ x.cells.toList, u.oneCell' = true) ∧
    K (hput h b (spl C.toList o x.cells.toList) T)
structure AllocVC (h : Heap) (cells : Array Value) (t : TypeId) (K : Value → Heap → Prop) : Prop where
  ofOut ::
  out : K (.pointer (some ⟨h.size, 0, none⟩)) (h.push (.cells cells t))
structure RowVC (h : Heap) (cells : List Value) (t : TypeId) (n : Nat) (K : Value → Heap → Prop) : Prop where
  ofOut ::
  out : K (.slice (some ⟨h.size, 0, none⟩) n n) (h.push (.cells cells.toArray t))
structure MkVC (h : Heap) (e : TypeId) (sz bytes : Nat) (zero : List Value) (l c : Value) (K : Value → Heap → Prop) : Prop where
  ofOut ::
  out : ∃ n m : Nat, ∃ k k', l = .int k (n : Int) ∧ c = .int k' (m : Int) ∧ n ≤ m ∧ m ≤ maxLen ∧ m * bytes ≤ 281474976710656 ∧
    ∀ C : List Value, C.length = m * sz → (∀ i, i < m * sz → C[i]? = zero[i % zero.length]?) → K (.slice (some ⟨h.size, 0, none⟩) n m) (h.push (.cells C.toArray e))
/-- The cells 'xs' lie in a row from here on. -/
def RowAt (h : Heap) (a : Option Addr) (xs : List Value) : Prop := match a with
  | none => xs = []
  | some a => ∀ j u, xs[j]? = some u → hcell h (a.add j) = some u
structure AppVC (h : Heap) (e : TypeId) (sz bytes : Nat) (v x : Value) (K : Value → Heap → Prop) : Prop where
  ofOut ::
  out : ∃ a n c b m cb, ∃ xs ys : List Value, v = .slice a n c ∧ x = .slice b m cb ∧ xs.length = n * sz ∧ ys.length = m * sz ∧ RowAt h a xs ∧ RowAt h b ys ∧
    n + m ≤ maxLen ∧ (n + m) * bytes ≤ 140737488355328 ∧ (∀ u ∈ ys, u.oneCell' = true) ∧
    (n + m ≤ c → (m = 0 ∧ K (.slice a n c) h) ∨ (∃ g o C T, a = some ⟨g, o, none⟩ ∧ h[g]? = some (.cells C T (0, 0)) ∧ o + (n + m) * sz ≤ C.size ∧
      K (.slice a (n + m) c) (hput h g (spl C.toList (o + n * sz) ys) T))) ∧
    (c < n + m → ∀ c', ∀ rest : List Value, n + m ≤ c' → c' ≤ maxLen → rest.length = (c' - (n + m)) * sz →
      K (.slice (some ⟨h.size, 0, none⟩) (n + m) c') (h.push (.cells (xs ++ ys ++ rest).toArray e)))
structure CopyVC (h : Heap) (sz : Nat) (d s : Value) (K : Value → Heap → Prop) : Prop where
  ofOut ::
  out : ∃ a n c b m cb, ∃ ys : List Value, d = .slice a n c ∧ s = .slice b m cb ∧ ys.length = min m n * sz ∧ RowAt h b ys ∧ (∀ u ∈ ys, u.oneCell' = true) ∧
    ((ys = [] ∧ K (.int .i64 (min m n : Nat)) h) ∨
     (∃ g o C T, a = some ⟨g, o, none⟩ ∧ h[g]? = some (.cells C T (0, 0)) ∧ o + ys.length ≤ C.size ∧ K (.int .i64 (min m n : Nat)) (hput h g (spl C.toList o ys) T)))
structure ClearVC (h : Heap) (sz : Nat) (zero : List Value) (v : Value) (K : Heap → Prop) : Prop where
  ofOut ::
  out : ∃ a, ∃ n c : Nat, v = .slice a n c ∧ ((n = 0 ∧ K h) ∨
    (∃ g o C T, a = some ⟨g, o, none⟩ ∧ h[g]? = some (.cells C T (0, 0)) ∧ o + n * sz ≤ C.size ∧ zero.length = sz ∧ (∀ u ∈ zero, u.oneCell' = true) ∧
      K (hput h g (spl C.toList o (List.replicate n zero).flatten) T)))
/-- the string of bytes -/
def bstr (ns : List Int) : ByteArray := ns.foldl (fun r n => r.push (UInt8.ofNat n.toNat)) ByteArray.empty
structure BstrVC (h : Heap) (v : Value) (K : Value → Prop) : Prop where
  ofOut ::
  out : ∃ a n c, ∃ ns : List Int, v = .slice a n c ∧ ns.length = n ∧ RowAt h a (ns.map (Value.int .u8)) ∧ K (.string (bstr ns))
structure CondVC (v : Value) (A B : Prop) : Prop where
  ofOut ::
  out : ∃ b, v = .bool b ∧ (b = true → A) ∧ (b = false → B)
structure SplitVC (v : Value) (F : Bool → Prop) (G : Prop) : Prop where
  ofOut ::
  out : (∃ b, v = .bool b ∧ (b = true → F true) ∧ (b = false → F false)) ∨ ((∀ b, v ≠ .bool b) ∧ G)

/-- Are the cells of two structs equal? 'true' in the list of kinds: a number, 'false': a bool. -/
def eqC : List Bool → List Value → List Value → Option Bool
  | [], [], [] => some true
  | true :: ks, .int k a :: r, .int k' b :: s => if k = k' then (eqC ks r s).map (a == b && ·) else none
  | false :: ks, .bool a :: r, .bool b :: s => (eqC ks r s).map (a == b && ·)
  | _, _, _ => none
structure EqsVC (ng : Bool) (ks : List Bool) (u v : Value) (K : Value → Prop) : Prop where
  ofOut ::
  out : ∃ a b r, u = .agg a ∧ v = .agg b ∧ eqC ks a.toList b.toList = some r ∧ K (.bool (bif ng then !r else r))

/-! ### Operations -/
inductive POp where
  | mv (x : Operand)
  | pick (c a b : Operand)
  | bin (op : BinOp) (x y : Operand)
  | eqb (ng : Bool) (x y : Operand)
  | eqs (ng : Bool) (ks : List Bool) (x y : Operand)
  | bnot (x : Operand)
  | ineg (x : Operand)
  | conv (k : IntKind) (x : Operand)
  | field (off : Nat) (n : Option Nat) (x : Operand)
  | build (zero : List Value) (parts : List (Nat × Nat × Operand))
  | fieldAddr (off : Nat) (x : Operand)
  | idx (sz : Nat) (x i : Operand)
  | sidx (x i : Operand)
  | len (x : Operand)
  | slen (x : Operand)
  | isnil (ng : Bool) (x : Operand)
  | ifnil (ng : Bool) (x : Operand)
  | arr (m sz : Nat) (n : Option Nat) (x i : Operand)
  | idxA (m sz : Nat) (x i : Operand)
  | min2 (x y : Operand)
  | max2 (x y : Operand)
  | mkfn (fn : Fn) (first captured : List Operand)
  | nilc (x : Operand)
  | slc (sz : Nat) (x : Operand) (lo hi mx : Option Operand)
  | sslc (x : Operand) (lo hi : Option Operand)
  | ext (i : Nat) (x : Operand)

def segVC (ρ : Operand → Value) : List (Nat × Nat × Operand) → List Value → (List Value → Prop) → Prop
  | [], acc, K => K acc
  | (off, n, x) :: r, acc, K => match ρ x with
    | .agg cs => cs.size = n ∧ segVC ρ r (spl acc off cs.toList) K
    | .int k a => n = 1 ∧ segVC ρ r (acc.set off (.int k a)) K
    | .bool b => n = 1 ∧ segVC ρ r (acc.set off (.bool b)) K
    | .string s => n = 1 ∧ segVC ρ r (acc.set off (.string s)) K
    | .slice a m c => n = 1 ∧ segVC ρ r (acc.set off (.slice a m c)) K
    | .pointer a => n = 1 ∧ segVC ρ r (acc.set off (.pointer a)) K
    | _ => False

def binVC (op : BinOp) (x y : Value) (K : Value → Prop) : Prop := match x, y with
  | .int k a, .int k' b => match op with
    | .add => ArithVC k k' (a + b) K
    | .sub => ArithVC k k' (a - b) K
    | .mul => ArithVC k k' (a * b) K
    | .quo => QuoVC false k k' a b K
    | .rem => QuoVC true k k' a b K
    | .eql => match k, k' with | .i64, .i64 => K (.bool (a == b)) | k, k' => CmpVC k k' (a == b) K
    | .neq => match k, k' with | .i64, .i64 => K (.bool (a != b)) | k, k' => CmpVC k k' (a != b) K
    | .lss => match k, k' with | .i64, .i64 => K (.bool (decide (a < b))) | k, k' => CmpVC k k' (decide (a < b)) K
    | .leq => match k, k' with | .i64, .i64 => K (.bool (decide (a ≤ b))) | k, k' => CmpVC k k' (decide (a ≤ b)) K
    | .gtr => match k, k' with | .i64, .i64 => K (.bool (decide (a > b))) | k, k' => CmpVC k k' (decide (a > b)) K
    | .geq => match k, k' with | .i64, .i64 => K (.bool (decide (a ≥ b))) | k, k' => CmpVC k k' (decide (a ≥ b)) K
    | .shl => ShiftVC true k a b K
    | .shr => ShiftVC false k a b K
    | op => BitsVC op k k' a b K
  | .string a, .string b => match op with
    | .eql => K (.bool (a.toList == b.toList))
    | .neq => K (.bool !(a.toList == b.toList))
    | .add => CatVC a b K
    | _ => False
  | _, _ => False

def POp.wp (p : POp) (ρ : Operand → Value) (K : Value → Prop) : Prop := match p with
  | .mv x => K (ρ x)
  | .pick c a b => match ρ c with
    | .bool true => K (ρ a)
    | .bool false => K (ρ b)
    | _ => False
  | .bin op x y => binVC op (ρ x) (ρ y) K
  | .eqb ng x y => match ρ x, ρ y with
    | .bool a, .bool b => K (.bool (bif ng then a != b else a == b))
    | _, _ => False
  | .eqs ng ks x y => EqsVC ng ks (ρ x) (ρ y) K
  | .bnot x => match ρ x with
    | .bool b => K (.bool !b)
    | _ => False
  | .ineg x => match ρ x with
    | .int k a => ArithVC k k (0 - a) K
    | _ => False
  | .conv k x => match ρ x with
    | .int _ a => K (.int k (k.wrap a))
    | _ => False
  | .field off n x => match ρ x with
    | .agg cs => match n with
      | none => match cs.toList.drop off with
        | u :: _ => K u
        | [] => False
      | some n => K (.agg ((cs.toList.drop off).take n).toArray)
    | _ => False
  | .build zero parts => segVC ρ parts zero (fun cs => K (.agg cs.toArray))
  | .fieldAddr off x => match ρ x with
    | .pointer (some ⟨b, o, none⟩) => K (.pointer (some ⟨b, o + off, none⟩))
    | _ => False
  | .idx sz x i => IdxVC sz (ρ x) (ρ i) K
  | .sidx x i => StrIdxVC (ρ x) (ρ i) K
  | .len x => LenVC (ρ x) K
  | .slen x => match ρ x with
    | .string s => K (.int .i64 (s.size : Int))
    | _ => False
  | .isnil ng x => NilVC (ρ x) ng K
  | .ifnil ng x => IfNilVC (ρ x) ng K
  | .arr m sz n x i => ArrVC m sz n (ρ x) (ρ i) K
  | .idxA m sz x i => IdxAVC m sz (ρ x) (ρ i) K
  | .min2 x y => match ρ x, ρ y with
    | .int k a, .int _ b => K (.int k (if b < a then b else a))
    | _, _ => False
  | .max2 x y => match ρ x, ρ y with
    | .int k a, .int _ b => K (.int k (if b > a then b else a))
    | _, _ => False
  | .mkfn fn first cap => K (.func fn (first.map ρ).toArray (cap.map ρ).toArray)
  | .nilc x => match ρ x with
    | .pointer (some a) => K (.pointer (some a))
    | .func (.func f) a b => K (.func (.func f) a b)
    | _ => False
  | .slc sz x lo hi mx => SlcVC sz (ρ x) (lo.map ρ) (hi.map ρ) (mx.map ρ) K
  | .sslc x lo hi => StrSlcVC (ρ x) (lo.map ρ) (hi.map ρ) K
  | .ext i x => match ρ x with
    | .tuple vs => match vs.toList.drop i with
      | u :: _ => K u
      | [] => False
    | _ => False

inductive EOp where
  | new (t : TypeId) (zero : List Value)
  | box (t : TypeId) (x : Operand)
  | row (t : TypeId) (n : Nat) (zero : List Value) (parts : List (Nat × Nat × Operand))
  | store (n : Nat) (a x : Operand)
  | mk (e : TypeId) (sz bytes : Nat) (zero : List Value) (l c : Operand)
  | app (e : TypeId) (sz bytes : Nat) (s x : Operand)
  | copy (sz : Nat) (d s : Operand)
  | clear (sz : Nat) (zero : List Value) (x : Operand)
  | bstr (x : Operand)
  | fail
  | call (f : FuncId) (args : List Operand)
  | callv (f : Operand) (args : List Operand)

def EOp.wp (P : Program) (e : EOp) (ρ : Operand → Value) (h : Heap) (K : Value → Heap → Prop) : Prop := match e with
  | .new t zero => AllocVC h zero.toArray t K
  | .box t x => AllocVC h (ρ x).cells t K
  | .row t n zero parts => segVC ρ parts zero (fun cs => RowVC h cs t n K)
  | .store n a x => StoreVC h n (ρ a) (ρ x) (fun h' => K undef h')
  | .mk e sz bytes zero l c => MkVC h e sz bytes zero (ρ l) (ρ c) K
  | .app e sz bytes s x => AppVC h e sz bytes (ρ s) (ρ x) K
  | .copy sz d s => CopyVC h sz (ρ d) (ρ s) K
  | .clear sz zero x => ClearVC h sz zero (ρ x) (fun h' => K (.tuple #[]) h')
  | .bstr x => BstrVC h (ρ x) (fun v => K v h)
  | .fail => False
  | .call f args => CallsH P f (args.map ρ) h K
  | .callv f args => match ρ f with
    | .func (.func g) first cap => CallsH P g (first.toList ++ args.map ρ ++ cap.toList) h K
    | _ => False

inductive MOp where
  | pure (p : POp)
  | load (n : Option Nat) (a : Operand)
  | eff (e : EOp)

def MOp.wp (P : Program) (m : MOp) (ρ : Operand → Value) (h : Heap) (K : Value → Heap → Prop) : Prop := match m with
  | .pure p => p.wp ρ (fun v => K v h)
  | .load n a => LoadVC h (ρ a) n (fun v => K v h)
  | .eff e => e.wp P ρ h K

end Go.Vc
