/- What functions return: shapes of results. Condition: none. -/
import Derived.Test.YtbikhpphdhffaaaGreatDoorDeep1
namespace Go.Vc
/-- The environment may be forgotten but for what is named. -/
theorem vcOps_re {P : Program} {l : List MStep} {E : Env} {h : Heap} {K : Env → Heap → Prop} (slots : List (Nat × Value)) (he : AllEq E slots) (hk : ∀ R : Env, vcOps P l (R.puts slots) h K) : vcOps P l E h K := by
  have := hk E
  rwa [puts_self E slots he] at this
/-- A region that ends alike on all its ways. -/
theorem DrawVC.cut {P : Program} {t : DTree} {E : Env} {h : Heap} {K : Env → Heap → Prop} {α : Type} (bs : List Nat) (slots : α → List (Nat × Value)) (I : α → Heap → Prop)
    (hd : vcDraw P (fun h' => ∀ b ∈ bs, h'[b]? = h[b]?) t E h (fun E' h' => ∃ g, AllEq E' (slots g) ∧ I g h')) (hk : ∀ g (R : Env) h', I g h' → K (R.puts (slots g)) h') : DrawVC P t E h K := by
  refine ⟨_, fun _ _ => rfl, draw_mono P _ (fun E' h' => ?_) t E h hd⟩
  rintro ⟨g, he, hi⟩
  have := hk g E' h' hi
  rwa [puts_self E' (slots g) he] at this
/-- a new slice and a bool -/
def SlB {α : Type} [Enc α] (h h' : Heap) (v : Value) (o : List α × Bool) : Prop := ∃ r, v = .tuple #[r, .bool o.2] ∧ SlO h' r o.1 ∧ Ext h h' ∧ Fr h.size r
theorem SlB.mk {α : Type} [Enc α] {h h' : Heap} {r : Value} {o : List α × Bool} {ys : List α} {b : Bool} (ho : o = (ys, b)) (hs : SlO h' r ys) (e : Ext h h') (f : Fr h.size r) : SlB h h' (.tuple #[r, .bool b]) o := by
  subst ho; exact ⟨r, rfl, hs, e, f⟩
/-- a new slice, a number and a bool -/
def SlIB {α : Type} [Enc α] (h h' : Heap) (v : Value) (o : List α × Int × Bool) : Prop := ∃ r, v = .tuple #[r, .int .i64 o.2.1, .bool o.2.2] ∧ SlO h' r o.1 ∧ Ext h h' ∧ Fr h.size r
theorem SlIB.mk {α : Type} [Enc α] {h h' : Heap} {r : Value} {o : List α × Int × Bool} {ys : List α} {a : Int} {b : Bool} (ho : o = (ys, a, b)) (hs : SlO h' r ys) (e : Ext h h') (f : Fr h.size r) : SlIB h h' (.tuple #[r, .int .i64 a, .bool b]) o := by
  subst ho; exact ⟨r, rfl, hs, e, f⟩
def IB (h h' : Heap) (v : Value) (o : Int × Bool) : Prop := v = .tuple #[.int .i64 o.1, .bool o.2] ∧ Ext h h'
theorem IB.mk {h h' : Heap} {o : Int × Bool} {a : Int} {b : Bool} (ho : o = (a, b)) (e : Ext h h') : IB h h' (.tuple #[.int .i64 a, .bool b]) o := by subst ho; exact ⟨rfl, e⟩
/-- a new slice -/
def SlN {α : Type} [Enc α] (h h' : Heap) (v : Value) (o : List α) : Prop := SlO h' v o ∧ Ext h h' ∧ Fr h.size v

theorem rep_snoc {α : Type} (k : Nat) (z : α) : List.replicate (k + 1) z = List.replicate k z ++ [z] := List.replicate_succ'
/-- a test of all elements, one by one -/
theorem all_step {α : Type} {p : α → Prop} {xs : List α} {k : Nat} (hk : k < xs.length) (h : ∀ x ∈ xs.take k, p x) (hx : p xs[k]) : ∀ x ∈ xs.take (k + 1), p x := by
  intro x hm
  rw [List.take_succ_eq_append_getElem hk] at hm
  rcases List.mem_append.1 hm with hm | hm
  · exact h x hm
  · simp at hm; subst hm; exact hx
theorem take_snoc {α : Type} {xs : List α} {k : Nat} (hk : k < xs.length) : xs.take (k + 1) = xs.take k ++ [xs[k]] := List.take_succ_eq_append_getElem hk
end Go.Vc
