/- How long an argument may be. Condition: none. -/
import Derived.Test.YtloicopmcagikaaBase12
import Derived.SizedLaws
namespace Go.Vc
set_option linter.all false
theorem arg_len {P : Program} {t e : TypeId} (ht : P.underlying t = some (.slice e)) (hb : P.bytesOf e = 1) {H : Type} {enc : TypeId × Value → H} {w : World} {base : Nat} {held : Bool} {v : Value} {d : DataW H} {ps : List MemPlace} {α : Type} [Enc α] {xs : List α}
    (h : DataW.Trod enc P w base (fun _ => true) held t v d ps) (s : Sl w.heap v xs) {ts : List TypeId} {ds : List (DataW H)} {j : Nat} (htj : ts[j]? = some t) (hdj : ds[j]? = some d) (hz : (DataW.weightsEach P ts ds).all (· ≤ reachBytes) = true) : xs.length ≤ 140737488351232 := by
  obtain ⟨fuel, hf⟩ := h
  obtain ⟨a', c', rfl, _⟩ := s
  rcases DataW.trod_slice ht hf with ⟨hc, _⟩ | ⟨a, len, cap, elems, rest, n, _, hc, hx, _, _, _, hl, _⟩
  · simp [Value.cells] at hc
    obtain ⟨_, h1, _⟩ := hc
    subst h1; simp
  · simp [Value.cells] at hc
    obtain ⟨_, h1, _⟩ := hc
    have hd : d = .slice (elems.map (·.1)) (rest.map (·.1)) := congrArg Prod.fst hx
    subst hd
    have q := sized_slice hz htj hdj ht
    rw [hb, List.length_map, List.length_map, hl] at q
    unfold reachBytes at q
    omega
end Go.Vc
