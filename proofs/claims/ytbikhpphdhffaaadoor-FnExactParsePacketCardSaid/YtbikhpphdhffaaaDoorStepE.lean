/- Steps for bytes of strings, parts of strings, errors. Condition: none. -/
import Derived.Test.YtbikhpphdhffaaaDoorDl
import Derived.Test.YtbikhpphdhffaaaDoorStepD
namespace Go.Proofs.YtbikhpphdhffaaaDoor
open Go.Vc
set_option linter.all false
theorem bsize (s : ByteArray) : s.data.toList.length = s.size := Array.length_toList
theorem sidx_vc {s : ByteArray} {i : Int} {k : Nat} {x : UInt8} {K : Value → Prop} (hi : i = (k : Int)) (hx : s.data.toList[k]? = some x) (q : K (.int .u8 (x.toNat : Int))) : StrIdxVC (.string s) (.int .i64 i) K := by
  subst hi; exact ⟨s, .i64, k, x, rfl, rfl, hx, q⟩
theorem extract_tx (s : ByteArray) (a b : Nat) : s.extract a b = tx ((s.data.toList.drop a).take (b - a)) := by
  apply ByteArray.ext
  rw [ByteArray.data_extract, tx]
  apply Array.toList_inj.1
  simp [Array.toList_extract, List.extract_eq_take_drop]
theorem sslc_vc {s : ByteArray} {a b : Nat} {i j : Int} {K : Value → Prop} (hi : i = (a : Int)) (hj : j = (b : Int)) (h1 : a ≤ b) (h2 : b ≤ s.size) (q : K (.string (tx ((s.data.toList.drop a).take (b - a))))) : StrSlcVC (.string s) (some (.int .i64 i)) (some (.int .i64 j)) K := by
  subst hi; subst hj
  exact ⟨s, a, b, rfl, h1, h2, ⟨.i64, rfl⟩, ⟨.i64, rfl⟩, by rw [extract_tx]; exact q⟩
theorem sslc_end {s : ByteArray} {a : Nat} {i : Int} {K : Value → Prop} (hi : i = (a : Int)) (h1 : a ≤ s.size) (q : K (.string (tx (s.data.toList.drop a)))) : StrSlcVC (.string s) (some (.int .i64 i)) none K := by
  subst hi
  refine ⟨s, a, s.size, rfl, h1, Nat.le_refl _, rfl, ⟨.i64, rfl⟩, ?_⟩
  rw [extract_tx, List.take_of_length_le (by rw [List.length_drop, bsize]; omega)]
  exact q
theorem arith_u8 {n : Int} {K : Value → Prop} (h : 0 ≤ n ∧ n ≤ 255) (q : K (.int .u8 n)) : ArithVC .u8 .u8 n K := by
  refine ⟨rfl, ?_⟩
  have : IntKind.u8.wrap n = n := by rw [IntKind.wrap_u8]; omega
  rw [this]; exact q
theorem ifnil_at {l : List UInt8} {T : TypeId} {p : Value} {ng : Bool} {K : Value → Prop} (q : K (.bool (bif ng then !(atOk l) else atOk l))) : IfNilVC (atErr l T p) ng K := by
  refine ⟨atOk l, ?_, q⟩
  unfold atErr
  cases h : atOk l
  · right; exact ⟨⟨T, p, by simp⟩, rfl⟩
  · left; exact ⟨by simp, rfl⟩
end Go.Proofs.YtbikhpphdhffaaaDoor
