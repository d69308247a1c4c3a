/- A cursor: a variable of a row of bytes, a place and a seed, that each draw changes. Condition: none. -/
import Derived.Test.YtbikhpphdhffaaaGreatDoorStep2
namespace Go.Vc
set_option linter.all false
structure Cur (h : Heap) (p : Nat) (t : TypeId) (m : Int) (lo : Nat) : Prop where
  out : ∃ (vc : Value) (code : List By) (at_ sd : Int), Bx h p [vc, .int .i64 at_, .int .u64 sd] t ∧ Sl h vc code ∧ (∀ b ∈ blks vc, b < lo) ∧ 0 ≤ at_ ∧ at_ ≤ m ∧ ∀ y ∈ code, 0 ≤ y.n ∧ y.n ≤ 255
  low : lo ≤ p
theorem Cur.mk2 {h : Heap} {p : Nat} {t : TypeId} {m : Int} {lo : Nat} {vc : Value} {code : List By} {at_ sd : Int} (bx : Bx h p [vc, .int .i64 at_, .int .u64 sd] t) (s : Sl h vc code) (hcl : ∀ b ∈ blks vc, b < lo) (hby : ∀ y ∈ code, 0 ≤ y.n ∧ y.n ≤ 255) (hat : 0 ≤ at_ ∧ at_ ≤ m) (hlo : lo ≤ p) : Cur h p t m lo :=
  ⟨⟨vc, code, at_, sd, bx, s, hcl, hat.1, hat.2, hby⟩, hlo⟩
theorem Cur.lt {h : Heap} {p : Nat} {t : TypeId} {m : Int} {lo : Nat} (C : Cur h p t m lo) : p < h.size := by
  obtain ⟨_, _, _, _, bx, _⟩ := C.out; exact bx.lt
theorem Cur.top {h : Heap} {p : Nat} {t : TypeId} {m : Int} {lo : Nat} (C : Cur h p t m lo) : 0 ≤ m := by
  obtain ⟨_, _, _, _, _, _, _, h0, h1, _⟩ := C.out; omega
theorem Cur.le {h : Heap} {p : Nat} {t : TypeId} {m m' : Int} {lo : Nat} (C : Cur h p t m lo) (hm : m ≤ m') : Cur h p t m' lo := by
  obtain ⟨vc, code, at_, sd, bx, s, h1, h2, h3, h4⟩ := C.out
  exact ⟨⟨vc, code, at_, sd, bx, s, h1, h2, by omega, h4⟩, C.low⟩
theorem Cur.ext {h h' : Heap} {p : Nat} {t : TypeId} {m : Int} {lo : Nat} (C : Cur h p t m lo) (e : Ext h h') : Cur h' p t m lo := by
  obtain ⟨vc, code, at_, sd, bx, s, h1, h2, h3, h4⟩ := C.out
  exact ⟨⟨vc, code, at_, sd, bx.ext e, s.ext e, h1, h2, h3, h4⟩, C.low⟩
theorem Cur.mod {h h' : Heap} {p : Nat} {t : TypeId} {m : Int} {lo : Nat} (C : Cur h p t m lo) {bs : List Nat} (e : Mod bs h h') (hp : p ∉ bs) (hl : ∀ b ∈ bs, lo ≤ b) : Cur h' p t m lo := by
  obtain ⟨vc, code, at_, sd, bx, s, h1, h2, h3, h4⟩ := C.out
  exact ⟨⟨vc, code, at_, sd, bx.mod e hp, s.mod e (fun b hb hc => by have := h1 b hb; have := hl b hc; omega), h1, h2, h3, h4⟩, C.low⟩
theorem bits_255 (a : Int) : 0 ≤ bits .and .u64 a 255 ∧ bits .and .u64 a 255 ≤ 255 := by
  have h : (BitVec.ofInt 64 a &&& BitVec.ofInt 64 255).toNat ≤ 255 := by
    rw [BitVec.toNat_and]
    have e : (BitVec.ofInt 64 255).toNat = 255 := by decide
    rw [e]; exact Nat.and_le_right
  have e : bits .and .u64 a 255 = IntKind.u64.wrap ((BitVec.ofInt 64 a &&& BitVec.ofInt 64 255).toNat : Int) := rfl
  rw [e]
  generalize (BitVec.ofInt 64 a &&& BitVec.ofInt 64 255).toNat = n at h
  have : IntKind.u64.wrap (n : Int) = n := by
    simp [IntKind.wrap, IntKind.bits, IntKind.signed]
    omega
  omega
theorem bits_64 (a : Int) : -9223372036854775808 ≤ bits .and .u64 a 255 ∧ bits .and .u64 a 255 ≤ 9223372036854775807 := by
  have := bits_255 a; omega
theorem emod_in (a : Int) {n : Int} (h : 0 < n) : 0 ≤ a % n ∧ (a % n < n ∨ a % n = 0) :=
  ⟨Int.emod_nonneg a (by omega), .inl (Int.emod_lt_of_pos a h)⟩
theorem gmod1 {l : List Nat} {h h' h0 : Heap} {b : Nat} (m : Mod l h h') (hb : b < h.size) (hn : b ∉ l) (G : ∀ x ∈ [b], h[x]? = h0[x]?) : ∀ x ∈ [b], h'[x]? = h0[x]? := fun x hx => by
  obtain rfl := List.mem_singleton.1 hx
  exact (m.blk x hb hn).trans (G x hx)
theorem gext1 {h h' h0 : Heap} {b : Nat} (e : Ext h h') (hb : b < h.size) (G : ∀ x ∈ [b], h[x]? = h0[x]?) : ∀ x ∈ [b], h'[x]? = h0[x]? := fun x hx => by
  obtain rfl := List.mem_singleton.1 hx
  exact (e.blk x hb).trans (G x hx)
end Go.Vc
