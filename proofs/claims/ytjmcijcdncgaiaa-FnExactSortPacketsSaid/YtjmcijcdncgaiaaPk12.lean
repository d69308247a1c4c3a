/- Stable sorting of packets: plain parts, the code. Condition: none. Printed in part by a program. -/
import Derived.Test.YtjmcijcdncgaiaaPk11
import Derived.Test.YtjmcijcdncgaiaaPk5
namespace Go.Proofs.Ytjmcijcdncgaiaa
open Go.Vc
set_option linter.all false

theorem symMerge_all : ∀ (N : Nat) (v_l : Value) (l : List Pk) (a m b : Int) (h : Heap), (b - a).toNat = N → SlO h v_l l → 0 ≤ a → a < m → m < b → b ≤ (l.length : Int) → l.length ≤ 1000000 → SoOn pkKey l a.toNat m.toNat → SoOn pkKey l m.toNat b.toNat →
    Cn f_slices_symMergeCmpFunc_impl_Packet [v_l, .int .i64 a, .int .i64 m, .int .i64 b, .func (.func 66) #[] #[]] h fun v h' => v = .tuple #[] ∧ ∃ l_ : List Pk, SlO h' v_l l_ ∧ Mod (blks v_l) h h' ∧ (Like pkKey l l_ a.toNat b.toNat ∧ SoOn pkKey l_ a.toNat b.toNat) := by
  intro N
  induction N using Nat.strongRecOn with
  | _ N ih =>
    intro v_l l a m b h hN s h0 h1 h2 h3 bl hA hB
    exact slices_symMergeCmpFunc_impl_Packet_ok v_l l a m b h s N hN h0 h1 h2 h3 bl hA hB (fun v l a m b h hlt s h0 h1 h2 h3 bl hA hB => ih _ hlt v l a m b h rfl s h0 h1 h2 h3 bl hA hB)
theorem symMerge_ok (v_l : Value) (l : List Pk) (a m b : Int) (h : Heap) (s : SlO h v_l l) (h0 : 0 ≤ a) (h1 : a < m) (h2 : m < b) (h3 : b ≤ (l.length : Int)) (bl : l.length ≤ 1000000) (hA : SoOn pkKey l a.toNat m.toNat) (hB : SoOn pkKey l m.toNat b.toNat) :
    Cn f_slices_symMergeCmpFunc_impl_Packet [v_l, .int .i64 a, .int .i64 m, .int .i64 b, .func (.func 66) #[] #[]] h fun v h' => v = .tuple #[] ∧ ∃ l_ : List Pk, SlO h' v_l l_ ∧ Mod (blks v_l) h h' ∧ (Like pkKey l l_ a.toNat b.toNat ∧ SoOn pkKey l_ a.toNat b.toNat) := symMerge_all _ v_l l a m b h rfl s h0 h1 h2 h3 bl hA hB


theorem like_so {d d' : List Pk} {a b u v : Nat} (L : Like pkKey d d' a b) (h : SoOn pkKey d u v) (hd : v ≤ a ∨ b ≤ u) : SoOn pkKey d' u v := h.same (fun i i1 i2 => L.out i (by omega)) (Nat.le_refl _) (Nat.le_refl _)
theorem stA_in {l ll q : List Pk} {a b n : Int} (hn : n = (l.length : Int)) (bl : l.length ≤ 40) (hb : b = a + 20) (ha : a = 0 ∨ a = 20 ∨ a = 40) (hc : b ≤ n) (hL : Like pkKey l ll 0 l.length) (s1 : 20 ≤ a → SoOn pkKey ll 0 20) (s2 : 40 ≤ a → SoOn pkKey ll 20 40)
    (hp : Like pkKey ll q a.toNat b.toNat ∧ SoOn pkKey q a.toNat b.toNat) : b + 20 = b + 20 ∧ (b = 0 ∨ b = 20 ∨ b = 40) ∧ b ≤ n ∧ Like pkKey l q 0 l.length ∧ (20 ≤ b → SoOn pkKey q 0 20) ∧ (40 ≤ b → SoOn pkKey q 20 40) := by
  have hL2 : Like pkKey l q 0 l.length := hL.trans (hp.1.wide (by omega) (by omega))
  refine ⟨rfl, by omega, hc, hL2, fun _ => ?_, fun h4 => ?_⟩
  · rcases ha with rfl | rfl | rfl
    · have := hp.2; subst hb; exact this
    · exact like_so hp.1 (s1 (by omega)) (by left; decide)
    · exact like_so hp.1 (s1 (by omega)) (by left; decide)
  · rcases ha with rfl | rfl | rfl
    · omega
    · have := hp.2; subst hb; exact this
    · omega
theorem stA_out {l ll q : List Pk} {a b n : Int} (hn : n = (l.length : Int)) (bl : l.length ≤ 40) (hb : b = a + 20) (ha : a = 0 ∨ a = 20 ∨ a = 40) (han : a ≤ n) (hc : ¬ b ≤ n) (hL : Like pkKey l ll 0 l.length) (s1 : 20 ≤ a → SoOn pkKey ll 0 20) (s2 : 40 ≤ a → SoOn pkKey ll 20 40)
    (hp : Like pkKey ll q a.toNat n.toNat ∧ SoOn pkKey q a.toNat n.toNat) : Like pkKey l q 0 l.length ∧ (((20 : Int) = 20 ∧ SoOn pkKey q 0 (min 20 l.length) ∧ SoOn pkKey q 20 l.length) ∨ (n ≤ 20 ∧ (20 : Int) = 40 ∧ SoOn pkKey q 0 l.length)) := by
  have hL2 : Like pkKey l q 0 l.length := hL.trans (hp.1.wide (by omega) (by omega))
  have hn2 : n.toNat = l.length := by omega
  rw [hn2] at hp
  refine ⟨hL2, .inl ⟨rfl, ?_, ?_⟩⟩
  · rcases ha with rfl | rfl | rfl
    · exact hp.2.sub (Nat.le_refl _) (by omega)
    · exact (like_so hp.1 (s1 (by omega)) (by left; decide)).sub (Nat.le_refl _) (by omega)
    · exact (like_so hp.1 (s1 (by omega)) (by left; decide)).sub (Nat.le_refl _) (by omega)
  · rcases ha with rfl | rfl | rfl
    · exact hp.2.sub (by omega) (by omega)
    · exact hp.2
    · exact (like_so hp.1 (s2 (by omega)) (by left; decide)).sub (Nat.le_refl _) (by omega)
abbrev stC (l ll2 ll3 : List Pk) (bs a2 b2 n : Int) : Prop := (bs = 20 ∧ n = (l.length : Int) ∧ n ≤ 40 ∧ 20 < n) ∧ ll2.length = l.length ∧ Like pkKey ll2 ll3 0 l.length ∧ SoOn pkKey ll2 0 20 ∧ SoOn pkKey ll2 20 l.length ∧ ((a2 = 0 ∧ b2 = 40 ∧ ll3 = ll2) ∨ (a2 = 40 ∧ b2 = 80 ∧ n = 40 ∧ SoOn pkKey ll3 0 l.length))
theorem stC_0 {l ll2 : List Pk} {bs n : Int} (hn : n = (l.length : Int)) (bl : l.length ≤ 40) (hL : Like pkKey l ll2 0 l.length) (hc : bs < n) (h : (bs = 20 ∧ SoOn pkKey ll2 0 (min 20 l.length) ∧ SoOn pkKey ll2 20 l.length) ∨ (n ≤ bs ∧ bs = 40 ∧ SoOn pkKey ll2 0 l.length)) : stC l ll2 ll2 bs 0 (2 * bs) n := by
  rcases h with ⟨rfl, h1, h2⟩ | ⟨h1, h2, _⟩
  · exact ⟨⟨rfl, hn, by omega, hc⟩, hL.len, Like.refl _ _ _, h1.sub (Nat.le_refl _) (by omega), h2, .inl ⟨rfl, rfl, rfl⟩⟩
  · omega
theorem stC_A {l ll2 ll3 : List Pk} {bs a2 b2 n e : Int} (C : stC l ll2 ll3 bs a2 b2 n) (h : a2 + bs < n) : SoOn pkKey ll3 a2.toNat (a2 + bs).toNat := by
  obtain ⟨⟨rfl, hn, h4, h2⟩, _, hL, s1, s2, ⟨rfl, rfl, rfl⟩ | ⟨rfl, rfl, h5, s3⟩⟩ := C
  · exact s1
  · omega
theorem stC_B {l ll2 ll3 : List Pk} {bs a2 b2 n e : Int} (C : stC l ll2 ll3 bs a2 b2 n) (h : a2 + bs < n) (he : e ≤ n) : SoOn pkKey ll3 (a2 + bs).toNat e.toNat := by
  obtain ⟨⟨rfl, hn, h4, h2⟩, _, hL, s1, s2, ⟨rfl, rfl, rfl⟩ | ⟨rfl, rfl, h5, s3⟩⟩ := C
  · exact s2.sub (Nat.le_refl _) (by omega)
  · omega
theorem stC_in {l ll2 ll3 q : List Pk} {bs a2 b2 n : Int} (C : stC l ll2 ll3 bs a2 b2 n) (hc : b2 ≤ n) (hp : Like pkKey ll3 q a2.toNat b2.toNat ∧ SoOn pkKey q a2.toNat b2.toNat) : stC l ll2 q bs b2 (b2 + 2 * bs) n := by
  obtain ⟨⟨rfl, hn, h4, h2⟩, h6, hL, s1, s2, ⟨rfl, rfl, rfl⟩ | ⟨rfl, rfl, h5, s3⟩⟩ := C
  · have e : l.length = 40 := by omega
    rw [e] at hL s2
    exact ⟨⟨rfl, hn, h4, h2⟩, by omega, by rw [e]; exact hL.trans hp.1, s1, by rw [e]; exact s2, .inr ⟨rfl, rfl, by omega, by rw [e]; exact hp.2⟩⟩
  · omega
theorem stC_len {l ll2 ll3 : List Pk} {bs a2 b2 n : Int} (C : stC l ll2 ll3 bs a2 b2 n) : ll3.length = l.length ∧ bs = 20 ∧ n = (l.length : Int) ∧ n ≤ 40 ∧ ((a2 = 0 ∧ b2 = 40) ∨ (a2 = 40 ∧ b2 = 80)) := by
  obtain ⟨⟨rfl, hn, h4, h2⟩, h6, hL, s1, s2, ⟨rfl, rfl, rfl⟩ | ⟨rfl, rfl, h5, s3⟩⟩ := C
  · exact ⟨h6, rfl, hn, h4, .inl ⟨rfl, rfl⟩⟩
  · exact ⟨hL.len.trans h6, rfl, hn, h4, .inr ⟨rfl, rfl⟩⟩
theorem stB_y {l ll2 ll3 q : List Pk} {bs a2 b2 n : Int} (hL0 : Like pkKey l ll2 0 l.length) (C : stC l ll2 ll3 bs a2 b2 n) (hc : a2 + bs < n) (hp : Like pkKey ll3 q a2.toNat n.toNat ∧ SoOn pkKey q a2.toNat n.toNat) : Like pkKey l q 0 l.length ∧ ((bs * 2 = 20 ∧ SoOn pkKey q 0 (min 20 l.length) ∧ SoOn pkKey q 20 l.length) ∨ (n ≤ bs * 2 ∧ bs * 2 = 40 ∧ SoOn pkKey q 0 l.length)) := by
  obtain ⟨⟨rfl, hn, h4, h2⟩, h6, hL, s1, s2, ⟨rfl, rfl, rfl⟩ | ⟨rfl, rfl, h5, s3⟩⟩ := C
  · have e : n.toNat = l.length := by omega
    rw [e] at hp
    exact ⟨hL0.trans hp.1, .inr ⟨by omega, rfl, hp.2⟩⟩
  · omega
theorem stB_n {l ll2 ll3 : List Pk} {bs a2 b2 n : Int} (hL0 : Like pkKey l ll2 0 l.length) (C : stC l ll2 ll3 bs a2 b2 n) (hc : ¬ a2 + bs < n) : Like pkKey l ll3 0 l.length ∧ ((bs * 2 = 20 ∧ SoOn pkKey ll3 0 (min 20 l.length) ∧ SoOn pkKey ll3 20 l.length) ∨ (n ≤ bs * 2 ∧ bs * 2 = 40 ∧ SoOn pkKey ll3 0 l.length)) := by
  obtain ⟨⟨rfl, hn, h4, h2⟩, h6, hL, s1, s2, ⟨rfl, rfl, rfl⟩ | ⟨rfl, rfl, h5, s3⟩⟩ := C
  · omega
  · exact ⟨hL0.trans hL, .inr ⟨by omega, rfl, s3⟩⟩
theorem stB_end {l ll : List Pk} {bs n : Int} (hn : n = (l.length : Int)) (hc : ¬ bs < n) (h : (bs = 20 ∧ SoOn pkKey ll 0 (min 20 l.length) ∧ SoOn pkKey ll 20 l.length) ∨ (n ≤ bs ∧ bs = 40 ∧ SoOn pkKey ll 0 l.length)) : SoOn pkKey ll 0 l.length := by
  rcases h with ⟨rfl, h1, h2⟩ | ⟨h1, h2, h3⟩
  · exact h1.sub (Nat.le_refl _) (by omega)
  · exact h3

set_option maxRecDepth 10000 in
set_option maxHeartbeats 4000000 in
theorem slices_stableCmpFunc_impl_Packet_ok (v_l : Value) (l : List Pk) (n : Int) (h : Heap) (s_l : SlO h v_l l) (hn : n = (l.length : Int)) (bl : l.length ≤ 40) : Cn f_slices_stableCmpFunc_impl_Packet [v_l, .int .i64 n, .func (.func 66) #[] #[]] h fun v h' => v = .tuple #[] ∧ ∃ l_ : List Pk, SlO h' v_l l_ ∧ Mod (blks v_l) h h' ∧ (Like pkKey l l_ 0 l.length ∧ SoOn pkKey l_ 0 l.length) := by
  have lt_l := s_l.lt
  have l63_l := s_l.len63
  refine calls_of r_slices_stableCmpFunc_impl_Packet ?_
  refine v_seq ?_
  refine v_ops ?_
  refine s_pure (.int .i64 20) (fun _ q => q) ?_
  refine s_nil ?_
  refine p_seqN ?_
  refine v_seq ?_
  refine v_ops ?_
  refine s_pure (.int .i64 20) (fun _ q => q) ?_
  refine s_pure (.int .i64 0) (fun _ q => q) ?_
  refine s_pure (.int .i64 20) (fun _ q => q) ?_
  refine s_nil ?_
  refine p_seqN ?_
  refine v_seq ?_
  refine v_block ?_
  refine v_loop3 (α := Int) (β := Int) (γ := List Pk) (fun a b ll => [(0, v_l), (1, .int .i64 n), (2, .func (.func 66) #[] #[]), (6, .int .i64 20), (7, .int .i64 a), (8, .int .i64 b)]) (fun a b ll hh => Mod (blks v_l) h hh ∧ SlO hh v_l ll ∧ b = a + 20 ∧ (a = 0 ∨ a = 20 ∨ a = 40) ∧ a ≤ n ∧ Like pkKey l ll 0 l.length ∧ (20 ≤ a → SoOn pkKey ll 0 20) ∧ (40 ≤ a → SoOn pkKey ll 20 40)) (fun a b ll => (100 - b).toNat) 0 20 l ⟨rfl, rfl, rfl, rfl, rfl, rfl⟩ ⟨(Mod.refl (blks v_l) h), s_l, (by exact ⟨by omega, by omega, by omega, Like.refl _ _ _, fun hc => by omega, fun hc => by omega⟩)⟩ ?_
  rintro a b ll R2 h1 ⟨Eh, s_l, ⟨hb, ha, han, hL, s1, s2⟩⟩
  have zEh := Eh.size
  have lt_l := s_l.lt
  have hlen := hL.len
  refine v_seq ?_
  refine v_seq ?_
  refine v_ops ?_
  refine s_pure (.int .i64 b) (fun _ q => q) ?_
  refine s_pure (.int .i64 n) (fun _ q => q) ?_
  refine s_pure (.bool (decide (b ≤ n))) (fun _ q => q) ?_
  refine s_nil ?_
  refine p_seqN ?_
  refine v_cond rfl (fun c3 => ?_) (fun c3 => ?_)
  ·
    refine v_skip ?_
    refine p_seqN ?_
    refine v_block ?_
    refine v_seq ?_
    refine v_ops ?_
    refine s_pure v_l (fun _ q => q) ?_
    refine s_pure (.int .i64 a) (fun _ q => q) ?_
    refine s_pure (.int .i64 b) (fun _ q => q) ?_
    refine s_pure (.func (.func 66) #[] #[]) (fun _ q => q) ?_
    refine s_call [v_l, .int .i64 a, .int .i64 b, .func (.func 66) #[] #[]] rfl (slices_insertionSortCmpFunc_impl_Packet_ok v_l ll a b _ s_l (by omega) (by omega) (by omega) (by omega)) ?_
    rintro _ h4 ⟨rfl, q6, s5, mh4, hp7⟩
    have zh4 := mh4.size
    have hlq6 := hp7.1.len
    have E8 := Eh.new mh4 (fun b hb => Or.inl hb)
    refine s_nil ?_
    refine p_seqN ?_
    refine v_seq ?_
    refine v_ops ?_
    refine s_pure (.int .i64 b) (fun _ q => q) ?_
    refine s_pure (.int .i64 b) (fun _ q => q) ?_
    refine s_nil ?_
    refine p_seqN ?_
    refine v_ops ?_
    refine s_pure (.int .i64 b) (fun _ q => q) ?_
    refine s_pure (.int .i64 20) (fun _ q => q) ?_
    refine s_pure (.int .i64 (b + 20)) (fun _ q => ArithVC.mk (by omega) q) ?_
    refine s_pure (.int .i64 (b + 20)) (fun _ q => q) ?_
    refine s_nil ?_
    refine p_blkN ?_
    exact p_lpN ⟨b, (b + 20), q6, ⟨rfl, rfl, rfl, rfl, rfl, rfl⟩, ⟨E8, (sl_eq s5 rfl), (by (have hz := stA_in hn bl hb ha (by assumption) hL s1 s2 (by assumption)); exact ⟨by omega, hz.2⟩)⟩, by omega⟩
  ·
    refine v_exit ?_
    refine p_seqX ?_
    refine p_lpX ?_
    refine p_blkX ?_
    refine p_seqN ?_
    refine v_seq ?_
    refine v_ops ?_
    refine s_pure v_l (fun _ q => q) ?_
    refine s_pure (.int .i64 a) (fun _ q => q) ?_
    refine s_pure (.int .i64 n) (fun _ q => q) ?_
    refine s_pure (.func (.func 66) #[] #[]) (fun _ q => q) ?_
    refine s_call [v_l, .int .i64 a, .int .i64 n, .func (.func 66) #[] #[]] rfl (slices_insertionSortCmpFunc_impl_Packet_ok v_l ll a n _ s_l (by omega) (by omega) (by omega) (by omega)) ?_
    rintro _ h9 ⟨rfl, q11, s10, mh9, hp12⟩
    have zh9 := mh9.size
    have hlq11 := hp12.1.len
    have E13 := Eh.new mh9 (fun b hb => Or.inl hb)
    refine s_nil ?_
    refine p_seqN ?_
    refine v_block ?_
    refine v_loop2 (α := Int) (β := List Pk) (fun bs ll2 => [(0, v_l), (1, .int .i64 n), (2, .func (.func 66) #[] #[]), (6, .int .i64 bs)]) (fun bs ll2 hh => Mod (blks v_l) h hh ∧ SlO hh v_l ll2 ∧ Like pkKey l ll2 0 l.length ∧ ((bs = 20 ∧ SoOn pkKey ll2 0 (min 20 l.length) ∧ SoOn pkKey ll2 20 l.length) ∨ (n ≤ bs ∧ bs = 40 ∧ SoOn pkKey ll2 0 l.length))) (fun bs ll2 => (80 - bs).toNat) 20 q11 ⟨rfl, rfl, rfl, rfl⟩ ⟨E13, s10, (by exact stA_out hn bl hb ha han (by assumption) hL s1 s2 (by assumption))⟩ ?_
    rintro bs ll2 R15 h14 ⟨Eh, s_l, ⟨hL2, hB⟩⟩
    have zEh := Eh.size
    have lt_l := s_l.lt
    have hlen2 := hL2.len
    have hbs : bs = 20 ∨ bs = 40 := by (rcases hB with h | h); exact .inl h.1; exact .inr h.2.1
    refine v_seq ?_
    refine v_seq ?_
    refine v_ops ?_
    refine s_pure (.int .i64 bs) (fun _ q => q) ?_
    refine s_pure (.int .i64 n) (fun _ q => q) ?_
    refine s_pure (.bool (decide (bs < n))) (fun _ q => q) ?_
    refine s_nil ?_
    refine p_seqN ?_
    refine v_cond rfl (fun c16 => ?_) (fun c16 => ?_)
    ·
      refine v_skip ?_
      refine p_seqN ?_
      refine v_block ?_
      refine v_seq ?_
      refine v_ops ?_
      refine s_pure (.int .i64 bs) (fun _ q => q) ?_
      refine s_pure (.int .i64 (2 * bs)) (fun _ q => ArithVC.mk (by omega) q) ?_
      refine s_pure (.int .i64 0) (fun _ q => q) ?_
      refine s_pure (.int .i64 (2 * bs)) (fun _ q => q) ?_
      refine s_nil ?_
      refine p_seqN ?_
      refine v_seq ?_
      refine v_block ?_
      refine v_loop3 (α := Int) (β := Int) (γ := List Pk) (fun a2 b2 ll3 => [(0, v_l), (1, .int .i64 n), (2, .func (.func 66) #[] #[]), (6, .int .i64 bs), (7, .int .i64 a2), (8, .int .i64 b2)]) (fun a2 b2 ll3 hh => Mod (blks v_l) h hh ∧ SlO hh v_l ll3 ∧ stC l ll2 ll3 bs a2 b2 n) (fun a2 b2 ll3 => (200 - b2).toNat) 0 (2 * bs) ll2 ⟨rfl, rfl, rfl, rfl, rfl, rfl⟩ ⟨Eh, s_l, (by exact stC_0 hn bl hL2 (by assumption) hB)⟩ ?_
      rintro a2 b2 ll3 R18 h17 ⟨Eh, s_l, C⟩
      have zEh := Eh.size
      have lt_l := s_l.lt
      obtain ⟨hlen3, hbs2, hn3, hn4, hab⟩ := stC_len C
      refine v_seq ?_
      refine v_seq ?_
      refine v_ops ?_
      refine s_pure (.int .i64 b2) (fun _ q => q) ?_
      refine s_pure (.int .i64 n) (fun _ q => q) ?_
      refine s_pure (.bool (decide (b2 ≤ n))) (fun _ q => q) ?_
      refine s_nil ?_
      refine p_seqN ?_
      refine v_cond rfl (fun c19 => ?_) (fun c19 => ?_)
      ·
        refine v_skip ?_
        refine p_seqN ?_
        refine v_block ?_
        refine v_seq ?_
        refine v_ops ?_
        refine s_pure v_l (fun _ q => q) ?_
        refine s_pure (.int .i64 a2) (fun _ q => q) ?_
        refine s_pure (.int .i64 a2) (fun _ q => q) ?_
        refine s_pure (.int .i64 bs) (fun _ q => q) ?_
        refine s_pure (.int .i64 (a2 + bs)) (fun _ q => ArithVC.mk (by omega) q) ?_
        refine s_pure (.int .i64 b2) (fun _ q => q) ?_
        refine s_pure (.func (.func 66) #[] #[]) (fun _ q => q) ?_
        refine s_call [v_l, .int .i64 a2, .int .i64 (a2 + bs), .int .i64 b2, .func (.func 66) #[] #[]] rfl (symMerge_ok v_l ll3 a2 (a2 + bs) b2 _ s_l (by omega) (by omega) (by omega) (by omega) (by omega) (stC_A (e := 0) C (by omega)) (stC_B C (by omega) (by omega))) ?_
        rintro _ h20 ⟨rfl, q22, s21, mh20, hp23⟩
        have zh20 := mh20.size
        have hlq22 := hp23.1.len
        have E24 := Eh.new mh20 (fun b hb => Or.inl hb)
        refine s_nil ?_
        refine p_seqN ?_
        refine v_seq ?_
        refine v_ops ?_
        refine s_pure (.int .i64 b2) (fun _ q => q) ?_
        refine s_pure (.int .i64 b2) (fun _ q => q) ?_
        refine s_nil ?_
        refine p_seqN ?_
        refine v_ops ?_
        refine s_pure (.int .i64 b2) (fun _ q => q) ?_
        refine s_pure (.int .i64 bs) (fun _ q => q) ?_
        refine s_pure (.int .i64 (2 * bs)) (fun _ q => ArithVC.mk (by omega) q) ?_
        refine s_pure (.int .i64 (b2 + (2 * bs))) (fun _ q => ArithVC.mk (by omega) q) ?_
        refine s_pure (.int .i64 (b2 + (2 * bs))) (fun _ q => q) ?_
        refine s_nil ?_
        refine p_blkN ?_
        exact p_lpN ⟨b2, (b2 + (2 * bs)), q22, ⟨rfl, rfl, rfl, rfl, rfl, rfl⟩, ⟨E24, (sl_eq s21 rfl), (by exact stC_in C (by assumption) (by assumption))⟩, by omega⟩
      ·
        refine v_exit ?_
        refine p_seqX ?_
        refine p_lpX ?_
        refine p_blkX ?_
        refine p_seqN ?_
        refine v_seq ?_
        refine v_seq ?_
        refine v_ops ?_
        refine s_pure (.int .i64 a2) (fun _ q => q) ?_
        refine s_pure (.int .i64 bs) (fun _ q => q) ?_
        refine s_pure (.int .i64 (a2 + bs)) (fun _ q => ArithVC.mk (by omega) q) ?_
        refine s_pure (.int .i64 (a2 + bs)) (fun _ q => q) ?_
        refine s_nil ?_
        refine p_seqN ?_
        refine v_seq ?_
        refine v_ops ?_
        refine s_pure (.int .i64 (a2 + bs)) (fun _ q => q) ?_
        refine s_pure (.int .i64 n) (fun _ q => q) ?_
        refine s_pure (.bool (decide ((a2 + bs) < n))) (fun _ q => q) ?_
        refine s_nil ?_
        refine p_seqN ?_
        refine v_cond rfl (fun c25 => ?_) (fun c25 => ?_)
        ·
          refine v_ops ?_
          refine s_pure v_l (fun _ q => q) ?_
          refine s_pure (.int .i64 a2) (fun _ q => q) ?_
          refine s_pure (.int .i64 (a2 + bs)) (fun _ q => q) ?_
          refine s_pure (.int .i64 n) (fun _ q => q) ?_
          refine s_pure (.func (.func 66) #[] #[]) (fun _ q => q) ?_
          refine s_call [v_l, .int .i64 a2, .int .i64 (a2 + bs), .int .i64 n, .func (.func 66) #[] #[]] rfl (symMerge_ok v_l ll3 a2 (a2 + bs) n _ s_l (by omega) (by omega) (by omega) (by omega) (by omega) (stC_A (e := 0) C (by omega)) (stC_B C (by omega) (by omega))) ?_
          rintro _ h26 ⟨rfl, q28, s27, mh26, hp29⟩
          have zh26 := mh26.size
          have hlq28 := hp29.1.len
          have E30 := Eh.new mh26 (fun b hb => Or.inl hb)
          refine s_nil ?_
          refine p_seqN ?_
          refine v_ops ?_
          refine s_pure (.int .i64 bs) (fun _ q => q) ?_
          refine s_pure (.int .i64 (bs * 2)) (fun _ q => ArithVC.mk (by omega) q) ?_
          refine s_pure (.int .i64 (bs * 2)) (fun _ q => q) ?_
          refine s_nil ?_
          refine p_blkN ?_
          exact p_lpN ⟨(bs * 2), q28, ⟨rfl, rfl, rfl, rfl⟩, ⟨E30, (sl_eq s27 rfl), (by first | exact stB_y hL2 C (by assumption) (by assumption) | exact stB_n hL2 C (by assumption))⟩, by omega⟩
        ·
          refine v_skip ?_
          refine p_seqN ?_
          refine v_ops ?_
          refine s_pure (.int .i64 bs) (fun _ q => q) ?_
          refine s_pure (.int .i64 (bs * 2)) (fun _ q => ArithVC.mk (by omega) q) ?_
          refine s_pure (.int .i64 (bs * 2)) (fun _ q => q) ?_
          refine s_nil ?_
          refine p_blkN ?_
          exact p_lpN ⟨(bs * 2), ll3, ⟨rfl, rfl, rfl, rfl⟩, ⟨Eh, (sl_eq s_l rfl), (by first | exact stB_y hL2 C (by assumption) (by assumption) | exact stB_n hL2 C (by assumption))⟩, by omega⟩
    ·
      refine v_exit ?_
      refine p_seqX ?_
      refine p_lpX ?_
      refine p_blkX ?_
      refine p_end [] (.tuple #[]) (fun _ q => q) rfl ?_
      exact ⟨rfl, ll2, s_l, Eh, by exact ⟨hL2, stB_end hn (by assumption) hB⟩⟩

theorem slices_SortStableFunc_Limpl_Packet_impl_Packet_ok (v_l : Value) (l : List Pk) (h : Heap) (s_l : SlO h v_l l) (bl : l.length ≤ 40) : Cn f_slices_SortStableFunc_Limpl_Packet_impl_Packet [v_l, .func (.func 66) #[] #[]] h fun v h' => v = .tuple #[] ∧ ∃ l_ : List Pk, SlO h' v_l l_ ∧ Mod (blks v_l) h h' ∧ (Like pkKey l l_ 0 l.length ∧ SoOn pkKey l_ 0 l.length) := by
  have lt_l := s_l.lt
  have l63_l := s_l.len63
  refine calls_of r_slices_SortStableFunc_Limpl_Packet_impl_Packet ?_
  refine v_ops ?_
  refine s_pure v_l (fun _ q => q) ?_
  refine s_pure v_l (fun _ q => q) ?_
  refine s_pure (.int .i64 (l.length : Int)) (fun _ q => s_l.lenVC q) ?_
  refine s_pure (.func (.func 66) #[] #[]) (fun _ q => q) ?_
  refine s_call [v_l, .int .i64 (l.length : Int), .func (.func 66) #[] #[]] rfl (slices_stableCmpFunc_impl_Packet_ok v_l l (l.length : Int) _ s_l (by omega) (by omega)) ?_
  rintro _ h1 ⟨rfl, q3, s2, mh1, hp4⟩
  have zh1 := mh1.size
  have hlq3 := hp4.1.len
  have E5 := (Mod.refl (blks v_l) h).new mh1 (fun b hb => Or.inl hb)
  refine s_nil ?_
  refine p_end [] (.tuple #[]) (fun _ q => q) rfl ?_
  exact ⟨rfl, q3, s2, E5, by assumption⟩

end Go.Proofs.Ytjmcijcdncgaiaa
