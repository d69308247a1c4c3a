/- Stable merging of packets in place: the code. Condition: none. Printed in part by a program. -/
import Derived.Test.YtjmcijcdncgaiaaPk10
namespace Go.Proofs.Ytjmcijcdncgaiaa
open Go.Vc
set_option linter.all false

theorem half_conv {a : Int} (h0 : 0 ≤ a) (h1 : a ≤ 9223372036854775807) : ∃ c : Int, 2 * c ≤ a ∧ a < 2 * c + 2 ∧ ∀ K : Value → Prop, K (.int .i64 c) → K (.int .i64 (IntKind.i64.wrap ((IntKind.u64.wrap a).fdiv (2 ^ (min (1 : Int).toNat IntKind.u64.bits))))) := by
  refine ⟨a / 2, by omega, by omega, fun K q => ?_⟩
  have e1 : IntKind.u64.wrap a = a := by rw [IntKind.wrap_u64]; omega
  have e2 : (2 : Int) ^ (min (1 : Int).toNat IntKind.u64.bits) = 2 := by decide
  have e3 : a.fdiv 2 = a / 2 := by rw [Int.fdiv_eq_ediv_of_nonneg _ (by omega)]
  have e4 : IntKind.i64.wrap (a / 2) = a / 2 := by rw [IntKind.wrap_i64]; omega
  rw [e1, e2, e3, e4]; exact q
abbrev nF (l : List Pk) (u v : Int) : Prop := ∀ x y, l[u.toNat]? = some y → l[v.toNat]? = some x → ¬ ltK (pkKey y) (pkKey x)
abbrev yF (l : List Pk) (u v : Int) : Prop := ∀ x y, l[u.toNat]? = some y → l[v.toNat]? = some x → ltK (pkKey y) (pkKey x)
theorem nF_of {l : List Pk} {u v : Int} {x y : Pk} (hy : l[u.toNat]? = some y) (hx : l[v.toNat]? = some x) (hc : ¬ pkCmp y x < 0) : nF l u v := fun p q hq hp => by
  rw [hy] at hq; rw [hx] at hp
  obtain rfl := Option.some.inj hq
  obtain rfl := Option.some.inj hp
  rw [← pkCmp_lt]; exact hc
theorem yF_of {l : List Pk} {u v : Int} {x y : Pk} (hy : l[u.toNat]? = some y) (hx : l[v.toNat]? = some x) (hc : pkCmp y x < 0) : yF l u v := fun p q hq hp => by
  rw [hy] at hq; rw [hx] at hp
  obtain rfl := Option.some.inj hq
  obtain rfl := Option.some.inj hp
  rw [← pkCmp_lt]; exact hc
/-- the first run is one element -/
theorem sym_fst {l : List Pk} {a m b i j : Int} (h0 : 0 ≤ a) (hm : m = a + 1) (hi : m ≤ i) (hij : i = j) (hj : j ≤ b) (hb : b ≤ (l.length : Int)) (hB : SoOn pkKey l m.toNat b.toNat) (hI : m < i → yF l (i - 1) a) (hJ : j < b → nF l j a) :
    Like pkKey l (rotL l a.toNat (a.toNat + 1) i.toNat) a.toNat b.toNat ∧ SoOn pkKey (rotL l a.toNat (a.toNat + 1) i.toNat) a.toNat b.toNat := by
  have e : m.toNat = a.toNat + 1 := by omega
  rw [e] at hB
  refine put_first (by omega) (by omega) (by omega) hB (fun x y h hx hy => hI (by omega) x y ?_ hx) (fun x y h hx hy => hJ (by omega) x y ?_ hx)
  · rw [← hy]; congr 1; omega
  · rw [← hy]; congr 1; omega
/-- the second run is one element -/
theorem sym_snd {l : List Pk} {a m b i j : Int} (h0 : 0 ≤ a) (hm : b = m + 1) (hi : a ≤ i) (hij : i = j) (hj : j ≤ m) (hb : b ≤ (l.length : Int)) (hA : SoOn pkKey l a.toNat m.toNat) (hI : a < i → nF l m (i - 1)) (hJ : j < m → yF l m j) :
    Like pkKey l (rotL l i.toNat m.toNat (m.toNat + 1)) a.toNat b.toNat ∧ SoOn pkKey (rotL l i.toNat m.toNat (m.toNat + 1)) a.toNat b.toNat := by
  have e : b.toNat = m.toNat + 1 := by omega
  rw [e]
  refine put_last (by omega) (by omega) (by omega) hA (fun x y h hx hy => hJ (by omega) x y hy ?_) (fun x y h hx hy => hI (by omega) x y hy ?_)
  · rw [← hx]; congr 1; omega
  · rw [← hx]; congr 1; omega
theorem up_step {l ll : List Pk} {a k : Int} {x y : Pk} (h0 : 0 ≤ a) (hk : a ≤ k) (hb : k + 1 < (l.length : Int)) (hll : ll = rotL l a.toNat (a.toNat + 1) (k.toNat + 1)) (hx : ll[k.toNat]? = some x) (hy : ll[(k + 1).toNat]? = some y) :
    (ll.set k.toNat y).set (k + 1).toNat x = rotL l a.toNat (a.toNat + 1) ((k + 1).toNat + 1) := by
  rw [swp_eq hx hy, hll]
  have e : (k + 1).toNat = k.toNat + 1 := by omega
  have q := rot_up (d := l) (a := a.toNat) (e := k.toNat + 1) (by omega) (by omega)
  rw [e]
  simpa using q
theorem down_step {l ll : List Pk} {m k : Int} {x y : Pk} (h0 : 0 < k) (hk : k ≤ m) (hb : m < (l.length : Int)) (hll : ll = rotL l k.toNat m.toNat (m.toNat + 1)) (hx : ll[(k - 1).toNat]? = some x) (hy : ll[k.toNat]? = some y) :
    (ll.set k.toNat x).set (k - 1).toNat y = rotL l (k - 1).toNat m.toNat (m.toNat + 1) := by
  rw [swp_eq hy hx, hll]
  have e : k.toNat = (k - 1).toNat + 1 := by omega
  have q := rot_down (d := l) (s := (k - 1).toNat) (m := m.toNat) (by omega) (by omega)
  rw [← e] at q
  exact q
/-- the place where both runs are turned -/
structure SymJ (l : List Pk) (a m b i c : Int) : Prop where
  h0 : 0 ≤ a
  h1 : a ≤ i
  h2 : i ≤ m
  h3 : m ≤ c + m - i
  h4 : c + m - i ≤ b
  h5 : b ≤ (l.length : Int)
  hA : SoOn pkKey l a.toNat m.toNat
  hB : SoOn pkKey l m.toNat b.toNat
  hF : a < i → c + m - i < b → nF l (c + m - i) (i - 1)
  hG : i < m → m < c + m - i → yF l (c + m - i - 1) i
theorem sj_hi {l : List Pk} {a m b c i j : Int} (h0 : 0 ≤ a) (h1 : a < m) (h2 : m < b) (h3 : b ≤ (l.length : Int)) (hA : SoOn pkKey l a.toNat m.toNat) (hB : SoOn pkKey l m.toNat b.toNat) (hl : 2 * c ≤ a + b) (hu : a + b < 2 * c + 2) (hc : c < m)
    (hi : c + m - b ≤ i) (hij : i = j) (hj : j ≤ c) (hI : c + m - b < i → nF l (c + m - 1 - (i - 1)) (i - 1)) (hJ : j < c → yF l (c + m - 1 - j) j) : SymJ l a m b i c := by
  subst hij
  refine ⟨h0, by omega, by omega, by omega, by omega, h3, hA, hB, fun _ _ => ?_, fun _ _ => ?_⟩
  · have := hI (by omega); rw [show c + m - i = c + m - 1 - (i - 1) by omega]; exact this
  · have := hJ (by omega); rw [show c + m - i - 1 = c + m - 1 - i by omega]; exact this
theorem sj_lo {l : List Pk} {a m b c i j : Int} (h0 : 0 ≤ a) (h1 : a < m) (h2 : m < b) (h3 : b ≤ (l.length : Int)) (hA : SoOn pkKey l a.toNat m.toNat) (hB : SoOn pkKey l m.toNat b.toNat) (hl : 2 * c ≤ a + b) (hu : a + b < 2 * c + 2) (hc : m ≤ c)
    (hi : a ≤ i) (hij : i = j) (hj : j ≤ m) (hI : a < i → nF l (c + m - 1 - (i - 1)) (i - 1)) (hJ : j < m → yF l (c + m - 1 - j) j) : SymJ l a m b i c := by
  subst hij
  refine ⟨h0, by omega, by omega, by omega, by omega, h3, hA, hB, fun _ _ => ?_, fun _ _ => ?_⟩
  · have := hI (by omega); rw [show c + m - i = c + m - 1 - (i - 1) by omega]; exact this
  · have := hJ (by omega); rw [show c + m - i - 1 = c + m - 1 - i by omega]; exact this
section
variable {l d1 d2 d3 : List Pk} {a m b i c : Int} (sj : SymJ l a m b i c)
include sj
theorem SymJ.id (h : ¬ (i < m ∧ m < c + m - i)) : rotL l i.toNat m.toNat (c + m - i).toNat = l := by
  obtain ⟨h0, h1, h2, h3, h4, h5, _, _, _, _⟩ := sj
  exact rotL_id (by omega) (by omega) (by omega) (by omega)
theorem SymJ.len (hd : d1 = rotL l i.toNat m.toNat (c + m - i).toNat) : d1.length = l.length := by
  obtain ⟨h0, h1, h2, h3, h4, h5, _, _, _, _⟩ := sj
  subst hd; exact rotL_len (by omega) (by omega) (by omega)
theorem SymJ.p1 (hd : d1 = rotL l i.toNat m.toNat (c + m - i).toNat) : SoOn pkKey d1 a.toNat i.toNat := by
  obtain ⟨h0, h1, h2, h3, h4, h5, hA, hB, _, _⟩ := sj
  subst hd; exact so_rot1 (by omega) (by omega) (by omega) hA (by omega)
theorem SymJ.p2 (hd : d1 = rotL l i.toNat m.toNat (c + m - i).toNat) : SoOn pkKey d1 i.toNat c.toNat := by
  obtain ⟨h0, h1, h2, h3, h4, h5, hA, hB, _, _⟩ := sj
  subst hd; exact so_rot2 (by omega) (by omega) (by omega) (by omega) hB (by omega)
theorem SymJ.p3 (hd : d1 = rotL l i.toNat m.toNat (c + m - i).toNat) (L : Like pkKey d1 d2 a.toNat c.toNat) : SoOn pkKey d2 c.toNat (c + m - i).toNat := by
  obtain ⟨h0, h1, h2, h3, h4, h5, hA, hB, _, _⟩ := sj
  have q : SoOn pkKey d1 c.toNat (c + m - i).toNat := by subst hd; exact so_rot3 (by omega) (by omega) (by omega) (by omega) hA (by omega)
  exact q.same (fun k k1 k2 => L.out k (.inr k1)) (Nat.le_refl _) (Nat.le_refl _)
theorem SymJ.p4 (hd : d1 = rotL l i.toNat m.toNat (c + m - i).toNat) (L : Like pkKey d1 d2 a.toNat c.toNat) : SoOn pkKey d2 (c + m - i).toNat b.toNat := by
  obtain ⟨h0, h1, h2, h3, h4, h5, hA, hB, _, _⟩ := sj
  have q : SoOn pkKey d1 (c + m - i).toNat b.toNat := by subst hd; exact so_rot4 (by omega) (by omega) (by omega) hB
  exact q.same (fun k k1 k2 => L.out k (.inr (by omega))) (Nat.le_refl _) (Nat.le_refl _)
theorem SymJ.no1 (hd : d1 = rotL l i.toNat m.toNat (c + m - i).toNat) (h : ¬ (a < i ∧ i < c)) : Like pkKey d1 d1 a.toNat c.toNat ∧ SoOn pkKey d1 a.toNat c.toNat := by
  have p1 := sj.p1 hd
  have p2 := sj.p2 hd
  obtain ⟨h0, h1, h2, h3, h4, h5, hA, hB, _, _⟩ := sj
  refine ⟨Like.refl _ _ _, ?_⟩
  by_cases e : a = i
  · subst e; exact p2
  · have e2 : i = c := by omega
    subst e2; exact p1
theorem SymJ.no2 (hd : d1 = rotL l i.toNat m.toNat (c + m - i).toNat) (L : Like pkKey d1 d2 a.toNat c.toNat) (h : ¬ (c < c + m - i ∧ c + m - i < b)) : Like pkKey d2 d2 c.toNat b.toNat ∧ SoOn pkKey d2 c.toNat b.toNat := by
  have p3 := sj.p3 hd L
  have p4 := sj.p4 hd L
  obtain ⟨h0, h1, h2, h3, h4, h5, hA, hB, _, _⟩ := sj
  refine ⟨Like.refl _ _ _, ?_⟩
  by_cases e : c = c + m - i
  · rw [← e] at p4; exact p4
  · have e2 : c + m - i = b := by omega
    rw [e2] at p3; exact p3
theorem SymJ.fin (hd : d1 = rotL l i.toNat m.toNat (c + m - i).toNat) (q1 : Like pkKey d1 d2 a.toNat c.toNat ∧ SoOn pkKey d2 a.toNat c.toNat) (q2 : Like pkKey d2 d3 c.toNat b.toNat ∧ SoOn pkKey d3 c.toNat b.toNat) : Like pkKey l d3 a.toNat b.toNat ∧ SoOn pkKey d3 a.toNat b.toNat := by
  obtain ⟨h0, h1, h2, h3, h4, h5, hA, hB, hF, hG⟩ := sj
  refine sym_join (s := i.toNat) (e := (c + m - i).toNat) (c := c.toNat) (by omega) (by omega) (by omega) (by omega) (by omega) (by omega) hA hB (fun x y k1 k2 hx hy => hG (by omega) (by omega) x y ?_ hx) (fun x y k1 k2 hx hy => hF (by omega) (by omega) x y hy ?_) hd q1.1 q1.2 q2.1 q2.2
  · rw [← hy]; congr 1; omega
  · rw [← hx]; congr 1; omega
end

set_option maxRecDepth 10000 in
set_option maxHeartbeats 4000000 in
theorem slices_symMergeCmpFunc_impl_Packet_ok (v_l : Value) (l : List Pk) (a : Int) (m : Int) (b : Int) (h : Heap) (s_l : SlO h v_l l) (N : Nat) (hN : (b - a).toNat = N) (h0 : 0 ≤ a) (h1 : a < m) (h2 : m < b) (h3 : b ≤ (l.length : Int)) (bl : l.length ≤ 1000000) (hA : SoOn pkKey l a.toNat m.toNat) (hB : SoOn pkKey l m.toNat b.toNat) (ih : ∀ (v_l : Value) (l : List Pk) (a m b : Int) (h : Heap), (b - a).toNat < N → SlO h v_l l → 0 ≤ a → a < m → m < b → b ≤ (l.length : Int) → l.length ≤ 1000000 → SoOn pkKey l a.toNat m.toNat → SoOn pkKey l m.toNat b.toNat → Cn f_slices_symMergeCmpFunc_impl_Packet [v_l, .int .i64 a, .int .i64 m, .int .i64 b, .func (.func 66) #[] #[]] h fun v h' => v = .tuple #[] ∧ ∃ l_ : List Pk, SlO h' v_l l_ ∧ Mod (blks v_l) h h' ∧ (Like pkKey l l_ a.toNat b.toNat ∧ SoOn pkKey l_ a.toNat b.toNat)) : Cn f_slices_symMergeCmpFunc_impl_Packet [v_l, .int .i64 a, .int .i64 m, .int .i64 b, .func (.func 66) #[] #[]] h fun v h' => v = .tuple #[] ∧ ∃ l_ : List Pk, SlO h' v_l l_ ∧ Mod (blks v_l) h h' ∧ (Like pkKey l l_ a.toNat b.toNat ∧ SoOn pkKey l_ a.toNat b.toNat) := by
  have lt_l := s_l.lt
  have l63_l := s_l.len63
  refine calls_of r_slices_symMergeCmpFunc_impl_Packet ?_
  refine v_seq ?_
  refine v_seq ?_
  refine v_ops ?_
  refine s_pure (.int .i64 m) (fun _ q => q) ?_
  refine s_pure (.int .i64 a) (fun _ q => q) ?_
  refine s_pure (.int .i64 (m - a)) (fun _ q => ArithVC.mk (by omega) q) ?_
  refine s_pure (.bool ((m - a) == 1)) (fun _ q => q) ?_
  refine s_nil ?_
  refine p_seqN ?_
  refine v_cond rfl (fun c1 => ?_) (fun c1 => ?_)
  ·
    refine v_seq ?_
    refine v_ops ?_
    refine s_pure (.int .i64 m) (fun _ q => q) ?_
    refine s_pure (.int .i64 m) (fun _ q => q) ?_
    refine s_nil ?_
    refine p_seqN ?_
    refine v_seq ?_
    refine v_ops ?_
    refine s_pure (.int .i64 b) (fun _ q => q) ?_
    refine s_pure (.int .i64 b) (fun _ q => q) ?_
    refine s_nil ?_
    refine p_seqN ?_
    refine v_seq ?_
    refine v_block ?_
    refine v_loop3 (α := Int) (β := Int) (γ := List Pk) (fun i j l0 => [(0, v_l), (1, .int .i64 a), (4, .func (.func 66) #[] #[]), (10, .int .i64 i), (11, .int .i64 j)]) (fun i j l0 hh => Mod (blks v_l) h hh ∧ SlO hh v_l l0 ∧ l0 = l ∧ m ≤ i ∧ i ≤ j ∧ j ≤ b ∧ (m < i → yF l (i - 1) a) ∧ (j < b → nF l j a)) (fun i j l0 => (j - i).toNat) m b l ⟨rfl, rfl, rfl, rfl, rfl⟩ ⟨(Mod.refl (blks v_l) h), s_l, (by exact ⟨rfl, by omega, by omega, by omega, fun hc => by omega, fun hc => by omega⟩)⟩ ?_
    rintro i j l0 R3 h2 ⟨Eh, s_l, ⟨hl0, hi, hij, hj, hI, hJ⟩⟩
    have zEh := Eh.size
    have lt_l := s_l.lt
    have hlen0 : l0.length = l.length := by rw [hl0]
    refine v_seq ?_
    refine v_seq ?_
    refine v_ops ?_
    refine s_pure (.int .i64 i) (fun _ q => q) ?_
    refine s_pure (.int .i64 j) (fun _ q => q) ?_
    refine s_pure (.bool (decide (i < j))) (fun _ q => q) ?_
    refine s_nil ?_
    refine p_seqN ?_
    refine v_cond rfl (fun c4 => ?_) (fun c4 => ?_)
    ·
      refine v_skip ?_
      refine p_seqN ?_
      refine v_block ?_
      refine v_seq ?_
      refine v_ops ?_
      refine s_pure (.int .i64 i) (fun _ q => q) ?_
      refine s_pure (.int .i64 j) (fun _ q => q) ?_
      refine s_pure (.int .i64 (i + j)) (fun _ q => ArithVC.mk (by omega) q) ?_
      refine s_pure (.int .u64 (IntKind.u64.wrap (i + j))) (fun _ q => q) ?_
      refine s_pure (.int .u64 (((IntKind.u64.wrap (i + j))).fdiv (2 ^ (min ((1) : Int).toNat IntKind.u64.bits)))) (fun _ q => ⟨by decide, q⟩) ?_
      obtain ⟨md5, hlmd5, humd5, hkmd5⟩ := half_conv (a := (i + j)) (by omega) (by omega)
      refine s_pure (.int .i64 md5) (fun _ q => hkmd5 _ q) ?_
      refine s_pure (.int .i64 md5) (fun _ q => q) ?_
      refine s_nil ?_
      refine p_seqN ?_
      refine v_seq ?_
      refine v_drawF ?_
      refine d_pureT (.func (.func 66) #[] #[]) (fun _ q => q) ?_
      refine d_pureT v_l (fun _ q => q) ?_
      refine d_pureT (.int .i64 md5) (fun _ q => q) ?_
      have hk6 : (md5).toNat < l0.length := (by first | omega | (simp; omega))
      obtain ⟨x7, hx7⟩ : ∃ x, l0[(md5).toNat]? = some x := ⟨_, List.getElem?_eq_getElem hk6⟩
      refine d_pureT (.pointer (some ⟨sblk v_l, soff v_l + ((md5).toNat) * 4, none⟩)) (fun _ q => s_l.idx (k := (md5).toNat) (by omega) hk6 q) ?_
      refine d_pureT v_l (fun _ q => q) ?_
      refine d_pureT (.int .i64 a) (fun _ q => q) ?_
      have hk8 : (a).toNat < l0.length := (by first | omega | (simp; omega))
      obtain ⟨x9, hx9⟩ : ∃ x, l0[(a).toNat]? = some x := ⟨_, List.getElem?_eq_getElem hk8⟩
      refine d_pureT (.pointer (some ⟨sblk v_l, soff v_l + ((a).toNat) * 4, none⟩)) (fun _ q => s_l.idx (k := (a).toNat) (by omega) hk8 q) ?_
      refine d_loadO (.agg #[.int .i64 x7.message, .int .i64 x7.part, .int .i64 x7.parts, x7.sv.v]) (fun _ q => s_l.loadN hx7 rfl q) ?_
      refine d_loadO (.agg #[.int .i64 x9.message, .int .i64 x9.part, .int .i64 x9.parts, x9.sv.v]) (fun _ q => s_l.loadN hx9 rfl q) ?_
      refine d_eff ?_
      refine s_callv [.agg #[.int .i64 x7.message, .int .i64 x7.part, .int .i64 x7.parts, x7.sv.v], .agg #[.int .i64 x9.message, .int .i64 x9.part, .int .i64 x9.parts, x9.sv.v]] rfl rfl (impl_SortPackets_1_ok x7 x9 _) ?_
      rintro _ h10 ⟨rfl, eh10⟩
      have E11 := Eh.trans (Mod.of_ext eh10 _)
      have z12 := eh10.size
      have G13 := eh10
      refine s_nil ⟨fun hl => (by cases hl), ?_⟩
      refine d_pureT (.bool (decide ((pkCmp x7 x9) < 0))) (fun _ q => q) ?_
      refine d_done ?_
      refine p_seqN ?_
      refine v_cond rfl (fun c14 => ?_) (fun c14 => ?_)
      ·
        refine v_ops ?_
        refine s_pure (.int .i64 md5) (fun _ q => q) ?_
        refine s_pure (.int .i64 (md5 + 1)) (fun _ q => ArithVC.mk (by omega) q) ?_
        refine s_pure (.int .i64 (md5 + 1)) (fun _ q => q) ?_
        refine s_nil ?_
        refine p_blkN ?_
        have f15 := (s_l.ext eh10)
        exact p_lpN ⟨(md5 + 1), j, l0, ⟨rfl, rfl, rfl, rfl, rfl⟩, ⟨E11, (sl_eq f15 rfl), (by first | exact ⟨hl0, by omega, by omega, by omega, fun _ => by (rw [show ∀ c : Int, c + 1 - 1 = c from fun c => by omega]; exact hl0 ▸ yF_of (by assumption) (by assumption) (by assumption)), hJ⟩ | exact ⟨hl0, by omega, by omega, by omega, hI, fun _ => hl0 ▸ nF_of (by assumption) (by assumption) (by assumption)⟩)⟩, by omega⟩
      ·
        refine v_ops ?_
        refine s_pure (.int .i64 md5) (fun _ q => q) ?_
        refine s_pure (.int .i64 md5) (fun _ q => q) ?_
        refine s_nil ?_
        refine p_blkN ?_
        have f16 := (s_l.ext eh10)
        exact p_lpN ⟨i, md5, l0, ⟨rfl, rfl, rfl, rfl, rfl⟩, ⟨E11, (sl_eq f16 rfl), (by first | exact ⟨hl0, by omega, by omega, by omega, fun _ => by (rw [show ∀ c : Int, c + 1 - 1 = c from fun c => by omega]; exact hl0 ▸ yF_of (by assumption) (by assumption) (by assumption)), hJ⟩ | exact ⟨hl0, by omega, by omega, by omega, hI, fun _ => hl0 ▸ nF_of (by assumption) (by assumption) (by assumption)⟩)⟩, by omega⟩
    ·
      refine v_exit ?_
      refine p_seqX ?_
      refine p_lpX ?_
      refine p_blkX ?_
      refine p_seqN ?_
      refine v_seq ?_
      refine v_seq ?_
      refine v_ops ?_
      refine s_pure (.int .i64 a) (fun _ q => q) ?_
      refine s_pure (.int .i64 a) (fun _ q => q) ?_
      refine s_nil ?_
      refine p_seqN ?_
      refine v_block ?_
      refine v_loop2 (α := Int) (β := List Pk) (fun k ll => [(0, v_l), (10, .int .i64 i), (13, .int .i64 k)]) (fun k ll hh => Mod (blks v_l) h hh ∧ SlO hh v_l ll ∧ a ≤ k ∧ (k ≤ i - 1) ∧ ll = rotL l a.toNat (a.toNat + 1) (k.toNat + 1)) (fun k ll => (i - k).toNat) a l0 ⟨rfl, rfl, rfl⟩ ⟨Eh, s_l, (by exact ⟨by omega, by omega, hl0.trans (rotL_id (by omega) (by omega) (by omega) (.inr rfl)).symm⟩)⟩ ?_
      rintro k ll R18 h17 ⟨Eh, s_l, ⟨hk, hki, hll⟩⟩
      have zEh := Eh.size
      have lt_l := s_l.lt
      have hlen : ll.length = l.length := by rw [hll]; exact rotL_len (by omega) (by omega) (by omega)
      refine v_seq ?_
      refine v_seq ?_
      refine v_ops ?_
      refine s_pure (.int .i64 k) (fun _ q => q) ?_
      refine s_pure (.int .i64 i) (fun _ q => q) ?_
      refine s_pure (.int .i64 (i - 1)) (fun _ q => ArithVC.mk (by omega) q) ?_
      refine s_pure (.bool (decide (k < (i - 1)))) (fun _ q => q) ?_
      refine s_nil ?_
      refine p_seqN ?_
      refine v_cond rfl (fun c19 => ?_) (fun c19 => ?_)
      ·
        refine v_skip ?_
        refine p_seqN ?_
        refine v_seq ?_
        refine v_block ?_
        refine v_drawF ?_
        refine d_pureT v_l (fun _ q => q) ?_
        refine d_pureT (.int .i64 k) (fun _ q => q) ?_
        refine d_pureT v_l (fun _ q => q) ?_
        refine d_pureT (.int .i64 k) (fun _ q => q) ?_
        refine d_pureT (.int .i64 (k + 1)) (fun _ q => ArithVC.mk (by omega) q) ?_
        refine d_pureT v_l (fun _ q => q) ?_
        refine d_pureT (.int .i64 k) (fun _ q => q) ?_
        refine d_pureT (.int .i64 (k + 1)) (fun _ q => ArithVC.mk (by omega) q) ?_
        have hk20 : ((k + 1)).toNat < ll.length := (by first | omega | (simp; omega))
        obtain ⟨x21, hx21⟩ : ∃ x, ll[((k + 1)).toNat]? = some x := ⟨_, List.getElem?_eq_getElem hk20⟩
        refine d_pureT (.pointer (some ⟨sblk v_l, soff v_l + (((k + 1)).toNat) * 4, none⟩)) (fun _ q => s_l.idx (k := ((k + 1)).toNat) (by omega) hk20 q) ?_
        refine d_pureT v_l (fun _ q => q) ?_
        refine d_pureT (.int .i64 k) (fun _ q => q) ?_
        have hk22 : (k).toNat < ll.length := (by first | omega | (simp; omega))
        obtain ⟨x23, hx23⟩ : ∃ x, ll[(k).toNat]? = some x := ⟨_, List.getElem?_eq_getElem hk22⟩
        refine d_pureT (.pointer (some ⟨sblk v_l, soff v_l + ((k).toNat) * 4, none⟩)) (fun _ q => s_l.idx (k := (k).toNat) (by omega) hk22 q) ?_
        refine d_loadO (.agg #[.int .i64 x21.message, .int .i64 x21.part, .int .i64 x21.parts, x21.sv.v]) (fun _ q => s_l.loadN hx21 rfl q) ?_
        refine d_loadO (.agg #[.int .i64 x23.message, .int .i64 x23.part, .int .i64 x23.parts, x23.sv.v]) (fun _ q => s_l.loadN hx23 rfl q) ?_
        refine d_pureT (.pointer (some ⟨sblk v_l, soff v_l + ((k).toNat) * 4, none⟩)) (fun _ q => s_l.idx (k := (k).toNat) (by omega) hk22 q) ?_
        refine d_eff ?_
        refine s_stSl (k := (k).toNat) (j := 0) x21 (.agg #[.int .i64 x21.message, .int .i64 x21.part, .int .i64 x21.parts, x21.sv.v]) [.int .i64 x21.message, .int .i64 x21.part, .int .i64 x21.parts, x21.sv.v] s_l rfl rfl rfl rfl rfl hx23 (Nat.le_of_ble_eq_true rfl) rfl (all_cons rfl (all_cons rfl (all_cons rfl (all_cons rfl all_nil)))) (fun h24 mh24 sh24 s25 => ?_)
        have E26 := Eh.new mh24 (fun b hb => Or.inl hb)
        refine s_nil ⟨fun hl => (by cases hl), ?_⟩
        have hk27 : ((k + 1)).toNat < (ll.set ((k).toNat) x21).length := (by first | omega | (simp; omega))
        obtain ⟨x28, hx28⟩ : ∃ x, (ll.set ((k).toNat) x21)[((k + 1)).toNat]? = some x := ⟨_, List.getElem?_eq_getElem hk27⟩
        refine d_pureT (.pointer (some ⟨sblk v_l, soff v_l + (((k + 1)).toNat) * 4, none⟩)) (fun _ q => s25.idx (k := ((k + 1)).toNat) (by omega) hk27 q) ?_
        refine d_eff ?_
        refine s_stSl (k := ((k + 1)).toNat) (j := 0) x23 (.agg #[.int .i64 x23.message, .int .i64 x23.part, .int .i64 x23.parts, x23.sv.v]) [.int .i64 x23.message, .int .i64 x23.part, .int .i64 x23.parts, x23.sv.v] s25 rfl rfl rfl rfl rfl hx28 (Nat.le_of_ble_eq_true rfl) rfl (all_cons rfl (all_cons rfl (all_cons rfl (all_cons rfl all_nil)))) (fun h29 mh29 sh29 s30 => ?_)
        have E31 := E26.new mh29 (fun b hb => Or.inl hb)
        refine s_nil ⟨fun hl => (by cases hl), ?_⟩
        refine d_done ?_
        refine p_blkN ?_
        refine p_seqN ?_
        refine v_ops ?_
        refine s_pure (.int .i64 k) (fun _ q => q) ?_
        refine s_pure (.int .i64 (k + 1)) (fun _ q => ArithVC.mk (by omega) q) ?_
        refine s_pure (.int .i64 (k + 1)) (fun _ q => q) ?_
        refine s_nil ?_
        exact p_lpN ⟨(k + 1), ((ll.set ((k).toNat) x21).set (((k + 1)).toNat) x23), ⟨rfl, rfl, rfl⟩, ⟨E31, (sl_eq s30 rfl), (by exact ⟨by omega, by omega, up_step h0 hk (by omega) hll (by assumption) (by assumption)⟩)⟩, by omega⟩
      ·
        refine v_exit ?_
        refine p_seqX ?_
        refine p_lpX ?_
        refine p_blkX ?_
        refine p_seqN ?_
        refine v_ret ?_
        refine p_seqR ?_
        refine p_ret [] (.tuple #[]) (fun _ q => q) rfl ?_
        have hz : Like pkKey l ll a.toNat b.toNat ∧ SoOn pkKey ll a.toNat b.toNat := by first | (rw [hll, show (k.toNat + 1) = i.toNat by omega]; exact sym_fst h0 (by omega) hi (by omega) hj h3 hB hI hJ) | (rw [hll, show k = i by omega]; exact sym_snd h0 (by omega) hi (by omega) hj h3 hA hI hJ)
        exact ⟨rfl, ll, s_l, Eh, hz⟩
  ·
    refine v_skip ?_
    refine p_seqN ?_
    refine v_seq ?_
    refine v_seq ?_
    refine v_ops ?_
    refine s_pure (.int .i64 b) (fun _ q => q) ?_
    refine s_pure (.int .i64 m) (fun _ q => q) ?_
    refine s_pure (.int .i64 (b - m)) (fun _ q => ArithVC.mk (by omega) q) ?_
    refine s_pure (.bool ((b - m) == 1)) (fun _ q => q) ?_
    refine s_nil ?_
    refine p_seqN ?_
    refine v_cond rfl (fun c32 => ?_) (fun c32 => ?_)
    ·
      refine v_seq ?_
      refine v_ops ?_
      refine s_pure (.int .i64 a) (fun _ q => q) ?_
      refine s_pure (.int .i64 a) (fun _ q => q) ?_
      refine s_nil ?_
      refine p_seqN ?_
      refine v_seq ?_
      refine v_ops ?_
      refine s_pure (.int .i64 m) (fun _ q => q) ?_
      refine s_pure (.int .i64 m) (fun _ q => q) ?_
      refine s_nil ?_
      refine p_seqN ?_
      refine v_seq ?_
      refine v_block ?_
      refine v_loop3 (α := Int) (β := Int) (γ := List Pk) (fun i j l0 => [(0, v_l), (2, .int .i64 m), (4, .func (.func 66) #[] #[]), (14, .int .i64 i), (15, .int .i64 j)]) (fun i j l0 hh => Mod (blks v_l) h hh ∧ SlO hh v_l l0 ∧ l0 = l ∧ a ≤ i ∧ i ≤ j ∧ j ≤ m ∧ (a < i → nF l m (i - 1)) ∧ (j < m → yF l m j)) (fun i j l0 => (j - i).toNat) a m l ⟨rfl, rfl, rfl, rfl, rfl⟩ ⟨(Mod.refl (blks v_l) h), s_l, (by exact ⟨rfl, by omega, by omega, by omega, fun hc => by omega, fun hc => by omega⟩)⟩ ?_
      rintro i j l0 R34 h33 ⟨Eh, s_l, ⟨hl0, hi, hij, hj, hI, hJ⟩⟩
      have zEh := Eh.size
      have lt_l := s_l.lt
      have hlen0 : l0.length = l.length := by rw [hl0]
      refine v_seq ?_
      refine v_seq ?_
      refine v_ops ?_
      refine s_pure (.int .i64 i) (fun _ q => q) ?_
      refine s_pure (.int .i64 j) (fun _ q => q) ?_
      refine s_pure (.bool (decide (i < j))) (fun _ q => q) ?_
      refine s_nil ?_
      refine p_seqN ?_
      refine v_cond rfl (fun c35 => ?_) (fun c35 => ?_)
      ·
        refine v_skip ?_
        refine p_seqN ?_
        refine v_block ?_
        refine v_seq ?_
        refine v_ops ?_
        refine s_pure (.int .i64 i) (fun _ q => q) ?_
        refine s_pure (.int .i64 j) (fun _ q => q) ?_
        refine s_pure (.int .i64 (i + j)) (fun _ q => ArithVC.mk (by omega) q) ?_
        refine s_pure (.int .u64 (IntKind.u64.wrap (i + j))) (fun _ q => q) ?_
        refine s_pure (.int .u64 (((IntKind.u64.wrap (i + j))).fdiv (2 ^ (min ((1) : Int).toNat IntKind.u64.bits)))) (fun _ q => ⟨by decide, q⟩) ?_
        obtain ⟨md36, hlmd36, humd36, hkmd36⟩ := half_conv (a := (i + j)) (by omega) (by omega)
        refine s_pure (.int .i64 md36) (fun _ q => hkmd36 _ q) ?_
        refine s_pure (.int .i64 md36) (fun _ q => q) ?_
        refine s_nil ?_
        refine p_seqN ?_
        refine v_seq ?_
        refine v_drawF ?_
        refine d_pureT (.func (.func 66) #[] #[]) (fun _ q => q) ?_
        refine d_pureT v_l (fun _ q => q) ?_
        refine d_pureT (.int .i64 m) (fun _ q => q) ?_
        have hk37 : (m).toNat < l0.length := (by first | omega | (simp; omega))
        obtain ⟨x38, hx38⟩ : ∃ x, l0[(m).toNat]? = some x := ⟨_, List.getElem?_eq_getElem hk37⟩
        refine d_pureT (.pointer (some ⟨sblk v_l, soff v_l + ((m).toNat) * 4, none⟩)) (fun _ q => s_l.idx (k := (m).toNat) (by omega) hk37 q) ?_
        refine d_pureT v_l (fun _ q => q) ?_
        refine d_pureT (.int .i64 md36) (fun _ q => q) ?_
        have hk39 : (md36).toNat < l0.length := (by first | omega | (simp; omega))
        obtain ⟨x40, hx40⟩ : ∃ x, l0[(md36).toNat]? = some x := ⟨_, List.getElem?_eq_getElem hk39⟩
        refine d_pureT (.pointer (some ⟨sblk v_l, soff v_l + ((md36).toNat) * 4, none⟩)) (fun _ q => s_l.idx (k := (md36).toNat) (by omega) hk39 q) ?_
        refine d_loadO (.agg #[.int .i64 x38.message, .int .i64 x38.part, .int .i64 x38.parts, x38.sv.v]) (fun _ q => s_l.loadN hx38 rfl q) ?_
        refine d_loadO (.agg #[.int .i64 x40.message, .int .i64 x40.part, .int .i64 x40.parts, x40.sv.v]) (fun _ q => s_l.loadN hx40 rfl q) ?_
        refine d_eff ?_
        refine s_callv [.agg #[.int .i64 x38.message, .int .i64 x38.part, .int .i64 x38.parts, x38.sv.v], .agg #[.int .i64 x40.message, .int .i64 x40.part, .int .i64 x40.parts, x40.sv.v]] rfl rfl (impl_SortPackets_1_ok x38 x40 _) ?_
        rintro _ h41 ⟨rfl, eh41⟩
        have E42 := Eh.trans (Mod.of_ext eh41 _)
        have z43 := eh41.size
        have G44 := eh41
        refine s_nil ⟨fun hl => (by cases hl), ?_⟩
        refine d_pureT (.bool (decide ((pkCmp x38 x40) < 0))) (fun _ q => q) ?_
        refine d_pureT (.bool (!(decide ((pkCmp x38 x40) < 0)))) (fun _ q => q) ?_
        refine d_done ?_
        refine p_seqN ?_
        refine v_cond rfl (fun c45 => ?_) (fun c45 => ?_)
        ·
          refine v_ops ?_
          refine s_pure (.int .i64 md36) (fun _ q => q) ?_
          refine s_pure (.int .i64 (md36 + 1)) (fun _ q => ArithVC.mk (by omega) q) ?_
          refine s_pure (.int .i64 (md36 + 1)) (fun _ q => q) ?_
          refine s_nil ?_
          refine p_blkN ?_
          have f46 := (s_l.ext eh41)
          exact p_lpN ⟨(md36 + 1), j, l0, ⟨rfl, rfl, rfl, rfl, rfl⟩, ⟨E42, (sl_eq f46 rfl), (by first | exact ⟨hl0, by omega, by omega, by omega, fun _ => by (rw [show ∀ c : Int, c + 1 - 1 = c from fun c => by omega]; exact hl0 ▸ nF_of (by assumption) (by assumption) (by assumption)), hJ⟩ | exact ⟨hl0, by omega, by omega, by omega, hI, fun _ => hl0 ▸ yF_of (by assumption) (by assumption) (by assumption)⟩)⟩, by omega⟩
        ·
          have c45 := Classical.not_not.1 c45
          refine v_ops ?_
          refine s_pure (.int .i64 md36) (fun _ q => q) ?_
          refine s_pure (.int .i64 md36) (fun _ q => q) ?_
          refine s_nil ?_
          refine p_blkN ?_
          have f47 := (s_l.ext eh41)
          exact p_lpN ⟨i, md36, l0, ⟨rfl, rfl, rfl, rfl, rfl⟩, ⟨E42, (sl_eq f47 rfl), (by first | exact ⟨hl0, by omega, by omega, by omega, fun _ => by (rw [show ∀ c : Int, c + 1 - 1 = c from fun c => by omega]; exact hl0 ▸ nF_of (by assumption) (by assumption) (by assumption)), hJ⟩ | exact ⟨hl0, by omega, by omega, by omega, hI, fun _ => hl0 ▸ yF_of (by assumption) (by assumption) (by assumption)⟩)⟩, by omega⟩
      ·
        refine v_exit ?_
        refine p_seqX ?_
        refine p_lpX ?_
        refine p_blkX ?_
        refine p_seqN ?_
        refine v_seq ?_
        refine v_seq ?_
        refine v_ops ?_
        refine s_pure (.int .i64 m) (fun _ q => q) ?_
        refine s_pure (.int .i64 m) (fun _ q => q) ?_
        refine s_nil ?_
        refine p_seqN ?_
        refine v_block ?_
        refine v_loop2 (α := Int) (β := List Pk) (fun k ll => [(0, v_l), (14, .int .i64 i), (17, .int .i64 k)]) (fun k ll hh => Mod (blks v_l) h hh ∧ SlO hh v_l ll ∧ i ≤ k ∧ k ≤ m ∧ ll = rotL l k.toNat m.toNat (m.toNat + 1)) (fun k ll => (k - i).toNat) m l0 ⟨rfl, rfl, rfl⟩ ⟨Eh, s_l, (by exact ⟨by omega, by omega, hl0.trans (rotL_id (by omega) (by omega) (by omega) (.inl rfl)).symm⟩)⟩ ?_
        rintro k ll R49 h48 ⟨Eh, s_l, ⟨hik, hkm, hll⟩⟩
        have zEh := Eh.size
        have lt_l := s_l.lt
        have hlen : ll.length = l.length := by rw [hll]; exact rotL_len (by omega) (by omega) (by omega)
        refine v_seq ?_
        refine v_seq ?_
        refine v_ops ?_
        refine s_pure (.int .i64 k) (fun _ q => q) ?_
        refine s_pure (.int .i64 i) (fun _ q => q) ?_
        refine s_pure (.bool (decide (k > i))) (fun _ q => q) ?_
        refine s_nil ?_
        refine p_seqN ?_
        refine v_cond rfl (fun c50 => ?_) (fun c50 => ?_)
        ·
          refine v_skip ?_
          refine p_seqN ?_
          refine v_seq ?_
          refine v_block ?_
          refine v_drawF ?_
          refine d_pureT v_l (fun _ q => q) ?_
          refine d_pureT (.int .i64 k) (fun _ q => q) ?_
          refine d_pureT v_l (fun _ q => q) ?_
          refine d_pureT (.int .i64 k) (fun _ q => q) ?_
          refine d_pureT (.int .i64 (k - 1)) (fun _ q => ArithVC.mk (by omega) q) ?_
          refine d_pureT v_l (fun _ q => q) ?_
          refine d_pureT (.int .i64 k) (fun _ q => q) ?_
          refine d_pureT (.int .i64 (k - 1)) (fun _ q => ArithVC.mk (by omega) q) ?_
          have hk51 : ((k - 1)).toNat < ll.length := (by first | omega | (simp; omega))
          obtain ⟨x52, hx52⟩ : ∃ x, ll[((k - 1)).toNat]? = some x := ⟨_, List.getElem?_eq_getElem hk51⟩
          refine d_pureT (.pointer (some ⟨sblk v_l, soff v_l + (((k - 1)).toNat) * 4, none⟩)) (fun _ q => s_l.idx (k := ((k - 1)).toNat) (by omega) hk51 q) ?_
          refine d_pureT v_l (fun _ q => q) ?_
          refine d_pureT (.int .i64 k) (fun _ q => q) ?_
          have hk53 : (k).toNat < ll.length := (by first | omega | (simp; omega))
          obtain ⟨x54, hx54⟩ : ∃ x, ll[(k).toNat]? = some x := ⟨_, List.getElem?_eq_getElem hk53⟩
          refine d_pureT (.pointer (some ⟨sblk v_l, soff v_l + ((k).toNat) * 4, none⟩)) (fun _ q => s_l.idx (k := (k).toNat) (by omega) hk53 q) ?_
          refine d_loadO (.agg #[.int .i64 x52.message, .int .i64 x52.part, .int .i64 x52.parts, x52.sv.v]) (fun _ q => s_l.loadN hx52 rfl q) ?_
          refine d_loadO (.agg #[.int .i64 x54.message, .int .i64 x54.part, .int .i64 x54.parts, x54.sv.v]) (fun _ q => s_l.loadN hx54 rfl q) ?_
          refine d_pureT (.pointer (some ⟨sblk v_l, soff v_l + ((k).toNat) * 4, none⟩)) (fun _ q => s_l.idx (k := (k).toNat) (by omega) hk53 q) ?_
          refine d_eff ?_
          refine s_stSl (k := (k).toNat) (j := 0) x52 (.agg #[.int .i64 x52.message, .int .i64 x52.part, .int .i64 x52.parts, x52.sv.v]) [.int .i64 x52.message, .int .i64 x52.part, .int .i64 x52.parts, x52.sv.v] s_l rfl rfl rfl rfl rfl hx54 (Nat.le_of_ble_eq_true rfl) rfl (all_cons rfl (all_cons rfl (all_cons rfl (all_cons rfl all_nil)))) (fun h55 mh55 sh55 s56 => ?_)
          have E57 := Eh.new mh55 (fun b hb => Or.inl hb)
          refine s_nil ⟨fun hl => (by cases hl), ?_⟩
          have hk58 : ((k - 1)).toNat < (ll.set ((k).toNat) x52).length := (by first | omega | (simp; omega))
          obtain ⟨x59, hx59⟩ : ∃ x, (ll.set ((k).toNat) x52)[((k - 1)).toNat]? = some x := ⟨_, List.getElem?_eq_getElem hk58⟩
          refine d_pureT (.pointer (some ⟨sblk v_l, soff v_l + (((k - 1)).toNat) * 4, none⟩)) (fun _ q => s56.idx (k := ((k - 1)).toNat) (by omega) hk58 q) ?_
          refine d_eff ?_
          refine s_stSl (k := ((k - 1)).toNat) (j := 0) x54 (.agg #[.int .i64 x54.message, .int .i64 x54.part, .int .i64 x54.parts, x54.sv.v]) [.int .i64 x54.message, .int .i64 x54.part, .int .i64 x54.parts, x54.sv.v] s56 rfl rfl rfl rfl rfl hx59 (Nat.le_of_ble_eq_true rfl) rfl (all_cons rfl (all_cons rfl (all_cons rfl (all_cons rfl all_nil)))) (fun h60 mh60 sh60 s61 => ?_)
          have E62 := E57.new mh60 (fun b hb => Or.inl hb)
          refine s_nil ⟨fun hl => (by cases hl), ?_⟩
          refine d_done ?_
          refine p_blkN ?_
          refine p_seqN ?_
          refine v_ops ?_
          refine s_pure (.int .i64 k) (fun _ q => q) ?_
          refine s_pure (.int .i64 (k - 1)) (fun _ q => ArithVC.mk (by omega) q) ?_
          refine s_pure (.int .i64 (k - 1)) (fun _ q => q) ?_
          refine s_nil ?_
          exact p_lpN ⟨(k - 1), ((ll.set ((k).toNat) x52).set (((k - 1)).toNat) x54), ⟨rfl, rfl, rfl⟩, ⟨E62, (sl_eq s61 rfl), (by exact ⟨by omega, by omega, down_step (by omega) hkm (by omega) hll (by assumption) (by assumption)⟩)⟩, by omega⟩
        ·
          refine v_exit ?_
          refine p_seqX ?_
          refine p_lpX ?_
          refine p_blkX ?_
          refine p_seqN ?_
          refine v_ret ?_
          refine p_seqR ?_
          refine p_ret [] (.tuple #[]) (fun _ q => q) rfl ?_
          have hz : Like pkKey l ll a.toNat b.toNat ∧ SoOn pkKey ll a.toNat b.toNat := by first | (rw [hll, show (k.toNat + 1) = i.toNat by omega]; exact sym_fst h0 (by omega) hi (by omega) hj h3 hB hI hJ) | (rw [hll, show k = i by omega]; exact sym_snd h0 (by omega) hi (by omega) hj h3 hA hI hJ)
          exact ⟨rfl, ll, s_l, Eh, hz⟩
    ·
      refine v_skip ?_
      refine p_seqN ?_
      refine v_seq ?_
      refine v_ops ?_
      refine s_pure (.int .i64 a) (fun _ q => q) ?_
      refine s_pure (.int .i64 b) (fun _ q => q) ?_
      refine s_pure (.int .i64 (a + b)) (fun _ q => ArithVC.mk (by omega) q) ?_
      refine s_pure (.int .u64 (IntKind.u64.wrap (a + b))) (fun _ q => q) ?_
      refine s_pure (.int .u64 (((IntKind.u64.wrap (a + b))).fdiv (2 ^ (min ((1) : Int).toNat IntKind.u64.bits)))) (fun _ q => ⟨by decide, q⟩) ?_
      obtain ⟨md63, hlmd63, humd63, hkmd63⟩ := half_conv (a := (a + b)) (by omega) (by omega)
      refine s_pure (.int .i64 md63) (fun _ q => hkmd63 _ q) ?_
      refine s_pure (.int .i64 md63) (fun _ q => q) ?_
      refine s_nil ?_
      refine p_seqN ?_
      refine v_seq ?_
      refine v_ops ?_
      refine s_pure (.int .i64 md63) (fun _ q => q) ?_
      refine s_pure (.int .i64 m) (fun _ q => q) ?_
      refine s_pure (.int .i64 (md63 + m)) (fun _ q => ArithVC.mk (by omega) q) ?_
      refine s_pure (.int .i64 (md63 + m)) (fun _ q => q) ?_
      refine s_nil ?_
      refine p_seqN ?_
      refine v_seq ?_
      refine v_ops ?_
      refine s_pure (.int .i64 0) (fun _ q => q) ?_
      refine s_pure (.int .i64 0) (fun _ q => q) ?_
      refine s_nil ?_
      refine p_seqN ?_
      refine v_seq ?_
      refine v_seq ?_
      refine v_ops ?_
      refine s_pure (.int .i64 m) (fun _ q => q) ?_
      refine s_pure (.int .i64 md63) (fun _ q => q) ?_
      refine s_pure (.bool (decide (m > md63))) (fun _ q => q) ?_
      refine s_nil ?_
      refine p_seqN ?_
      refine v_cond rfl (fun c64 => ?_) (fun c64 => ?_)
      ·
        refine v_seq ?_
        refine v_ops ?_
        refine s_pure (.int .i64 (md63 + m)) (fun _ q => q) ?_
        refine s_pure (.int .i64 b) (fun _ q => q) ?_
        refine s_pure (.int .i64 ((md63 + m) - b)) (fun _ q => ArithVC.mk (by omega) q) ?_
        refine s_pure (.int .i64 ((md63 + m) - b)) (fun _ q => q) ?_
        refine s_nil ?_
        refine p_seqN ?_
        refine v_ops ?_
        refine s_pure (.int .i64 md63) (fun _ q => q) ?_
        refine s_pure (.int .i64 md63) (fun _ q => q) ?_
        refine s_nil ?_
        refine p_seqN ?_
        refine v_seq ?_
        refine v_ops ?_
        refine s_pure (.int .i64 (md63 + m)) (fun _ q => q) ?_
        refine s_pure (.int .i64 ((md63 + m) - 1)) (fun _ q => ArithVC.mk (by omega) q) ?_
        refine s_pure (.int .i64 ((md63 + m) - 1)) (fun _ q => q) ?_
        refine s_nil ?_
        refine p_seqN ?_
        refine v_seq ?_
        refine v_block ?_
        refine v_loop3 (α := Int) (β := Int) (γ := List Pk) (fun i j l0 => [(0, v_l), (1, .int .i64 a), (2, .int .i64 m), (3, .int .i64 b), (4, .func (.func 66) #[] #[]), (18, .int .i64 md63), (19, .int .i64 (md63 + m)), (20, .int .i64 i), (21, .int .i64 j), (22, .int .i64 ((md63 + m) - 1))]) (fun i j l0 hh => Mod (blks v_l) h hh ∧ SlO hh v_l l0 ∧ l0 = l ∧ ((md63 + m) - b) ≤ i ∧ i ≤ j ∧ j ≤ md63 ∧ (((md63 + m) - b) < i → nF l (((md63 + m) - 1) - (i - 1)) (i - 1)) ∧ (j < md63 → yF l (((md63 + m) - 1) - j) j)) (fun i j l0 => (j - i).toNat) ((md63 + m) - b) md63 l ⟨rfl, rfl, rfl, rfl, rfl, rfl, rfl, rfl, rfl, rfl⟩ ⟨(Mod.refl (blks v_l) h), s_l, (by exact ⟨rfl, by omega, by omega, by omega, fun hc => by omega, fun hc => by omega⟩)⟩ ?_
        rintro i j l0 R66 h65 ⟨Eh, s_l, ⟨hl0, hi, hij, hj, hI, hJ⟩⟩
        have zEh := Eh.size
        have lt_l := s_l.lt
        have hlen0 : l0.length = l.length := by rw [hl0]
        refine v_seq ?_
        refine v_seq ?_
        refine v_ops ?_
        refine s_pure (.int .i64 i) (fun _ q => q) ?_
        refine s_pure (.int .i64 j) (fun _ q => q) ?_
        refine s_pure (.bool (decide (i < j))) (fun _ q => q) ?_
        refine s_nil ?_
        refine p_seqN ?_
        refine v_cond rfl (fun c67 => ?_) (fun c67 => ?_)
        ·
          refine v_skip ?_
          refine p_seqN ?_
          refine v_block ?_
          refine v_seq ?_
          refine v_ops ?_
          refine s_pure (.int .i64 i) (fun _ q => q) ?_
          refine s_pure (.int .i64 j) (fun _ q => q) ?_
          refine s_pure (.int .i64 (i + j)) (fun _ q => ArithVC.mk (by omega) q) ?_
          refine s_pure (.int .u64 (IntKind.u64.wrap (i + j))) (fun _ q => q) ?_
          refine s_pure (.int .u64 (((IntKind.u64.wrap (i + j))).fdiv (2 ^ (min ((1) : Int).toNat IntKind.u64.bits)))) (fun _ q => ⟨by decide, q⟩) ?_
          obtain ⟨md68, hlmd68, humd68, hkmd68⟩ := half_conv (a := (i + j)) (by omega) (by omega)
          refine s_pure (.int .i64 md68) (fun _ q => hkmd68 _ q) ?_
          refine s_pure (.int .i64 md68) (fun _ q => q) ?_
          refine s_nil ?_
          refine p_seqN ?_
          refine v_seq ?_
          refine v_drawF ?_
          refine d_pureT (.func (.func 66) #[] #[]) (fun _ q => q) ?_
          refine d_pureT v_l (fun _ q => q) ?_
          refine d_pureT (.int .i64 ((md63 + m) - 1)) (fun _ q => q) ?_
          refine d_pureT (.int .i64 md68) (fun _ q => q) ?_
          refine d_pureT (.int .i64 (((md63 + m) - 1) - md68)) (fun _ q => ArithVC.mk (by omega) q) ?_
          have hk69 : ((((md63 + m) - 1) - md68)).toNat < l0.length := (by first | omega | (simp; omega))
          obtain ⟨x70, hx70⟩ : ∃ x, l0[((((md63 + m) - 1) - md68)).toNat]? = some x := ⟨_, List.getElem?_eq_getElem hk69⟩
          refine d_pureT (.pointer (some ⟨sblk v_l, soff v_l + (((((md63 + m) - 1) - md68)).toNat) * 4, none⟩)) (fun _ q => s_l.idx (k := ((((md63 + m) - 1) - md68)).toNat) (by omega) hk69 q) ?_
          refine d_pureT v_l (fun _ q => q) ?_
          refine d_pureT (.int .i64 md68) (fun _ q => q) ?_
          have hk71 : (md68).toNat < l0.length := (by first | omega | (simp; omega))
          obtain ⟨x72, hx72⟩ : ∃ x, l0[(md68).toNat]? = some x := ⟨_, List.getElem?_eq_getElem hk71⟩
          refine d_pureT (.pointer (some ⟨sblk v_l, soff v_l + ((md68).toNat) * 4, none⟩)) (fun _ q => s_l.idx (k := (md68).toNat) (by omega) hk71 q) ?_
          refine d_loadO (.agg #[.int .i64 x70.message, .int .i64 x70.part, .int .i64 x70.parts, x70.sv.v]) (fun _ q => s_l.loadN hx70 rfl q) ?_
          refine d_loadO (.agg #[.int .i64 x72.message, .int .i64 x72.part, .int .i64 x72.parts, x72.sv.v]) (fun _ q => s_l.loadN hx72 rfl q) ?_
          refine d_eff ?_
          refine s_callv [.agg #[.int .i64 x70.message, .int .i64 x70.part, .int .i64 x70.parts, x70.sv.v], .agg #[.int .i64 x72.message, .int .i64 x72.part, .int .i64 x72.parts, x72.sv.v]] rfl rfl (impl_SortPackets_1_ok x70 x72 _) ?_
          rintro _ h73 ⟨rfl, eh73⟩
          have E74 := Eh.trans (Mod.of_ext eh73 _)
          have z75 := eh73.size
          have G76 := eh73
          refine s_nil ⟨fun hl => (by cases hl), ?_⟩
          refine d_pureT (.bool (decide ((pkCmp x70 x72) < 0))) (fun _ q => q) ?_
          refine d_pureT (.bool (!(decide ((pkCmp x70 x72) < 0)))) (fun _ q => q) ?_
          refine d_done ?_
          refine p_seqN ?_
          refine v_cond rfl (fun c77 => ?_) (fun c77 => ?_)
          ·
            refine v_ops ?_
            refine s_pure (.int .i64 md68) (fun _ q => q) ?_
            refine s_pure (.int .i64 (md68 + 1)) (fun _ q => ArithVC.mk (by omega) q) ?_
            refine s_pure (.int .i64 (md68 + 1)) (fun _ q => q) ?_
            refine s_nil ?_
            refine p_blkN ?_
            have f78 := (s_l.ext eh73)
            exact p_lpN ⟨(md68 + 1), j, l0, ⟨rfl, rfl, rfl, rfl, rfl, rfl, rfl, rfl, rfl, rfl⟩, ⟨E74, (sl_eq f78 rfl), (by first | exact ⟨hl0, by omega, by omega, by omega, fun _ => by (rw [show ∀ c : Int, c + 1 - 1 = c from fun c => by omega]; exact hl0 ▸ nF_of (by assumption) (by assumption) (by assumption)), hJ⟩ | exact ⟨hl0, by omega, by omega, by omega, hI, fun _ => hl0 ▸ yF_of (by assumption) (by assumption) (by assumption)⟩)⟩, by omega⟩
          ·
            have c77 := Classical.not_not.1 c77
            refine v_ops ?_
            refine s_pure (.int .i64 md68) (fun _ q => q) ?_
            refine s_pure (.int .i64 md68) (fun _ q => q) ?_
            refine s_nil ?_
            refine p_blkN ?_
            have f79 := (s_l.ext eh73)
            exact p_lpN ⟨i, md68, l0, ⟨rfl, rfl, rfl, rfl, rfl, rfl, rfl, rfl, rfl, rfl⟩, ⟨E74, (sl_eq f79 rfl), (by first | exact ⟨hl0, by omega, by omega, by omega, fun _ => by (rw [show ∀ c : Int, c + 1 - 1 = c from fun c => by omega]; exact hl0 ▸ nF_of (by assumption) (by assumption) (by assumption)), hJ⟩ | exact ⟨hl0, by omega, by omega, by omega, hI, fun _ => hl0 ▸ yF_of (by assumption) (by assumption) (by assumption)⟩)⟩, by omega⟩
        ·
          refine v_exit ?_
          refine p_seqX ?_
          refine p_lpX ?_
          refine p_blkX ?_
          refine p_seqN ?_
          refine v_seq ?_
          refine v_ops ?_
          refine s_pure (.int .i64 (md63 + m)) (fun _ q => q) ?_
          refine s_pure (.int .i64 i) (fun _ q => q) ?_
          refine s_pure (.int .i64 ((md63 + m) - i)) (fun _ q => ArithVC.mk (by omega) q) ?_
          refine s_pure (.int .i64 ((md63 + m) - i)) (fun _ q => q) ?_
          refine s_nil ?_
          refine p_seqN ?_
          refine v_seq ?_
          refine v_seq ?_
          refine v_ops ?_
          refine s_pure (.int .i64 i) (fun _ q => q) ?_
          refine s_pure (.int .i64 m) (fun _ q => q) ?_
          refine s_pure (.bool (decide (i < m))) (fun _ q => q) ?_
          refine s_pure (.bool (decide (i < m))) (fun _ q => q) ?_
          refine s_splitT rfl (fun c80 => ?_) (fun c80 => ?_)
          ·
            refine s_run rfl ?_
            refine s_pure (.int .i64 m) (fun _ q => q) ?_
            refine s_run rfl ?_
            refine s_pure (.int .i64 ((md63 + m) - i)) (fun _ q => q) ?_
            refine s_run rfl ?_
            refine s_pure (.bool (decide (m < ((md63 + m) - i)))) (fun _ q => q) ?_
            refine s_pure (.bool (decide (m < ((md63 + m) - i)))) (fun _ q => q) ?_
            refine s_nil ?_
            refine p_seqN ?_
            refine v_cond rfl (fun c81 => ?_) (fun c81 => ?_)
            ·
              refine v_ops ?_
              refine s_pure v_l (fun _ q => q) ?_
              refine s_pure (.int .i64 i) (fun _ q => q) ?_
              refine s_pure (.int .i64 m) (fun _ q => q) ?_
              refine s_pure (.int .i64 ((md63 + m) - i)) (fun _ q => q) ?_
              refine s_pure (.func (.func 66) #[] #[]) (fun _ q => q) ?_
              refine s_call [v_l, .int .i64 i, .int .i64 m, .int .i64 ((md63 + m) - i), .func (.func 66) #[] #[]] rfl (slices_rotateCmpFunc_impl_Packet_ok v_l l0 i m ((md63 + m) - i) _ s_l (by omega) (by omega) (by omega) (by omega) (by omega)) ?_
              rintro _ h82 ⟨rfl, s83, mh82⟩
              have zh82 := mh82.size
              have E84 := Eh.new mh82 (fun b hb => Or.inl hb)
              refine s_nil ?_
              refine p_seqN ?_
              refine v_seq ?_
              refine v_seq ?_
              refine v_ops ?_
              refine s_pure (.int .i64 a) (fun _ q => q) ?_
              refine s_pure (.int .i64 i) (fun _ q => q) ?_
              refine s_pure (.bool (decide (a < i))) (fun _ q => q) ?_
              refine s_pure (.bool (decide (a < i))) (fun _ q => q) ?_
              refine s_splitT rfl (fun c85 => ?_) (fun c85 => ?_)
              ·
                refine s_run rfl ?_
                refine s_pure (.int .i64 i) (fun _ q => q) ?_
                refine s_run rfl ?_
                refine s_pure (.int .i64 md63) (fun _ q => q) ?_
                refine s_run rfl ?_
                refine s_pure (.bool (decide (i < md63))) (fun _ q => q) ?_
                refine s_pure (.bool (decide (i < md63))) (fun _ q => q) ?_
                refine s_nil ?_
                refine p_seqN ?_
                refine v_cond rfl (fun c86 => ?_) (fun c86 => ?_)
                ·
                  refine v_ops ?_
                  refine s_pure v_l (fun _ q => q) ?_
                  refine s_pure (.int .i64 a) (fun _ q => q) ?_
                  refine s_pure (.int .i64 i) (fun _ q => q) ?_
                  refine s_pure (.int .i64 md63) (fun _ q => q) ?_
                  refine s_pure (.func (.func 66) #[] #[]) (fun _ q => q) ?_
                  have sj : SymJ l a m b i md63 := by first | exact sj_hi h0 h1 h2 h3 hA hB hlmd63 humd63 (by omega) hi (by omega) hj hI hJ | exact sj_lo h0 h1 h2 h3 hA hB hlmd63 humd63 (by omega) hi (by omega) hj hI hJ
                  have hd91 : (rotL l0 i.toNat m.toNat ((md63 + m) - i).toNat) = rotL l i.toNat m.toNat (md63 + m - i).toNat := (by first | (rw [hl0]; done) | exact hl0.trans (sj.id (by omega)).symm)
                  have hlhd91 := sj.len hd91
                  refine s_call [v_l, .int .i64 a, .int .i64 i, .int .i64 md63, .func (.func 66) #[] #[]] rfl (ih v_l (rotL l0 i.toNat m.toNat ((md63 + m) - i).toNat) a i md63 _ (by omega) s83 (by omega) (by omega) (by omega) (by omega) (by omega) (sj.p1 hd91) (sj.p2 hd91)) ?_
                  rintro _ h87 ⟨rfl, q89, s88, mh87, hp90⟩
                  have zh87 := mh87.size
                  have hlq89 := hp90.1.len
                  have E92 := E84.new mh87 (fun b hb => Or.inl hb)
                  refine s_nil ?_
                  refine p_seqN ?_
                  refine v_seq ?_
                  refine v_ops ?_
                  refine s_pure (.int .i64 md63) (fun _ q => q) ?_
                  refine s_pure (.int .i64 ((md63 + m) - i)) (fun _ q => q) ?_
                  refine s_pure (.bool (decide (md63 < ((md63 + m) - i)))) (fun _ q => q) ?_
                  refine s_pure (.bool (decide (md63 < ((md63 + m) - i)))) (fun _ q => q) ?_
                  refine s_splitT rfl (fun c93 => ?_) (fun c93 => ?_)
                  ·
                    refine s_run rfl ?_
                    refine s_pure (.int .i64 ((md63 + m) - i)) (fun _ q => q) ?_
                    refine s_run rfl ?_
                    refine s_pure (.int .i64 b) (fun _ q => q) ?_
                    refine s_run rfl ?_
                    refine s_pure (.bool (decide (((md63 + m) - i) < b))) (fun _ q => q) ?_
                    refine s_pure (.bool (decide (((md63 + m) - i) < b))) (fun _ q => q) ?_
                    refine s_nil ?_
                    refine p_seqN ?_
                    refine v_cond rfl (fun c94 => ?_) (fun c94 => ?_)
                    ·
                      refine v_ops ?_
                      refine s_pure v_l (fun _ q => q) ?_
                      refine s_pure (.int .i64 md63) (fun _ q => q) ?_
                      refine s_pure (.int .i64 ((md63 + m) - i)) (fun _ q => q) ?_
                      refine s_pure (.int .i64 b) (fun _ q => q) ?_
                      refine s_pure (.func (.func 66) #[] #[]) (fun _ q => q) ?_
                      refine s_call [v_l, .int .i64 md63, .int .i64 ((md63 + m) - i), .int .i64 b, .func (.func 66) #[] #[]] rfl (ih v_l q89 md63 ((md63 + m) - i) b _ (by omega) s88 (by omega) (by omega) (by omega) (by omega) (by omega) (sj.p3 hd91 hp90.1) (sj.p4 hd91 hp90.1)) ?_
                      rintro _ h95 ⟨rfl, q97, s96, mh95, hp98⟩
                      have zh95 := mh95.size
                      have hlq97 := hp98.1.len
                      have E99 := E92.new mh95 (fun b hb => Or.inl hb)
                      refine s_nil ?_
                      refine p_end [] (.tuple #[]) (fun _ q => q) rfl ?_
                      have hz := sj.fin hd91 hp90 hp98
                      exact ⟨rfl, q97, s96, E99, hz⟩
                    ·
                      refine v_skip ?_
                      refine p_end [] (.tuple #[]) (fun _ q => q) rfl ?_
                      have hz := sj.fin hd91 hp90 (sj.no2 hd91 hp90.1 (by omega))
                      exact ⟨rfl, q89, s88, E92, hz⟩
                  ·
                    refine s_pass rfl ?_
                    refine s_pass rfl ?_
                    refine s_pass rfl ?_
                    refine s_pure (.bool false) (fun _ q => q) ?_
                    refine s_nil ?_
                    refine p_seqN ?_
                    refine v_condN rfl (by simp) ?_
                    refine v_skip ?_
                    refine p_end [] (.tuple #[]) (fun _ q => q) rfl ?_
                    have hz := sj.fin hd91 hp90 (sj.no2 hd91 hp90.1 (by omega))
                    exact ⟨rfl, q89, s88, E92, hz⟩
                ·
                  refine v_skip ?_
                  refine p_seqN ?_
                  refine v_seq ?_
                  refine v_ops ?_
                  refine s_pure (.int .i64 md63) (fun _ q => q) ?_
                  refine s_pure (.int .i64 ((md63 + m) - i)) (fun _ q => q) ?_
                  refine s_pure (.bool (decide (md63 < ((md63 + m) - i)))) (fun _ q => q) ?_
                  refine s_pure (.bool (decide (md63 < ((md63 + m) - i)))) (fun _ q => q) ?_
                  refine s_splitT rfl (fun c100 => ?_) (fun c100 => ?_)
                  ·
                    refine s_run rfl ?_
                    refine s_pure (.int .i64 ((md63 + m) - i)) (fun _ q => q) ?_
                    refine s_run rfl ?_
                    refine s_pure (.int .i64 b) (fun _ q => q) ?_
                    refine s_run rfl ?_
                    refine s_pure (.bool (decide (((md63 + m) - i) < b))) (fun _ q => q) ?_
                    refine s_pure (.bool (decide (((md63 + m) - i) < b))) (fun _ q => q) ?_
                    refine s_nil ?_
                    refine p_seqN ?_
                    refine v_cond rfl (fun c101 => ?_) (fun c101 => ?_)
                    ·
                      refine v_ops ?_
                      refine s_pure v_l (fun _ q => q) ?_
                      refine s_pure (.int .i64 md63) (fun _ q => q) ?_
                      refine s_pure (.int .i64 ((md63 + m) - i)) (fun _ q => q) ?_
                      refine s_pure (.int .i64 b) (fun _ q => q) ?_
                      refine s_pure (.func (.func 66) #[] #[]) (fun _ q => q) ?_
                      have sj : SymJ l a m b i md63 := by first | exact sj_hi h0 h1 h2 h3 hA hB hlmd63 humd63 (by omega) hi (by omega) hj hI hJ | exact sj_lo h0 h1 h2 h3 hA hB hlmd63 humd63 (by omega) hi (by omega) hj hI hJ
                      have hd106 : (rotL l0 i.toNat m.toNat ((md63 + m) - i).toNat) = rotL l i.toNat m.toNat (md63 + m - i).toNat := (by first | (rw [hl0]; done) | exact hl0.trans (sj.id (by omega)).symm)
                      have hlhd106 := sj.len hd106
                      refine s_call [v_l, .int .i64 md63, .int .i64 ((md63 + m) - i), .int .i64 b, .func (.func 66) #[] #[]] rfl (ih v_l (rotL l0 i.toNat m.toNat ((md63 + m) - i).toNat) md63 ((md63 + m) - i) b _ (by omega) s83 (by omega) (by omega) (by omega) (by omega) (by omega) (sj.p3 hd106 (Like.refl _ _ _)) (sj.p4 hd106 (Like.refl _ _ _))) ?_
                      rintro _ h102 ⟨rfl, q104, s103, mh102, hp105⟩
                      have zh102 := mh102.size
                      have hlq104 := hp105.1.len
                      have E107 := E84.new mh102 (fun b hb => Or.inl hb)
                      refine s_nil ?_
                      refine p_end [] (.tuple #[]) (fun _ q => q) rfl ?_
                      have hz := sj.fin hd106 (sj.no1 hd106 (by omega)) hp105
                      exact ⟨rfl, q104, s103, E107, hz⟩
                    ·
                      refine v_skip ?_
                      refine p_end [] (.tuple #[]) (fun _ q => q) rfl ?_
                      have sj : SymJ l a m b i md63 := by first | exact sj_hi h0 h1 h2 h3 hA hB hlmd63 humd63 (by omega) hi (by omega) hj hI hJ | exact sj_lo h0 h1 h2 h3 hA hB hlmd63 humd63 (by omega) hi (by omega) hj hI hJ
                      have hd : (rotL l0 i.toNat m.toNat ((md63 + m) - i).toNat) = rotL l i.toNat m.toNat (md63 + m - i).toNat := (by first | (rw [hl0]; done) | exact hl0.trans (sj.id (by omega)).symm)
                      have hz := sj.fin hd (sj.no1 hd (by omega)) (sj.no2 hd (sj.no1 hd (by omega)).1 (by omega))
                      exact ⟨rfl, (rotL l0 i.toNat m.toNat ((md63 + m) - i).toNat), s83, E84, hz⟩
                  ·
                    refine s_pass rfl ?_
                    refine s_pass rfl ?_
                    refine s_pass rfl ?_
                    refine s_pure (.bool false) (fun _ q => q) ?_
                    refine s_nil ?_
                    refine p_seqN ?_
                    refine v_condN rfl (by simp) ?_
                    refine v_skip ?_
                    refine p_end [] (.tuple #[]) (fun _ q => q) rfl ?_
                    have sj : SymJ l a m b i md63 := by first | exact sj_hi h0 h1 h2 h3 hA hB hlmd63 humd63 (by omega) hi (by omega) hj hI hJ | exact sj_lo h0 h1 h2 h3 hA hB hlmd63 humd63 (by omega) hi (by omega) hj hI hJ
                    have hd : (rotL l0 i.toNat m.toNat ((md63 + m) - i).toNat) = rotL l i.toNat m.toNat (md63 + m - i).toNat := (by first | (rw [hl0]; done) | exact hl0.trans (sj.id (by omega)).symm)
                    have hz := sj.fin hd (sj.no1 hd (by omega)) (sj.no2 hd (sj.no1 hd (by omega)).1 (by omega))
                    exact ⟨rfl, (rotL l0 i.toNat m.toNat ((md63 + m) - i).toNat), s83, E84, hz⟩
              ·
                refine s_pass rfl ?_
                refine s_pass rfl ?_
                refine s_pass rfl ?_
                refine s_pure (.bool false) (fun _ q => q) ?_
                refine s_nil ?_
                refine p_seqN ?_
                refine v_condN rfl (by simp) ?_
                refine v_skip ?_
                refine p_seqN ?_
                refine v_seq ?_
                refine v_ops ?_
                refine s_pure (.int .i64 md63) (fun _ q => q) ?_
                refine s_pure (.int .i64 ((md63 + m) - i)) (fun _ q => q) ?_
                refine s_pure (.bool (decide (md63 < ((md63 + m) - i)))) (fun _ q => q) ?_
                refine s_pure (.bool (decide (md63 < ((md63 + m) - i)))) (fun _ q => q) ?_
                refine s_splitT rfl (fun c108 => ?_) (fun c108 => ?_)
                ·
                  refine s_run rfl ?_
                  refine s_pure (.int .i64 ((md63 + m) - i)) (fun _ q => q) ?_
                  refine s_run rfl ?_
                  refine s_pure (.int .i64 b) (fun _ q => q) ?_
                  refine s_run rfl ?_
                  refine s_pure (.bool (decide (((md63 + m) - i) < b))) (fun _ q => q) ?_
                  refine s_pure (.bool (decide (((md63 + m) - i) < b))) (fun _ q => q) ?_
                  refine s_nil ?_
                  refine p_seqN ?_
                  refine v_cond rfl (fun c109 => ?_) (fun c109 => ?_)
                  ·
                    refine v_ops ?_
                    refine s_pure v_l (fun _ q => q) ?_
                    refine s_pure (.int .i64 md63) (fun _ q => q) ?_
                    refine s_pure (.int .i64 ((md63 + m) - i)) (fun _ q => q) ?_
                    refine s_pure (.int .i64 b) (fun _ q => q) ?_
                    refine s_pure (.func (.func 66) #[] #[]) (fun _ q => q) ?_
                    have sj : SymJ l a m b i md63 := by first | exact sj_hi h0 h1 h2 h3 hA hB hlmd63 humd63 (by omega) hi (by omega) hj hI hJ | exact sj_lo h0 h1 h2 h3 hA hB hlmd63 humd63 (by omega) hi (by omega) hj hI hJ
                    have hd114 : (rotL l0 i.toNat m.toNat ((md63 + m) - i).toNat) = rotL l i.toNat m.toNat (md63 + m - i).toNat := (by first | (rw [hl0]; done) | exact hl0.trans (sj.id (by omega)).symm)
                    have hlhd114 := sj.len hd114
                    refine s_call [v_l, .int .i64 md63, .int .i64 ((md63 + m) - i), .int .i64 b, .func (.func 66) #[] #[]] rfl (ih v_l (rotL l0 i.toNat m.toNat ((md63 + m) - i).toNat) md63 ((md63 + m) - i) b _ (by omega) s83 (by omega) (by omega) (by omega) (by omega) (by omega) (sj.p3 hd114 (Like.refl _ _ _)) (sj.p4 hd114 (Like.refl _ _ _))) ?_
                    rintro _ h110 ⟨rfl, q112, s111, mh110, hp113⟩
                    have zh110 := mh110.size
                    have hlq112 := hp113.1.len
                    have E115 := E84.new mh110 (fun b hb => Or.inl hb)
                    refine s_nil ?_
                    refine p_end [] (.tuple #[]) (fun _ q => q) rfl ?_
                    have hz := sj.fin hd114 (sj.no1 hd114 (by omega)) hp113
                    exact ⟨rfl, q112, s111, E115, hz⟩
                  ·
                    refine v_skip ?_
                    refine p_end [] (.tuple #[]) (fun _ q => q) rfl ?_
                    have sj : SymJ l a m b i md63 := by first | exact sj_hi h0 h1 h2 h3 hA hB hlmd63 humd63 (by omega) hi (by omega) hj hI hJ | exact sj_lo h0 h1 h2 h3 hA hB hlmd63 humd63 (by omega) hi (by omega) hj hI hJ
                    have hd : (rotL l0 i.toNat m.toNat ((md63 + m) - i).toNat) = rotL l i.toNat m.toNat (md63 + m - i).toNat := (by first | (rw [hl0]; done) | exact hl0.trans (sj.id (by omega)).symm)
                    have hz := sj.fin hd (sj.no1 hd (by omega)) (sj.no2 hd (sj.no1 hd (by omega)).1 (by omega))
                    exact ⟨rfl, (rotL l0 i.toNat m.toNat ((md63 + m) - i).toNat), s83, E84, hz⟩
                ·
                  refine s_pass rfl ?_
                  refine s_pass rfl ?_
                  refine s_pass rfl ?_
                  refine s_pure (.bool false) (fun _ q => q) ?_
                  refine s_nil ?_
                  refine p_seqN ?_
                  refine v_condN rfl (by simp) ?_
                  refine v_skip ?_
                  refine p_end [] (.tuple #[]) (fun _ q => q) rfl ?_
                  have sj : SymJ l a m b i md63 := by first | exact sj_hi h0 h1 h2 h3 hA hB hlmd63 humd63 (by omega) hi (by omega) hj hI hJ | exact sj_lo h0 h1 h2 h3 hA hB hlmd63 humd63 (by omega) hi (by omega) hj hI hJ
                  have hd : (rotL l0 i.toNat m.toNat ((md63 + m) - i).toNat) = rotL l i.toNat m.toNat (md63 + m - i).toNat := (by first | (rw [hl0]; done) | exact hl0.trans (sj.id (by omega)).symm)
                  have hz := sj.fin hd (sj.no1 hd (by omega)) (sj.no2 hd (sj.no1 hd (by omega)).1 (by omega))
                  exact ⟨rfl, (rotL l0 i.toNat m.toNat ((md63 + m) - i).toNat), s83, E84, hz⟩
            ·
              refine v_skip ?_
              refine p_seqN ?_
              refine v_seq ?_
              refine v_seq ?_
              refine v_ops ?_
              refine s_pure (.int .i64 a) (fun _ q => q) ?_
              refine s_pure (.int .i64 i) (fun _ q => q) ?_
              refine s_pure (.bool (decide (a < i))) (fun _ q => q) ?_
              refine s_pure (.bool (decide (a < i))) (fun _ q => q) ?_
              refine s_splitT rfl (fun c116 => ?_) (fun c116 => ?_)
              ·
                refine s_run rfl ?_
                refine s_pure (.int .i64 i) (fun _ q => q) ?_
                refine s_run rfl ?_
                refine s_pure (.int .i64 md63) (fun _ q => q) ?_
                refine s_run rfl ?_
                refine s_pure (.bool (decide (i < md63))) (fun _ q => q) ?_
                refine s_pure (.bool (decide (i < md63))) (fun _ q => q) ?_
                refine s_nil ?_
                refine p_seqN ?_
                refine v_cond rfl (fun c117 => ?_) (fun c117 => ?_)
                ·
                  refine v_ops ?_
                  refine s_pure v_l (fun _ q => q) ?_
                  refine s_pure (.int .i64 a) (fun _ q => q) ?_
                  refine s_pure (.int .i64 i) (fun _ q => q) ?_
                  refine s_pure (.int .i64 md63) (fun _ q => q) ?_
                  refine s_pure (.func (.func 66) #[] #[]) (fun _ q => q) ?_
                  have sj : SymJ l a m b i md63 := by first | exact sj_hi h0 h1 h2 h3 hA hB hlmd63 humd63 (by omega) hi (by omega) hj hI hJ | exact sj_lo h0 h1 h2 h3 hA hB hlmd63 humd63 (by omega) hi (by omega) hj hI hJ
                  have hd122 : l0 = rotL l i.toNat m.toNat (md63 + m - i).toNat := (by first | (rw [hl0]; done) | exact hl0.trans (sj.id (by omega)).symm)
                  have hlhd122 := sj.len hd122
                  refine s_call [v_l, .int .i64 a, .int .i64 i, .int .i64 md63, .func (.func 66) #[] #[]] rfl (ih v_l l0 a i md63 _ (by omega) s_l (by omega) (by omega) (by omega) (by omega) (by omega) (sj.p1 hd122) (sj.p2 hd122)) ?_
                  rintro _ h118 ⟨rfl, q120, s119, mh118, hp121⟩
                  have zh118 := mh118.size
                  have hlq120 := hp121.1.len
                  have E123 := Eh.new mh118 (fun b hb => Or.inl hb)
                  refine s_nil ?_
                  refine p_seqN ?_
                  refine v_seq ?_
                  refine v_ops ?_
                  refine s_pure (.int .i64 md63) (fun _ q => q) ?_
                  refine s_pure (.int .i64 ((md63 + m) - i)) (fun _ q => q) ?_
                  refine s_pure (.bool (decide (md63 < ((md63 + m) - i)))) (fun _ q => q) ?_
                  refine s_pure (.bool (decide (md63 < ((md63 + m) - i)))) (fun _ q => q) ?_
                  refine s_splitT rfl (fun c124 => ?_) (fun c124 => ?_)
                  ·
                    refine s_run rfl ?_
                    refine s_pure (.int .i64 ((md63 + m) - i)) (fun _ q => q) ?_
                    refine s_run rfl ?_
                    refine s_pure (.int .i64 b) (fun _ q => q) ?_
                    refine s_run rfl ?_
                    refine s_pure (.bool (decide (((md63 + m) - i) < b))) (fun _ q => q) ?_
                    refine s_pure (.bool (decide (((md63 + m) - i) < b))) (fun _ q => q) ?_
                    refine s_nil ?_
                    refine p_seqN ?_
                    refine v_cond rfl (fun c125 => ?_) (fun c125 => ?_)
                    ·
                      refine v_ops ?_
                      refine s_pure v_l (fun _ q => q) ?_
                      refine s_pure (.int .i64 md63) (fun _ q => q) ?_
                      refine s_pure (.int .i64 ((md63 + m) - i)) (fun _ q => q) ?_
                      refine s_pure (.int .i64 b) (fun _ q => q) ?_
                      refine s_pure (.func (.func 66) #[] #[]) (fun _ q => q) ?_
                      refine s_call [v_l, .int .i64 md63, .int .i64 ((md63 + m) - i), .int .i64 b, .func (.func 66) #[] #[]] rfl (ih v_l q120 md63 ((md63 + m) - i) b _ (by omega) s119 (by omega) (by omega) (by omega) (by omega) (by omega) (sj.p3 hd122 hp121.1) (sj.p4 hd122 hp121.1)) ?_
                      rintro _ h126 ⟨rfl, q128, s127, mh126, hp129⟩
                      have zh126 := mh126.size
                      have hlq128 := hp129.1.len
                      have E130 := E123.new mh126 (fun b hb => Or.inl hb)
                      refine s_nil ?_
                      refine p_end [] (.tuple #[]) (fun _ q => q) rfl ?_
                      have hz := sj.fin hd122 hp121 hp129
                      exact ⟨rfl, q128, s127, E130, hz⟩
                    ·
                      refine v_skip ?_
                      refine p_end [] (.tuple #[]) (fun _ q => q) rfl ?_
                      have hz := sj.fin hd122 hp121 (sj.no2 hd122 hp121.1 (by omega))
                      exact ⟨rfl, q120, s119, E123, hz⟩
                  ·
                    refine s_pass rfl ?_
                    refine s_pass rfl ?_
                    refine s_pass rfl ?_
                    refine s_pure (.bool false) (fun _ q => q) ?_
                    refine s_nil ?_
                    refine p_seqN ?_
                    refine v_condN rfl (by simp) ?_
                    refine v_skip ?_
                    refine p_end [] (.tuple #[]) (fun _ q => q) rfl ?_
                    have hz := sj.fin hd122 hp121 (sj.no2 hd122 hp121.1 (by omega))
                    exact ⟨rfl, q120, s119, E123, hz⟩
                ·
                  refine v_skip ?_
                  refine p_seqN ?_
                  refine v_seq ?_
                  refine v_ops ?_
                  refine s_pure (.int .i64 md63) (fun _ q => q) ?_
                  refine s_pure (.int .i64 ((md63 + m) - i)) (fun _ q => q) ?_
                  refine s_pure (.bool (decide (md63 < ((md63 + m) - i)))) (fun _ q => q) ?_
                  refine s_pure (.bool (decide (md63 < ((md63 + m) - i)))) (fun _ q => q) ?_
                  refine s_splitT rfl (fun c131 => ?_) (fun c131 => ?_)
                  ·
                    refine s_run rfl ?_
                    refine s_pure (.int .i64 ((md63 + m) - i)) (fun _ q => q) ?_
                    refine s_run rfl ?_
                    refine s_pure (.int .i64 b) (fun _ q => q) ?_
                    refine s_run rfl ?_
                    refine s_pure (.bool (decide (((md63 + m) - i) < b))) (fun _ q => q) ?_
                    refine s_pure (.bool (decide (((md63 + m) - i) < b))) (fun _ q => q) ?_
                    refine s_nil ?_
                    refine p_seqN ?_
                    refine v_cond rfl (fun c132 => ?_) (fun c132 => ?_)
                    ·
                      refine v_ops ?_
                      refine s_pure v_l (fun _ q => q) ?_
                      refine s_pure (.int .i64 md63) (fun _ q => q) ?_
                      refine s_pure (.int .i64 ((md63 + m) - i)) (fun _ q => q) ?_
                      refine s_pure (.int .i64 b) (fun _ q => q) ?_
                      refine s_pure (.func (.func 66) #[] #[]) (fun _ q => q) ?_
                      have sj : SymJ l a m b i md63 := by first | exact sj_hi h0 h1 h2 h3 hA hB hlmd63 humd63 (by omega) hi (by omega) hj hI hJ | exact sj_lo h0 h1 h2 h3 hA hB hlmd63 humd63 (by omega) hi (by omega) hj hI hJ
                      have hd137 : l0 = rotL l i.toNat m.toNat (md63 + m - i).toNat := (by first | (rw [hl0]; done) | exact hl0.trans (sj.id (by omega)).symm)
                      have hlhd137 := sj.len hd137
                      refine s_call [v_l, .int .i64 md63, .int .i64 ((md63 + m) - i), .int .i64 b, .func (.func 66) #[] #[]] rfl (ih v_l l0 md63 ((md63 + m) - i) b _ (by omega) s_l (by omega) (by omega) (by omega) (by omega) (by omega) (sj.p3 hd137 (Like.refl _ _ _)) (sj.p4 hd137 (Like.refl _ _ _))) ?_
                      rintro _ h133 ⟨rfl, q135, s134, mh133, hp136⟩
                      have zh133 := mh133.size
                      have hlq135 := hp136.1.len
                      have E138 := Eh.new mh133 (fun b hb => Or.inl hb)
                      refine s_nil ?_
                      refine p_end [] (.tuple #[]) (fun _ q => q) rfl ?_
                      have hz := sj.fin hd137 (sj.no1 hd137 (by omega)) hp136
                      exact ⟨rfl, q135, s134, E138, hz⟩
                    ·
                      refine v_skip ?_
                      refine p_end [] (.tuple #[]) (fun _ q => q) rfl ?_
                      have sj : SymJ l a m b i md63 := by first | exact sj_hi h0 h1 h2 h3 hA hB hlmd63 humd63 (by omega) hi (by omega) hj hI hJ | exact sj_lo h0 h1 h2 h3 hA hB hlmd63 humd63 (by omega) hi (by omega) hj hI hJ
                      have hd : l0 = rotL l i.toNat m.toNat (md63 + m - i).toNat := (by first | (rw [hl0]; done) | exact hl0.trans (sj.id (by omega)).symm)
                      have hz := sj.fin hd (sj.no1 hd (by omega)) (sj.no2 hd (sj.no1 hd (by omega)).1 (by omega))
                      exact ⟨rfl, l0, s_l, Eh, hz⟩
                  ·
                    refine s_pass rfl ?_
                    refine s_pass rfl ?_
                    refine s_pass rfl ?_
                    refine s_pure (.bool false) (fun _ q => q) ?_
                    refine s_nil ?_
                    refine p_seqN ?_
                    refine v_condN rfl (by simp) ?_
                    refine v_skip ?_
                    refine p_end [] (.tuple #[]) (fun _ q => q) rfl ?_
                    have sj : SymJ l a m b i md63 := by first | exact sj_hi h0 h1 h2 h3 hA hB hlmd63 humd63 (by omega) hi (by omega) hj hI hJ | exact sj_lo h0 h1 h2 h3 hA hB hlmd63 humd63 (by omega) hi (by omega) hj hI hJ
                    have hd : l0 = rotL l i.toNat m.toNat (md63 + m - i).toNat := (by first | (rw [hl0]; done) | exact hl0.trans (sj.id (by omega)).symm)
                    have hz := sj.fin hd (sj.no1 hd (by omega)) (sj.no2 hd (sj.no1 hd (by omega)).1 (by omega))
                    exact ⟨rfl, l0, s_l, Eh, hz⟩
              ·
                refine s_pass rfl ?_
                refine s_pass rfl ?_
                refine s_pass rfl ?_
                refine s_pure (.bool false) (fun _ q => q) ?_
                refine s_nil ?_
                refine p_seqN ?_
                refine v_condN rfl (by simp) ?_
                refine v_skip ?_
                refine p_seqN ?_
                refine v_seq ?_
                refine v_ops ?_
                refine s_pure (.int .i64 md63) (fun _ q => q) ?_
                refine s_pure (.int .i64 ((md63 + m) - i)) (fun _ q => q) ?_
                refine s_pure (.bool (decide (md63 < ((md63 + m) - i)))) (fun _ q => q) ?_
                refine s_pure (.bool (decide (md63 < ((md63 + m) - i)))) (fun _ q => q) ?_
                refine s_splitT rfl (fun c139 => ?_) (fun c139 => ?_)
                ·
                  refine s_run rfl ?_
                  refine s_pure (.int .i64 ((md63 + m) - i)) (fun _ q => q) ?_
                  refine s_run rfl ?_
                  refine s_pure (.int .i64 b) (fun _ q => q) ?_
                  refine s_run rfl ?_
                  refine s_pure (.bool (decide (((md63 + m) - i) < b))) (fun _ q => q) ?_
                  refine s_pure (.bool (decide (((md63 + m) - i) < b))) (fun _ q => q) ?_
                  refine s_nil ?_
                  refine p_seqN ?_
                  refine v_cond rfl (fun c140 => ?_) (fun c140 => ?_)
                  ·
                    refine v_ops ?_
                    refine s_pure v_l (fun _ q => q) ?_
                    refine s_pure (.int .i64 md63) (fun _ q => q) ?_
                    refine s_pure (.int .i64 ((md63 + m) - i)) (fun _ q => q) ?_
                    refine s_pure (.int .i64 b) (fun _ q => q) ?_
                    refine s_pure (.func (.func 66) #[] #[]) (fun _ q => q) ?_
                    have sj : SymJ l a m b i md63 := by first | exact sj_hi h0 h1 h2 h3 hA hB hlmd63 humd63 (by omega) hi (by omega) hj hI hJ | exact sj_lo h0 h1 h2 h3 hA hB hlmd63 humd63 (by omega) hi (by omega) hj hI hJ
                    have hd145 : l0 = rotL l i.toNat m.toNat (md63 + m - i).toNat := (by first | (rw [hl0]; done) | exact hl0.trans (sj.id (by omega)).symm)
                    have hlhd145 := sj.len hd145
                    refine s_call [v_l, .int .i64 md63, .int .i64 ((md63 + m) - i), .int .i64 b, .func (.func 66) #[] #[]] rfl (ih v_l l0 md63 ((md63 + m) - i) b _ (by omega) s_l (by omega) (by omega) (by omega) (by omega) (by omega) (sj.p3 hd145 (Like.refl _ _ _)) (sj.p4 hd145 (Like.refl _ _ _))) ?_
                    rintro _ h141 ⟨rfl, q143, s142, mh141, hp144⟩
                    have zh141 := mh141.size
                    have hlq143 := hp144.1.len
                    have E146 := Eh.new mh141 (fun b hb => Or.inl hb)
                    refine s_nil ?_
                    refine p_end [] (.tuple #[]) (fun _ q => q) rfl ?_
                    have hz := sj.fin hd145 (sj.no1 hd145 (by omega)) hp144
                    exact ⟨rfl, q143, s142, E146, hz⟩
                  ·
                    refine v_skip ?_
                    refine p_end [] (.tuple #[]) (fun _ q => q) rfl ?_
                    have sj : SymJ l a m b i md63 := by first | exact sj_hi h0 h1 h2 h3 hA hB hlmd63 humd63 (by omega) hi (by omega) hj hI hJ | exact sj_lo h0 h1 h2 h3 hA hB hlmd63 humd63 (by omega) hi (by omega) hj hI hJ
                    have hd : l0 = rotL l i.toNat m.toNat (md63 + m - i).toNat := (by first | (rw [hl0]; done) | exact hl0.trans (sj.id (by omega)).symm)
                    have hz := sj.fin hd (sj.no1 hd (by omega)) (sj.no2 hd (sj.no1 hd (by omega)).1 (by omega))
                    exact ⟨rfl, l0, s_l, Eh, hz⟩
                ·
                  refine s_pass rfl ?_
                  refine s_pass rfl ?_
                  refine s_pass rfl ?_
                  refine s_pure (.bool false) (fun _ q => q) ?_
                  refine s_nil ?_
                  refine p_seqN ?_
                  refine v_condN rfl (by simp) ?_
                  refine v_skip ?_
                  refine p_end [] (.tuple #[]) (fun _ q => q) rfl ?_
                  have sj : SymJ l a m b i md63 := by first | exact sj_hi h0 h1 h2 h3 hA hB hlmd63 humd63 (by omega) hi (by omega) hj hI hJ | exact sj_lo h0 h1 h2 h3 hA hB hlmd63 humd63 (by omega) hi (by omega) hj hI hJ
                  have hd : l0 = rotL l i.toNat m.toNat (md63 + m - i).toNat := (by first | (rw [hl0]; done) | exact hl0.trans (sj.id (by omega)).symm)
                  have hz := sj.fin hd (sj.no1 hd (by omega)) (sj.no2 hd (sj.no1 hd (by omega)).1 (by omega))
                  exact ⟨rfl, l0, s_l, Eh, hz⟩
          ·
            refine s_pass rfl ?_
            refine s_pass rfl ?_
            refine s_pass rfl ?_
            refine s_pure (.bool false) (fun _ q => q) ?_
            refine s_nil ?_
            refine p_seqN ?_
            refine v_condN rfl (by simp) ?_
            refine v_skip ?_
            refine p_seqN ?_
            refine v_seq ?_
            refine v_seq ?_
            refine v_ops ?_
            refine s_pure (.int .i64 a) (fun _ q => q) ?_
            refine s_pure (.int .i64 i) (fun _ q => q) ?_
            refine s_pure (.bool (decide (a < i))) (fun _ q => q) ?_
            refine s_pure (.bool (decide (a < i))) (fun _ q => q) ?_
            refine s_splitT rfl (fun c147 => ?_) (fun c147 => ?_)
            ·
              refine s_run rfl ?_
              refine s_pure (.int .i64 i) (fun _ q => q) ?_
              refine s_run rfl ?_
              refine s_pure (.int .i64 md63) (fun _ q => q) ?_
              refine s_run rfl ?_
              refine s_pure (.bool (decide (i < md63))) (fun _ q => q) ?_
              refine s_pure (.bool (decide (i < md63))) (fun _ q => q) ?_
              refine s_nil ?_
              refine p_seqN ?_
              refine v_cond rfl (fun c148 => ?_) (fun c148 => ?_)
              ·
                refine v_ops ?_
                refine s_pure v_l (fun _ q => q) ?_
                refine s_pure (.int .i64 a) (fun _ q => q) ?_
                refine s_pure (.int .i64 i) (fun _ q => q) ?_
                refine s_pure (.int .i64 md63) (fun _ q => q) ?_
                refine s_pure (.func (.func 66) #[] #[]) (fun _ q => q) ?_
                have sj : SymJ l a m b i md63 := by first | exact sj_hi h0 h1 h2 h3 hA hB hlmd63 humd63 (by omega) hi (by omega) hj hI hJ | exact sj_lo h0 h1 h2 h3 hA hB hlmd63 humd63 (by omega) hi (by omega) hj hI hJ
                have hd153 : l0 = rotL l i.toNat m.toNat (md63 + m - i).toNat := (by first | (rw [hl0]; done) | exact hl0.trans (sj.id (by omega)).symm)
                have hlhd153 := sj.len hd153
                refine s_call [v_l, .int .i64 a, .int .i64 i, .int .i64 md63, .func (.func 66) #[] #[]] rfl (ih v_l l0 a i md63 _ (by omega) s_l (by omega) (by omega) (by omega) (by omega) (by omega) (sj.p1 hd153) (sj.p2 hd153)) ?_
                rintro _ h149 ⟨rfl, q151, s150, mh149, hp152⟩
                have zh149 := mh149.size
                have hlq151 := hp152.1.len
                have E154 := Eh.new mh149 (fun b hb => Or.inl hb)
                refine s_nil ?_
                refine p_seqN ?_
                refine v_seq ?_
                refine v_ops ?_
                refine s_pure (.int .i64 md63) (fun _ q => q) ?_
                refine s_pure (.int .i64 ((md63 + m) - i)) (fun _ q => q) ?_
                refine s_pure (.bool (decide (md63 < ((md63 + m) - i)))) (fun _ q => q) ?_
                refine s_pure (.bool (decide (md63 < ((md63 + m) - i)))) (fun _ q => q) ?_
                refine s_splitT rfl (fun c155 => ?_) (fun c155 => ?_)
                ·
                  refine s_run rfl ?_
                  refine s_pure (.int .i64 ((md63 + m) - i)) (fun _ q => q) ?_
                  refine s_run rfl ?_
                  refine s_pure (.int .i64 b) (fun _ q => q) ?_
                  refine s_run rfl ?_
                  refine s_pure (.bool (decide (((md63 + m) - i) < b))) (fun _ q => q) ?_
                  refine s_pure (.bool (decide (((md63 + m) - i) < b))) (fun _ q => q) ?_
                  refine s_nil ?_
                  refine p_seqN ?_
                  refine v_cond rfl (fun c156 => ?_) (fun c156 => ?_)
                  ·
                    refine v_ops ?_
                    refine s_pure v_l (fun _ q => q) ?_
                    refine s_pure (.int .i64 md63) (fun _ q => q) ?_
                    refine s_pure (.int .i64 ((md63 + m) - i)) (fun _ q => q) ?_
                    refine s_pure (.int .i64 b) (fun _ q => q) ?_
                    refine s_pure (.func (.func 66) #[] #[]) (fun _ q => q) ?_
                    refine s_call [v_l, .int .i64 md63, .int .i64 ((md63 + m) - i), .int .i64 b, .func (.func 66) #[] #[]] rfl (ih v_l q151 md63 ((md63 + m) - i) b _ (by omega) s150 (by omega) (by omega) (by omega) (by omega) (by omega) (sj.p3 hd153 hp152.1) (sj.p4 hd153 hp152.1)) ?_
                    rintro _ h157 ⟨rfl, q159, s158, mh157, hp160⟩
                    have zh157 := mh157.size
                    have hlq159 := hp160.1.len
                    have E161 := E154.new mh157 (fun b hb => Or.inl hb)
                    refine s_nil ?_
                    refine p_end [] (.tuple #[]) (fun _ q => q) rfl ?_
                    have hz := sj.fin hd153 hp152 hp160
                    exact ⟨rfl, q159, s158, E161, hz⟩
                  ·
                    refine v_skip ?_
                    refine p_end [] (.tuple #[]) (fun _ q => q) rfl ?_
                    have hz := sj.fin hd153 hp152 (sj.no2 hd153 hp152.1 (by omega))
                    exact ⟨rfl, q151, s150, E154, hz⟩
                ·
                  refine s_pass rfl ?_
                  refine s_pass rfl ?_
                  refine s_pass rfl ?_
                  refine s_pure (.bool false) (fun _ q => q) ?_
                  refine s_nil ?_
                  refine p_seqN ?_
                  refine v_condN rfl (by simp) ?_
                  refine v_skip ?_
                  refine p_end [] (.tuple #[]) (fun _ q => q) rfl ?_
                  have hz := sj.fin hd153 hp152 (sj.no2 hd153 hp152.1 (by omega))
                  exact ⟨rfl, q151, s150, E154, hz⟩
              ·
                refine v_skip ?_
                refine p_seqN ?_
                refine v_seq ?_
                refine v_ops ?_
                refine s_pure (.int .i64 md63) (fun _ q => q) ?_
                refine s_pure (.int .i64 ((md63 + m) - i)) (fun _ q => q) ?_
                refine s_pure (.bool (decide (md63 < ((md63 + m) - i)))) (fun _ q => q) ?_
                refine s_pure (.bool (decide (md63 < ((md63 + m) - i)))) (fun _ q => q) ?_
                refine s_splitT rfl (fun c162 => ?_) (fun c162 => ?_)
                ·
                  refine s_run rfl ?_
                  refine s_pure (.int .i64 ((md63 + m) - i)) (fun _ q => q) ?_
                  refine s_run rfl ?_
                  refine s_pure (.int .i64 b) (fun _ q => q) ?_
                  refine s_run rfl ?_
                  refine s_pure (.bool (decide (((md63 + m) - i) < b))) (fun _ q => q) ?_
                  refine s_pure (.bool (decide (((md63 + m) - i) < b))) (fun _ q => q) ?_
                  refine s_nil ?_
                  refine p_seqN ?_
                  refine v_cond rfl (fun c163 => ?_) (fun c163 => ?_)
                  ·
                    refine v_ops ?_
                    refine s_pure v_l (fun _ q => q) ?_
                    refine s_pure (.int .i64 md63) (fun _ q => q) ?_
                    refine s_pure (.int .i64 ((md63 + m) - i)) (fun _ q => q) ?_
                    refine s_pure (.int .i64 b) (fun _ q => q) ?_
                    refine s_pure (.func (.func 66) #[] #[]) (fun _ q => q) ?_
                    have sj : SymJ l a m b i md63 := by first | exact sj_hi h0 h1 h2 h3 hA hB hlmd63 humd63 (by omega) hi (by omega) hj hI hJ | exact sj_lo h0 h1 h2 h3 hA hB hlmd63 humd63 (by omega) hi (by omega) hj hI hJ
                    have hd168 : l0 = rotL l i.toNat m.toNat (md63 + m - i).toNat := (by first | (rw [hl0]; done) | exact hl0.trans (sj.id (by omega)).symm)
                    have hlhd168 := sj.len hd168
                    refine s_call [v_l, .int .i64 md63, .int .i64 ((md63 + m) - i), .int .i64 b, .func (.func 66) #[] #[]] rfl (ih v_l l0 md63 ((md63 + m) - i) b _ (by omega) s_l (by omega) (by omega) (by omega) (by omega) (by omega) (sj.p3 hd168 (Like.refl _ _ _)) (sj.p4 hd168 (Like.refl _ _ _))) ?_
                    rintro _ h164 ⟨rfl, q166, s165, mh164, hp167⟩
                    have zh164 := mh164.size
                    have hlq166 := hp167.1.len
                    have E169 := Eh.new mh164 (fun b hb => Or.inl hb)
                    refine s_nil ?_
                    refine p_end [] (.tuple #[]) (fun _ q => q) rfl ?_
                    have hz := sj.fin hd168 (sj.no1 hd168 (by omega)) hp167
                    exact ⟨rfl, q166, s165, E169, hz⟩
                  ·
                    refine v_skip ?_
                    refine p_end [] (.tuple #[]) (fun _ q => q) rfl ?_
                    have sj : SymJ l a m b i md63 := by first | exact sj_hi h0 h1 h2 h3 hA hB hlmd63 humd63 (by omega) hi (by omega) hj hI hJ | exact sj_lo h0 h1 h2 h3 hA hB hlmd63 humd63 (by omega) hi (by omega) hj hI hJ
                    have hd : l0 = rotL l i.toNat m.toNat (md63 + m - i).toNat := (by first | (rw [hl0]; done) | exact hl0.trans (sj.id (by omega)).symm)
                    have hz := sj.fin hd (sj.no1 hd (by omega)) (sj.no2 hd (sj.no1 hd (by omega)).1 (by omega))
                    exact ⟨rfl, l0, s_l, Eh, hz⟩
                ·
                  refine s_pass rfl ?_
                  refine s_pass rfl ?_
                  refine s_pass rfl ?_
                  refine s_pure (.bool false) (fun _ q => q) ?_
                  refine s_nil ?_
                  refine p_seqN ?_
                  refine v_condN rfl (by simp) ?_
                  refine v_skip ?_
                  refine p_end [] (.tuple #[]) (fun _ q => q) rfl ?_
                  have sj : SymJ l a m b i md63 := by first | exact sj_hi h0 h1 h2 h3 hA hB hlmd63 humd63 (by omega) hi (by omega) hj hI hJ | exact sj_lo h0 h1 h2 h3 hA hB hlmd63 humd63 (by omega) hi (by omega) hj hI hJ
                  have hd : l0 = rotL l i.toNat m.toNat (md63 + m - i).toNat := (by first | (rw [hl0]; done) | exact hl0.trans (sj.id (by omega)).symm)
                  have hz := sj.fin hd (sj.no1 hd (by omega)) (sj.no2 hd (sj.no1 hd (by omega)).1 (by omega))
                  exact ⟨rfl, l0, s_l, Eh, hz⟩
            ·
              refine s_pass rfl ?_
              refine s_pass rfl ?_
              refine s_pass rfl ?_
              refine s_pure (.bool false) (fun _ q => q) ?_
              refine s_nil ?_
              refine p_seqN ?_
              refine v_condN rfl (by simp) ?_
              refine v_skip ?_
              refine p_seqN ?_
              refine v_seq ?_
              refine v_ops ?_
              refine s_pure (.int .i64 md63) (fun _ q => q) ?_
              refine s_pure (.int .i64 ((md63 + m) - i)) (fun _ q => q) ?_
              refine s_pure (.bool (decide (md63 < ((md63 + m) - i)))) (fun _ q => q) ?_
              refine s_pure (.bool (decide (md63 < ((md63 + m) - i)))) (fun _ q => q) ?_
              refine s_splitT rfl (fun c170 => ?_) (fun c170 => ?_)
              ·
                refine s_run rfl ?_
                refine s_pure (.int .i64 ((md63 + m) - i)) (fun _ q => q) ?_
                refine s_run rfl ?_
                refine s_pure (.int .i64 b) (fun _ q => q) ?_
                refine s_run rfl ?_
                refine s_pure (.bool (decide (((md63 + m) - i) < b))) (fun _ q => q) ?_
                refine s_pure (.bool (decide (((md63 + m) - i) < b))) (fun _ q => q) ?_
                refine s_nil ?_
                refine p_seqN ?_
                refine v_cond rfl (fun c171 => ?_) (fun c171 => ?_)
                ·
                  refine v_ops ?_
                  refine s_pure v_l (fun _ q => q) ?_
                  refine s_pure (.int .i64 md63) (fun _ q => q) ?_
                  refine s_pure (.int .i64 ((md63 + m) - i)) (fun _ q => q) ?_
                  refine s_pure (.int .i64 b) (fun _ q => q) ?_
                  refine s_pure (.func (.func 66) #[] #[]) (fun _ q => q) ?_
                  have sj : SymJ l a m b i md63 := by first | exact sj_hi h0 h1 h2 h3 hA hB hlmd63 humd63 (by omega) hi (by omega) hj hI hJ | exact sj_lo h0 h1 h2 h3 hA hB hlmd63 humd63 (by omega) hi (by omega) hj hI hJ
                  have hd176 : l0 = rotL l i.toNat m.toNat (md63 + m - i).toNat := (by first | (rw [hl0]; done) | exact hl0.trans (sj.id (by omega)).symm)
                  have hlhd176 := sj.len hd176
                  refine s_call [v_l, .int .i64 md63, .int .i64 ((md63 + m) - i), .int .i64 b, .func (.func 66) #[] #[]] rfl (ih v_l l0 md63 ((md63 + m) - i) b _ (by omega) s_l (by omega) (by omega) (by omega) (by omega) (by omega) (sj.p3 hd176 (Like.refl _ _ _)) (sj.p4 hd176 (Like.refl _ _ _))) ?_
                  rintro _ h172 ⟨rfl, q174, s173, mh172, hp175⟩
                  have zh172 := mh172.size
                  have hlq174 := hp175.1.len
                  have E177 := Eh.new mh172 (fun b hb => Or.inl hb)
                  refine s_nil ?_
                  refine p_end [] (.tuple #[]) (fun _ q => q) rfl ?_
                  have hz := sj.fin hd176 (sj.no1 hd176 (by omega)) hp175
                  exact ⟨rfl, q174, s173, E177, hz⟩
                ·
                  refine v_skip ?_
                  refine p_end [] (.tuple #[]) (fun _ q => q) rfl ?_
                  have sj : SymJ l a m b i md63 := by first | exact sj_hi h0 h1 h2 h3 hA hB hlmd63 humd63 (by omega) hi (by omega) hj hI hJ | exact sj_lo h0 h1 h2 h3 hA hB hlmd63 humd63 (by omega) hi (by omega) hj hI hJ
                  have hd : l0 = rotL l i.toNat m.toNat (md63 + m - i).toNat := (by first | (rw [hl0]; done) | exact hl0.trans (sj.id (by omega)).symm)
                  have hz := sj.fin hd (sj.no1 hd (by omega)) (sj.no2 hd (sj.no1 hd (by omega)).1 (by omega))
                  exact ⟨rfl, l0, s_l, Eh, hz⟩
              ·
                refine s_pass rfl ?_
                refine s_pass rfl ?_
                refine s_pass rfl ?_
                refine s_pure (.bool false) (fun _ q => q) ?_
                refine s_nil ?_
                refine p_seqN ?_
                refine v_condN rfl (by simp) ?_
                refine v_skip ?_
                refine p_end [] (.tuple #[]) (fun _ q => q) rfl ?_
                have sj : SymJ l a m b i md63 := by first | exact sj_hi h0 h1 h2 h3 hA hB hlmd63 humd63 (by omega) hi (by omega) hj hI hJ | exact sj_lo h0 h1 h2 h3 hA hB hlmd63 humd63 (by omega) hi (by omega) hj hI hJ
                have hd : l0 = rotL l i.toNat m.toNat (md63 + m - i).toNat := (by first | (rw [hl0]; done) | exact hl0.trans (sj.id (by omega)).symm)
                have hz := sj.fin hd (sj.no1 hd (by omega)) (sj.no2 hd (sj.no1 hd (by omega)).1 (by omega))
                exact ⟨rfl, l0, s_l, Eh, hz⟩
      ·
        refine v_seq ?_
        refine v_ops ?_
        refine s_pure (.int .i64 a) (fun _ q => q) ?_
        refine s_pure (.int .i64 a) (fun _ q => q) ?_
        refine s_nil ?_
        refine p_seqN ?_
        refine v_ops ?_
        refine s_pure (.int .i64 m) (fun _ q => q) ?_
        refine s_pure (.int .i64 m) (fun _ q => q) ?_
        refine s_nil ?_
        refine p_seqN ?_
        refine v_seq ?_
        refine v_ops ?_
        refine s_pure (.int .i64 (md63 + m)) (fun _ q => q) ?_
        refine s_pure (.int .i64 ((md63 + m) - 1)) (fun _ q => ArithVC.mk (by omega) q) ?_
        refine s_pure (.int .i64 ((md63 + m) - 1)) (fun _ q => q) ?_
        refine s_nil ?_
        refine p_seqN ?_
        refine v_seq ?_
        refine v_block ?_
        refine v_loop3 (α := Int) (β := Int) (γ := List Pk) (fun i j l0 => [(0, v_l), (1, .int .i64 a), (2, .int .i64 m), (3, .int .i64 b), (4, .func (.func 66) #[] #[]), (18, .int .i64 md63), (19, .int .i64 (md63 + m)), (20, .int .i64 i), (21, .int .i64 j), (22, .int .i64 ((md63 + m) - 1))]) (fun i j l0 hh => Mod (blks v_l) h hh ∧ SlO hh v_l l0 ∧ l0 = l ∧ a ≤ i ∧ i ≤ j ∧ j ≤ m ∧ (a < i → nF l (((md63 + m) - 1) - (i - 1)) (i - 1)) ∧ (j < m → yF l (((md63 + m) - 1) - j) j)) (fun i j l0 => (j - i).toNat) a m l ⟨rfl, rfl, rfl, rfl, rfl, rfl, rfl, rfl, rfl, rfl⟩ ⟨(Mod.refl (blks v_l) h), s_l, (by exact ⟨rfl, by omega, by omega, by omega, fun hc => by omega, fun hc => by omega⟩)⟩ ?_
        rintro i j l0 R179 h178 ⟨Eh, s_l, ⟨hl0, hi, hij, hj, hI, hJ⟩⟩
        have zEh := Eh.size
        have lt_l := s_l.lt
        have hlen0 : l0.length = l.length := by rw [hl0]
        refine v_seq ?_
        refine v_seq ?_
        refine v_ops ?_
        refine s_pure (.int .i64 i) (fun _ q => q) ?_
        refine s_pure (.int .i64 j) (fun _ q => q) ?_
        refine s_pure (.bool (decide (i < j))) (fun _ q => q) ?_
        refine s_nil ?_
        refine p_seqN ?_
        refine v_cond rfl (fun c180 => ?_) (fun c180 => ?_)
        ·
          refine v_skip ?_
          refine p_seqN ?_
          refine v_block ?_
          refine v_seq ?_
          refine v_ops ?_
          refine s_pure (.int .i64 i) (fun _ q => q) ?_
          refine s_pure (.int .i64 j) (fun _ q => q) ?_
          refine s_pure (.int .i64 (i + j)) (fun _ q => ArithVC.mk (by omega) q) ?_
          refine s_pure (.int .u64 (IntKind.u64.wrap (i + j))) (fun _ q => q) ?_
          refine s_pure (.int .u64 (((IntKind.u64.wrap (i + j))).fdiv (2 ^ (min ((1) : Int).toNat IntKind.u64.bits)))) (fun _ q => ⟨by decide, q⟩) ?_
          obtain ⟨md181, hlmd181, humd181, hkmd181⟩ := half_conv (a := (i + j)) (by omega) (by omega)
          refine s_pure (.int .i64 md181) (fun _ q => hkmd181 _ q) ?_
          refine s_pure (.int .i64 md181) (fun _ q => q) ?_
          refine s_nil ?_
          refine p_seqN ?_
          refine v_seq ?_
          refine v_drawF ?_
          refine d_pureT (.func (.func 66) #[] #[]) (fun _ q => q) ?_
          refine d_pureT v_l (fun _ q => q) ?_
          refine d_pureT (.int .i64 ((md63 + m) - 1)) (fun _ q => q) ?_
          refine d_pureT (.int .i64 md181) (fun _ q => q) ?_
          refine d_pureT (.int .i64 (((md63 + m) - 1) - md181)) (fun _ q => ArithVC.mk (by omega) q) ?_
          have hk182 : ((((md63 + m) - 1) - md181)).toNat < l0.length := (by first | omega | (simp; omega))
          obtain ⟨x183, hx183⟩ : ∃ x, l0[((((md63 + m) - 1) - md181)).toNat]? = some x := ⟨_, List.getElem?_eq_getElem hk182⟩
          refine d_pureT (.pointer (some ⟨sblk v_l, soff v_l + (((((md63 + m) - 1) - md181)).toNat) * 4, none⟩)) (fun _ q => s_l.idx (k := ((((md63 + m) - 1) - md181)).toNat) (by omega) hk182 q) ?_
          refine d_pureT v_l (fun _ q => q) ?_
          refine d_pureT (.int .i64 md181) (fun _ q => q) ?_
          have hk184 : (md181).toNat < l0.length := (by first | omega | (simp; omega))
          obtain ⟨x185, hx185⟩ : ∃ x, l0[(md181).toNat]? = some x := ⟨_, List.getElem?_eq_getElem hk184⟩
          refine d_pureT (.pointer (some ⟨sblk v_l, soff v_l + ((md181).toNat) * 4, none⟩)) (fun _ q => s_l.idx (k := (md181).toNat) (by omega) hk184 q) ?_
          refine d_loadO (.agg #[.int .i64 x183.message, .int .i64 x183.part, .int .i64 x183.parts, x183.sv.v]) (fun _ q => s_l.loadN hx183 rfl q) ?_
          refine d_loadO (.agg #[.int .i64 x185.message, .int .i64 x185.part, .int .i64 x185.parts, x185.sv.v]) (fun _ q => s_l.loadN hx185 rfl q) ?_
          refine d_eff ?_
          refine s_callv [.agg #[.int .i64 x183.message, .int .i64 x183.part, .int .i64 x183.parts, x183.sv.v], .agg #[.int .i64 x185.message, .int .i64 x185.part, .int .i64 x185.parts, x185.sv.v]] rfl rfl (impl_SortPackets_1_ok x183 x185 _) ?_
          rintro _ h186 ⟨rfl, eh186⟩
          have E187 := Eh.trans (Mod.of_ext eh186 _)
          have z188 := eh186.size
          have G189 := eh186
          refine s_nil ⟨fun hl => (by cases hl), ?_⟩
          refine d_pureT (.bool (decide ((pkCmp x183 x185) < 0))) (fun _ q => q) ?_
          refine d_pureT (.bool (!(decide ((pkCmp x183 x185) < 0)))) (fun _ q => q) ?_
          refine d_done ?_
          refine p_seqN ?_
          refine v_cond rfl (fun c190 => ?_) (fun c190 => ?_)
          ·
            refine v_ops ?_
            refine s_pure (.int .i64 md181) (fun _ q => q) ?_
            refine s_pure (.int .i64 (md181 + 1)) (fun _ q => ArithVC.mk (by omega) q) ?_
            refine s_pure (.int .i64 (md181 + 1)) (fun _ q => q) ?_
            refine s_nil ?_
            refine p_blkN ?_
            have f191 := (s_l.ext eh186)
            exact p_lpN ⟨(md181 + 1), j, l0, ⟨rfl, rfl, rfl, rfl, rfl, rfl, rfl, rfl, rfl, rfl⟩, ⟨E187, (sl_eq f191 rfl), (by first | exact ⟨hl0, by omega, by omega, by omega, fun _ => by (rw [show ∀ c : Int, c + 1 - 1 = c from fun c => by omega]; exact hl0 ▸ nF_of (by assumption) (by assumption) (by assumption)), hJ⟩ | exact ⟨hl0, by omega, by omega, by omega, hI, fun _ => hl0 ▸ yF_of (by assumption) (by assumption) (by assumption)⟩)⟩, by omega⟩
          ·
            have c190 := Classical.not_not.1 c190
            refine v_ops ?_
            refine s_pure (.int .i64 md181) (fun _ q => q) ?_
            refine s_pure (.int .i64 md181) (fun _ q => q) ?_
            refine s_nil ?_
            refine p_blkN ?_
            have f192 := (s_l.ext eh186)
            exact p_lpN ⟨i, md181, l0, ⟨rfl, rfl, rfl, rfl, rfl, rfl, rfl, rfl, rfl, rfl⟩, ⟨E187, (sl_eq f192 rfl), (by first | exact ⟨hl0, by omega, by omega, by omega, fun _ => by (rw [show ∀ c : Int, c + 1 - 1 = c from fun c => by omega]; exact hl0 ▸ nF_of (by assumption) (by assumption) (by assumption)), hJ⟩ | exact ⟨hl0, by omega, by omega, by omega, hI, fun _ => hl0 ▸ yF_of (by assumption) (by assumption) (by assumption)⟩)⟩, by omega⟩
        ·
          refine v_exit ?_
          refine p_seqX ?_
          refine p_lpX ?_
          refine p_blkX ?_
          refine p_seqN ?_
          refine v_seq ?_
          refine v_ops ?_
          refine s_pure (.int .i64 (md63 + m)) (fun _ q => q) ?_
          refine s_pure (.int .i64 i) (fun _ q => q) ?_
          refine s_pure (.int .i64 ((md63 + m) - i)) (fun _ q => ArithVC.mk (by omega) q) ?_
          refine s_pure (.int .i64 ((md63 + m) - i)) (fun _ q => q) ?_
          refine s_nil ?_
          refine p_seqN ?_
          refine v_seq ?_
          refine v_seq ?_
          refine v_ops ?_
          refine s_pure (.int .i64 i) (fun _ q => q) ?_
          refine s_pure (.int .i64 m) (fun _ q => q) ?_
          refine s_pure (.bool (decide (i < m))) (fun _ q => q) ?_
          refine s_pure (.bool (decide (i < m))) (fun _ q => q) ?_
          refine s_splitT rfl (fun c193 => ?_) (fun c193 => ?_)
          ·
            refine s_run rfl ?_
            refine s_pure (.int .i64 m) (fun _ q => q) ?_
            refine s_run rfl ?_
            refine s_pure (.int .i64 ((md63 + m) - i)) (fun _ q => q) ?_
            refine s_run rfl ?_
            refine s_pure (.bool (decide (m < ((md63 + m) - i)))) (fun _ q => q) ?_
            refine s_pure (.bool (decide (m < ((md63 + m) - i)))) (fun _ q => q) ?_
            refine s_nil ?_
            refine p_seqN ?_
            refine v_cond rfl (fun c194 => ?_) (fun c194 => ?_)
            ·
              refine v_ops ?_
              refine s_pure v_l (fun _ q => q) ?_
              refine s_pure (.int .i64 i) (fun _ q => q) ?_
              refine s_pure (.int .i64 m) (fun _ q => q) ?_
              refine s_pure (.int .i64 ((md63 + m) - i)) (fun _ q => q) ?_
              refine s_pure (.func (.func 66) #[] #[]) (fun _ q => q) ?_
              refine s_call [v_l, .int .i64 i, .int .i64 m, .int .i64 ((md63 + m) - i), .func (.func 66) #[] #[]] rfl (slices_rotateCmpFunc_impl_Packet_ok v_l l0 i m ((md63 + m) - i) _ s_l (by omega) (by omega) (by omega) (by omega) (by omega)) ?_
              rintro _ h195 ⟨rfl, s196, mh195⟩
              have zh195 := mh195.size
              have E197 := Eh.new mh195 (fun b hb => Or.inl hb)
              refine s_nil ?_
              refine p_seqN ?_
              refine v_seq ?_
              refine v_seq ?_
              refine v_ops ?_
              refine s_pure (.int .i64 a) (fun _ q => q) ?_
              refine s_pure (.int .i64 i) (fun _ q => q) ?_
              refine s_pure (.bool (decide (a < i))) (fun _ q => q) ?_
              refine s_pure (.bool (decide (a < i))) (fun _ q => q) ?_
              refine s_splitT rfl (fun c198 => ?_) (fun c198 => ?_)
              ·
                refine s_run rfl ?_
                refine s_pure (.int .i64 i) (fun _ q => q) ?_
                refine s_run rfl ?_
                refine s_pure (.int .i64 md63) (fun _ q => q) ?_
                refine s_run rfl ?_
                refine s_pure (.bool (decide (i < md63))) (fun _ q => q) ?_
                refine s_pure (.bool (decide (i < md63))) (fun _ q => q) ?_
                refine s_nil ?_
                refine p_seqN ?_
                refine v_cond rfl (fun c199 => ?_) (fun c199 => ?_)
                ·
                  refine v_ops ?_
                  refine s_pure v_l (fun _ q => q) ?_
                  refine s_pure (.int .i64 a) (fun _ q => q) ?_
                  refine s_pure (.int .i64 i) (fun _ q => q) ?_
                  refine s_pure (.int .i64 md63) (fun _ q => q) ?_
                  refine s_pure (.func (.func 66) #[] #[]) (fun _ q => q) ?_
                  have sj : SymJ l a m b i md63 := by first | exact sj_hi h0 h1 h2 h3 hA hB hlmd63 humd63 (by omega) hi (by omega) hj hI hJ | exact sj_lo h0 h1 h2 h3 hA hB hlmd63 humd63 (by omega) hi (by omega) hj hI hJ
                  have hd204 : (rotL l0 i.toNat m.toNat ((md63 + m) - i).toNat) = rotL l i.toNat m.toNat (md63 + m - i).toNat := (by first | (rw [hl0]; done) | exact hl0.trans (sj.id (by omega)).symm)
                  have hlhd204 := sj.len hd204
                  refine s_call [v_l, .int .i64 a, .int .i64 i, .int .i64 md63, .func (.func 66) #[] #[]] rfl (ih v_l (rotL l0 i.toNat m.toNat ((md63 + m) - i).toNat) a i md63 _ (by omega) s196 (by omega) (by omega) (by omega) (by omega) (by omega) (sj.p1 hd204) (sj.p2 hd204)) ?_
                  rintro _ h200 ⟨rfl, q202, s201, mh200, hp203⟩
                  have zh200 := mh200.size
                  have hlq202 := hp203.1.len
                  have E205 := E197.new mh200 (fun b hb => Or.inl hb)
                  refine s_nil ?_
                  refine p_seqN ?_
                  refine v_seq ?_
                  refine v_ops ?_
                  refine s_pure (.int .i64 md63) (fun _ q => q) ?_
                  refine s_pure (.int .i64 ((md63 + m) - i)) (fun _ q => q) ?_
                  refine s_pure (.bool (decide (md63 < ((md63 + m) - i)))) (fun _ q => q) ?_
                  refine s_pure (.bool (decide (md63 < ((md63 + m) - i)))) (fun _ q => q) ?_
                  refine s_splitT rfl (fun c206 => ?_) (fun c206 => ?_)
                  ·
                    refine s_run rfl ?_
                    refine s_pure (.int .i64 ((md63 + m) - i)) (fun _ q => q) ?_
                    refine s_run rfl ?_
                    refine s_pure (.int .i64 b) (fun _ q => q) ?_
                    refine s_run rfl ?_
                    refine s_pure (.bool (decide (((md63 + m) - i) < b))) (fun _ q => q) ?_
                    refine s_pure (.bool (decide (((md63 + m) - i) < b))) (fun _ q => q) ?_
                    refine s_nil ?_
                    refine p_seqN ?_
                    refine v_cond rfl (fun c207 => ?_) (fun c207 => ?_)
                    ·
                      refine v_ops ?_
                      refine s_pure v_l (fun _ q => q) ?_
                      refine s_pure (.int .i64 md63) (fun _ q => q) ?_
                      refine s_pure (.int .i64 ((md63 + m) - i)) (fun _ q => q) ?_
                      refine s_pure (.int .i64 b) (fun _ q => q) ?_
                      refine s_pure (.func (.func 66) #[] #[]) (fun _ q => q) ?_
                      refine s_call [v_l, .int .i64 md63, .int .i64 ((md63 + m) - i), .int .i64 b, .func (.func 66) #[] #[]] rfl (ih v_l q202 md63 ((md63 + m) - i) b _ (by omega) s201 (by omega) (by omega) (by omega) (by omega) (by omega) (sj.p3 hd204 hp203.1) (sj.p4 hd204 hp203.1)) ?_
                      rintro _ h208 ⟨rfl, q210, s209, mh208, hp211⟩
                      have zh208 := mh208.size
                      have hlq210 := hp211.1.len
                      have E212 := E205.new mh208 (fun b hb => Or.inl hb)
                      refine s_nil ?_
                      refine p_end [] (.tuple #[]) (fun _ q => q) rfl ?_
                      have hz := sj.fin hd204 hp203 hp211
                      exact ⟨rfl, q210, s209, E212, hz⟩
                    ·
                      refine v_skip ?_
                      refine p_end [] (.tuple #[]) (fun _ q => q) rfl ?_
                      have hz := sj.fin hd204 hp203 (sj.no2 hd204 hp203.1 (by omega))
                      exact ⟨rfl, q202, s201, E205, hz⟩
                  ·
                    refine s_pass rfl ?_
                    refine s_pass rfl ?_
                    refine s_pass rfl ?_
                    refine s_pure (.bool false) (fun _ q => q) ?_
                    refine s_nil ?_
                    refine p_seqN ?_
                    refine v_condN rfl (by simp) ?_
                    refine v_skip ?_
                    refine p_end [] (.tuple #[]) (fun _ q => q) rfl ?_
                    have hz := sj.fin hd204 hp203 (sj.no2 hd204 hp203.1 (by omega))
                    exact ⟨rfl, q202, s201, E205, hz⟩
                ·
                  refine v_skip ?_
                  refine p_seqN ?_
                  refine v_seq ?_
                  refine v_ops ?_
                  refine s_pure (.int .i64 md63) (fun _ q => q) ?_
                  refine s_pure (.int .i64 ((md63 + m) - i)) (fun _ q => q) ?_
                  refine s_pure (.bool (decide (md63 < ((md63 + m) - i)))) (fun _ q => q) ?_
                  refine s_pure (.bool (decide (md63 < ((md63 + m) - i)))) (fun _ q => q) ?_
                  refine s_splitT rfl (fun c213 => ?_) (fun c213 => ?_)
                  ·
                    refine s_run rfl ?_
                    refine s_pure (.int .i64 ((md63 + m) - i)) (fun _ q => q) ?_
                    refine s_run rfl ?_
                    refine s_pure (.int .i64 b) (fun _ q => q) ?_
                    refine s_run rfl ?_
                    refine s_pure (.bool (decide (((md63 + m) - i) < b))) (fun _ q => q) ?_
                    refine s_pure (.bool (decide (((md63 + m) - i) < b))) (fun _ q => q) ?_
                    refine s_nil ?_
                    refine p_seqN ?_
                    refine v_cond rfl (fun c214 => ?_) (fun c214 => ?_)
                    ·
                      refine v_ops ?_
                      refine s_pure v_l (fun _ q => q) ?_
                      refine s_pure (.int .i64 md63) (fun _ q => q) ?_
                      refine s_pure (.int .i64 ((md63 + m) - i)) (fun _ q => q) ?_
                      refine s_pure (.int .i64 b) (fun _ q => q) ?_
                      refine s_pure (.func (.func 66) #[] #[]) (fun _ q => q) ?_
                      have sj : SymJ l a m b i md63 := by first | exact sj_hi h0 h1 h2 h3 hA hB hlmd63 humd63 (by omega) hi (by omega) hj hI hJ | exact sj_lo h0 h1 h2 h3 hA hB hlmd63 humd63 (by omega) hi (by omega) hj hI hJ
                      have hd219 : (rotL l0 i.toNat m.toNat ((md63 + m) - i).toNat) = rotL l i.toNat m.toNat (md63 + m - i).toNat := (by first | (rw [hl0]; done) | exact hl0.trans (sj.id (by omega)).symm)
                      have hlhd219 := sj.len hd219
                      refine s_call [v_l, .int .i64 md63, .int .i64 ((md63 + m) - i), .int .i64 b, .func (.func 66) #[] #[]] rfl (ih v_l (rotL l0 i.toNat m.toNat ((md63 + m) - i).toNat) md63 ((md63 + m) - i) b _ (by omega) s196 (by omega) (by omega) (by omega) (by omega) (by omega) (sj.p3 hd219 (Like.refl _ _ _)) (sj.p4 hd219 (Like.refl _ _ _))) ?_
                      rintro _ h215 ⟨rfl, q217, s216, mh215, hp218⟩
                      have zh215 := mh215.size
                      have hlq217 := hp218.1.len
                      have E220 := E197.new mh215 (fun b hb => Or.inl hb)
                      refine s_nil ?_
                      refine p_end [] (.tuple #[]) (fun _ q => q) rfl ?_
                      have hz := sj.fin hd219 (sj.no1 hd219 (by omega)) hp218
                      exact ⟨rfl, q217, s216, E220, hz⟩
                    ·
                      refine v_skip ?_
                      refine p_end [] (.tuple #[]) (fun _ q => q) rfl ?_
                      have sj : SymJ l a m b i md63 := by first | exact sj_hi h0 h1 h2 h3 hA hB hlmd63 humd63 (by omega) hi (by omega) hj hI hJ | exact sj_lo h0 h1 h2 h3 hA hB hlmd63 humd63 (by omega) hi (by omega) hj hI hJ
                      have hd : (rotL l0 i.toNat m.toNat ((md63 + m) - i).toNat) = rotL l i.toNat m.toNat (md63 + m - i).toNat := (by first | (rw [hl0]; done) | exact hl0.trans (sj.id (by omega)).symm)
                      have hz := sj.fin hd (sj.no1 hd (by omega)) (sj.no2 hd (sj.no1 hd (by omega)).1 (by omega))
                      exact ⟨rfl, (rotL l0 i.toNat m.toNat ((md63 + m) - i).toNat), s196, E197, hz⟩
                  ·
                    refine s_pass rfl ?_
                    refine s_pass rfl ?_
                    refine s_pass rfl ?_
                    refine s_pure (.bool false) (fun _ q => q) ?_
                    refine s_nil ?_
                    refine p_seqN ?_
                    refine v_condN rfl (by simp) ?_
                    refine v_skip ?_
                    refine p_end [] (.tuple #[]) (fun _ q => q) rfl ?_
                    have sj : SymJ l a m b i md63 := by first | exact sj_hi h0 h1 h2 h3 hA hB hlmd63 humd63 (by omega) hi (by omega) hj hI hJ | exact sj_lo h0 h1 h2 h3 hA hB hlmd63 humd63 (by omega) hi (by omega) hj hI hJ
                    have hd : (rotL l0 i.toNat m.toNat ((md63 + m) - i).toNat) = rotL l i.toNat m.toNat (md63 + m - i).toNat := (by first | (rw [hl0]; done) | exact hl0.trans (sj.id (by omega)).symm)
                    have hz := sj.fin hd (sj.no1 hd (by omega)) (sj.no2 hd (sj.no1 hd (by omega)).1 (by omega))
                    exact ⟨rfl, (rotL l0 i.toNat m.toNat ((md63 + m) - i).toNat), s196, E197, hz⟩
              ·
                refine s_pass rfl ?_
                refine s_pass rfl ?_
                refine s_pass rfl ?_
                refine s_pure (.bool false) (fun _ q => q) ?_
                refine s_nil ?_
                refine p_seqN ?_
                refine v_condN rfl (by simp) ?_
                refine v_skip ?_
                refine p_seqN ?_
                refine v_seq ?_
                refine v_ops ?_
                refine s_pure (.int .i64 md63) (fun _ q => q) ?_
                refine s_pure (.int .i64 ((md63 + m) - i)) (fun _ q => q) ?_
                refine s_pure (.bool (decide (md63 < ((md63 + m) - i)))) (fun _ q => q) ?_
                refine s_pure (.bool (decide (md63 < ((md63 + m) - i)))) (fun _ q => q) ?_
                refine s_splitT rfl (fun c221 => ?_) (fun c221 => ?_)
                ·
                  refine s_run rfl ?_
                  refine s_pure (.int .i64 ((md63 + m) - i)) (fun _ q => q) ?_
                  refine s_run rfl ?_
                  refine s_pure (.int .i64 b) (fun _ q => q) ?_
                  refine s_run rfl ?_
                  refine s_pure (.bool (decide (((md63 + m) - i) < b))) (fun _ q => q) ?_
                  refine s_pure (.bool (decide (((md63 + m) - i) < b))) (fun _ q => q) ?_
                  refine s_nil ?_
                  refine p_seqN ?_
                  refine v_cond rfl (fun c222 => ?_) (fun c222 => ?_)
                  ·
                    refine v_ops ?_
                    refine s_pure v_l (fun _ q => q) ?_
                    refine s_pure (.int .i64 md63) (fun _ q => q) ?_
                    refine s_pure (.int .i64 ((md63 + m) - i)) (fun _ q => q) ?_
                    refine s_pure (.int .i64 b) (fun _ q => q) ?_
                    refine s_pure (.func (.func 66) #[] #[]) (fun _ q => q) ?_
                    have sj : SymJ l a m b i md63 := by first | exact sj_hi h0 h1 h2 h3 hA hB hlmd63 humd63 (by omega) hi (by omega) hj hI hJ | exact sj_lo h0 h1 h2 h3 hA hB hlmd63 humd63 (by omega) hi (by omega) hj hI hJ
                    have hd227 : (rotL l0 i.toNat m.toNat ((md63 + m) - i).toNat) = rotL l i.toNat m.toNat (md63 + m - i).toNat := (by first | (rw [hl0]; done) | exact hl0.trans (sj.id (by omega)).symm)
                    have hlhd227 := sj.len hd227
                    refine s_call [v_l, .int .i64 md63, .int .i64 ((md63 + m) - i), .int .i64 b, .func (.func 66) #[] #[]] rfl (ih v_l (rotL l0 i.toNat m.toNat ((md63 + m) - i).toNat) md63 ((md63 + m) - i) b _ (by omega) s196 (by omega) (by omega) (by omega) (by omega) (by omega) (sj.p3 hd227 (Like.refl _ _ _)) (sj.p4 hd227 (Like.refl _ _ _))) ?_
                    rintro _ h223 ⟨rfl, q225, s224, mh223, hp226⟩
                    have zh223 := mh223.size
                    have hlq225 := hp226.1.len
                    have E228 := E197.new mh223 (fun b hb => Or.inl hb)
                    refine s_nil ?_
                    refine p_end [] (.tuple #[]) (fun _ q => q) rfl ?_
                    have hz := sj.fin hd227 (sj.no1 hd227 (by omega)) hp226
                    exact ⟨rfl, q225, s224, E228, hz⟩
                  ·
                    refine v_skip ?_
                    refine p_end [] (.tuple #[]) (fun _ q => q) rfl ?_
                    have sj : SymJ l a m b i md63 := by first | exact sj_hi h0 h1 h2 h3 hA hB hlmd63 humd63 (by omega) hi (by omega) hj hI hJ | exact sj_lo h0 h1 h2 h3 hA hB hlmd63 humd63 (by omega) hi (by omega) hj hI hJ
                    have hd : (rotL l0 i.toNat m.toNat ((md63 + m) - i).toNat) = rotL l i.toNat m.toNat (md63 + m - i).toNat := (by first | (rw [hl0]; done) | exact hl0.trans (sj.id (by omega)).symm)
                    have hz := sj.fin hd (sj.no1 hd (by omega)) (sj.no2 hd (sj.no1 hd (by omega)).1 (by omega))
                    exact ⟨rfl, (rotL l0 i.toNat m.toNat ((md63 + m) - i).toNat), s196, E197, hz⟩
                ·
                  refine s_pass rfl ?_
                  refine s_pass rfl ?_
                  refine s_pass rfl ?_
                  refine s_pure (.bool false) (fun _ q => q) ?_
                  refine s_nil ?_
                  refine p_seqN ?_
                  refine v_condN rfl (by simp) ?_
                  refine v_skip ?_
                  refine p_end [] (.tuple #[]) (fun _ q => q) rfl ?_
                  have sj : SymJ l a m b i md63 := by first | exact sj_hi h0 h1 h2 h3 hA hB hlmd63 humd63 (by omega) hi (by omega) hj hI hJ | exact sj_lo h0 h1 h2 h3 hA hB hlmd63 humd63 (by omega) hi (by omega) hj hI hJ
                  have hd : (rotL l0 i.toNat m.toNat ((md63 + m) - i).toNat) = rotL l i.toNat m.toNat (md63 + m - i).toNat := (by first | (rw [hl0]; done) | exact hl0.trans (sj.id (by omega)).symm)
                  have hz := sj.fin hd (sj.no1 hd (by omega)) (sj.no2 hd (sj.no1 hd (by omega)).1 (by omega))
                  exact ⟨rfl, (rotL l0 i.toNat m.toNat ((md63 + m) - i).toNat), s196, E197, hz⟩
            ·
              refine v_skip ?_
              refine p_seqN ?_
              refine v_seq ?_
              refine v_seq ?_
              refine v_ops ?_
              refine s_pure (.int .i64 a) (fun _ q => q) ?_
              refine s_pure (.int .i64 i) (fun _ q => q) ?_
              refine s_pure (.bool (decide (a < i))) (fun _ q => q) ?_
              refine s_pure (.bool (decide (a < i))) (fun _ q => q) ?_
              refine s_splitT rfl (fun c229 => ?_) (fun c229 => ?_)
              ·
                refine s_run rfl ?_
                refine s_pure (.int .i64 i) (fun _ q => q) ?_
                refine s_run rfl ?_
                refine s_pure (.int .i64 md63) (fun _ q => q) ?_
                refine s_run rfl ?_
                refine s_pure (.bool (decide (i < md63))) (fun _ q => q) ?_
                refine s_pure (.bool (decide (i < md63))) (fun _ q => q) ?_
                refine s_nil ?_
                refine p_seqN ?_
                refine v_cond rfl (fun c230 => ?_) (fun c230 => ?_)
                ·
                  refine v_ops ?_
                  refine s_pure v_l (fun _ q => q) ?_
                  refine s_pure (.int .i64 a) (fun _ q => q) ?_
                  refine s_pure (.int .i64 i) (fun _ q => q) ?_
                  refine s_pure (.int .i64 md63) (fun _ q => q) ?_
                  refine s_pure (.func (.func 66) #[] #[]) (fun _ q => q) ?_
                  have sj : SymJ l a m b i md63 := by first | exact sj_hi h0 h1 h2 h3 hA hB hlmd63 humd63 (by omega) hi (by omega) hj hI hJ | exact sj_lo h0 h1 h2 h3 hA hB hlmd63 humd63 (by omega) hi (by omega) hj hI hJ
                  have hd235 : l0 = rotL l i.toNat m.toNat (md63 + m - i).toNat := (by first | (rw [hl0]; done) | exact hl0.trans (sj.id (by omega)).symm)
                  have hlhd235 := sj.len hd235
                  refine s_call [v_l, .int .i64 a, .int .i64 i, .int .i64 md63, .func (.func 66) #[] #[]] rfl (ih v_l l0 a i md63 _ (by omega) s_l (by omega) (by omega) (by omega) (by omega) (by omega) (sj.p1 hd235) (sj.p2 hd235)) ?_
                  rintro _ h231 ⟨rfl, q233, s232, mh231, hp234⟩
                  have zh231 := mh231.size
                  have hlq233 := hp234.1.len
                  have E236 := Eh.new mh231 (fun b hb => Or.inl hb)
                  refine s_nil ?_
                  refine p_seqN ?_
                  refine v_seq ?_
                  refine v_ops ?_
                  refine s_pure (.int .i64 md63) (fun _ q => q) ?_
                  refine s_pure (.int .i64 ((md63 + m) - i)) (fun _ q => q) ?_
                  refine s_pure (.bool (decide (md63 < ((md63 + m) - i)))) (fun _ q => q) ?_
                  refine s_pure (.bool (decide (md63 < ((md63 + m) - i)))) (fun _ q => q) ?_
                  refine s_splitT rfl (fun c237 => ?_) (fun c237 => ?_)
                  ·
                    refine s_run rfl ?_
                    refine s_pure (.int .i64 ((md63 + m) - i)) (fun _ q => q) ?_
                    refine s_run rfl ?_
                    refine s_pure (.int .i64 b) (fun _ q => q) ?_
                    refine s_run rfl ?_
                    refine s_pure (.bool (decide (((md63 + m) - i) < b))) (fun _ q => q) ?_
                    refine s_pure (.bool (decide (((md63 + m) - i) < b))) (fun _ q => q) ?_
                    refine s_nil ?_
                    refine p_seqN ?_
                    refine v_cond rfl (fun c238 => ?_) (fun c238 => ?_)
                    ·
                      refine v_ops ?_
                      refine s_pure v_l (fun _ q => q) ?_
                      refine s_pure (.int .i64 md63) (fun _ q => q) ?_
                      refine s_pure (.int .i64 ((md63 + m) - i)) (fun _ q => q) ?_
                      refine s_pure (.int .i64 b) (fun _ q => q) ?_
                      refine s_pure (.func (.func 66) #[] #[]) (fun _ q => q) ?_
                      refine s_call [v_l, .int .i64 md63, .int .i64 ((md63 + m) - i), .int .i64 b, .func (.func 66) #[] #[]] rfl (ih v_l q233 md63 ((md63 + m) - i) b _ (by omega) s232 (by omega) (by omega) (by omega) (by omega) (by omega) (sj.p3 hd235 hp234.1) (sj.p4 hd235 hp234.1)) ?_
                      rintro _ h239 ⟨rfl, q241, s240, mh239, hp242⟩
                      have zh239 := mh239.size
                      have hlq241 := hp242.1.len
                      have E243 := E236.new mh239 (fun b hb => Or.inl hb)
                      refine s_nil ?_
                      refine p_end [] (.tuple #[]) (fun _ q => q) rfl ?_
                      have hz := sj.fin hd235 hp234 hp242
                      exact ⟨rfl, q241, s240, E243, hz⟩
                    ·
                      refine v_skip ?_
                      refine p_end [] (.tuple #[]) (fun _ q => q) rfl ?_
                      have hz := sj.fin hd235 hp234 (sj.no2 hd235 hp234.1 (by omega))
                      exact ⟨rfl, q233, s232, E236, hz⟩
                  ·
                    refine s_pass rfl ?_
                    refine s_pass rfl ?_
                    refine s_pass rfl ?_
                    refine s_pure (.bool false) (fun _ q => q) ?_
                    refine s_nil ?_
                    refine p_seqN ?_
                    refine v_condN rfl (by simp) ?_
                    refine v_skip ?_
                    refine p_end [] (.tuple #[]) (fun _ q => q) rfl ?_
                    have hz := sj.fin hd235 hp234 (sj.no2 hd235 hp234.1 (by omega))
                    exact ⟨rfl, q233, s232, E236, hz⟩
                ·
                  refine v_skip ?_
                  refine p_seqN ?_
                  refine v_seq ?_
                  refine v_ops ?_
                  refine s_pure (.int .i64 md63) (fun _ q => q) ?_
                  refine s_pure (.int .i64 ((md63 + m) - i)) (fun _ q => q) ?_
                  refine s_pure (.bool (decide (md63 < ((md63 + m) - i)))) (fun _ q => q) ?_
                  refine s_pure (.bool (decide (md63 < ((md63 + m) - i)))) (fun _ q => q) ?_
                  refine s_splitT rfl (fun c244 => ?_) (fun c244 => ?_)
                  ·
                    refine s_run rfl ?_
                    refine s_pure (.int .i64 ((md63 + m) - i)) (fun _ q => q) ?_
                    refine s_run rfl ?_
                    refine s_pure (.int .i64 b) (fun _ q => q) ?_
                    refine s_run rfl ?_
                    refine s_pure (.bool (decide (((md63 + m) - i) < b))) (fun _ q => q) ?_
                    refine s_pure (.bool (decide (((md63 + m) - i) < b))) (fun _ q => q) ?_
                    refine s_nil ?_
                    refine p_seqN ?_
                    refine v_cond rfl (fun c245 => ?_) (fun c245 => ?_)
                    ·
                      refine v_ops ?_
                      refine s_pure v_l (fun _ q => q) ?_
                      refine s_pure (.int .i64 md63) (fun _ q => q) ?_
                      refine s_pure (.int .i64 ((md63 + m) - i)) (fun _ q => q) ?_
                      refine s_pure (.int .i64 b) (fun _ q => q) ?_
                      refine s_pure (.func (.func 66) #[] #[]) (fun _ q => q) ?_
                      have sj : SymJ l a m b i md63 := by first | exact sj_hi h0 h1 h2 h3 hA hB hlmd63 humd63 (by omega) hi (by omega) hj hI hJ | exact sj_lo h0 h1 h2 h3 hA hB hlmd63 humd63 (by omega) hi (by omega) hj hI hJ
                      have hd250 : l0 = rotL l i.toNat m.toNat (md63 + m - i).toNat := (by first | (rw [hl0]; done) | exact hl0.trans (sj.id (by omega)).symm)
                      have hlhd250 := sj.len hd250
                      refine s_call [v_l, .int .i64 md63, .int .i64 ((md63 + m) - i), .int .i64 b, .func (.func 66) #[] #[]] rfl (ih v_l l0 md63 ((md63 + m) - i) b _ (by omega) s_l (by omega) (by omega) (by omega) (by omega) (by omega) (sj.p3 hd250 (Like.refl _ _ _)) (sj.p4 hd250 (Like.refl _ _ _))) ?_
                      rintro _ h246 ⟨rfl, q248, s247, mh246, hp249⟩
                      have zh246 := mh246.size
                      have hlq248 := hp249.1.len
                      have E251 := Eh.new mh246 (fun b hb => Or.inl hb)
                      refine s_nil ?_
                      refine p_end [] (.tuple #[]) (fun _ q => q) rfl ?_
                      have hz := sj.fin hd250 (sj.no1 hd250 (by omega)) hp249
                      exact ⟨rfl, q248, s247, E251, hz⟩
                    ·
                      refine v_skip ?_
                      refine p_end [] (.tuple #[]) (fun _ q => q) rfl ?_
                      have sj : SymJ l a m b i md63 := by first | exact sj_hi h0 h1 h2 h3 hA hB hlmd63 humd63 (by omega) hi (by omega) hj hI hJ | exact sj_lo h0 h1 h2 h3 hA hB hlmd63 humd63 (by omega) hi (by omega) hj hI hJ
                      have hd : l0 = rotL l i.toNat m.toNat (md63 + m - i).toNat := (by first | (rw [hl0]; done) | exact hl0.trans (sj.id (by omega)).symm)
                      have hz := sj.fin hd (sj.no1 hd (by omega)) (sj.no2 hd (sj.no1 hd (by omega)).1 (by omega))
                      exact ⟨rfl, l0, s_l, Eh, hz⟩
                  ·
                    refine s_pass rfl ?_
                    refine s_pass rfl ?_
                    refine s_pass rfl ?_
                    refine s_pure (.bool false) (fun _ q => q) ?_
                    refine s_nil ?_
                    refine p_seqN ?_
                    refine v_condN rfl (by simp) ?_
                    refine v_skip ?_
                    refine p_end [] (.tuple #[]) (fun _ q => q) rfl ?_
                    have sj : SymJ l a m b i md63 := by first | exact sj_hi h0 h1 h2 h3 hA hB hlmd63 humd63 (by omega) hi (by omega) hj hI hJ | exact sj_lo h0 h1 h2 h3 hA hB hlmd63 humd63 (by omega) hi (by omega) hj hI hJ
                    have hd : l0 = rotL l i.toNat m.toNat (md63 + m - i).toNat := (by first | (rw [hl0]; done) | exact hl0.trans (sj.id (by omega)).symm)
                    have hz := sj.fin hd (sj.no1 hd (by omega)) (sj.no2 hd (sj.no1 hd (by omega)).1 (by omega))
                    exact ⟨rfl, l0, s_l, Eh, hz⟩
              ·
                refine s_pass rfl ?_
                refine s_pass rfl ?_
                refine s_pass rfl ?_
                refine s_pure (.bool false) (fun _ q => q) ?_
                refine s_nil ?_
                refine p_seqN ?_
                refine v_condN rfl (by simp) ?_
                refine v_skip ?_
                refine p_seqN ?_
                refine v_seq ?_
                refine v_ops ?_
                refine s_pure (.int .i64 md63) (fun _ q => q) ?_
                refine s_pure (.int .i64 ((md63 + m) - i)) (fun _ q => q) ?_
                refine s_pure (.bool (decide (md63 < ((md63 + m) - i)))) (fun _ q => q) ?_
                refine s_pure (.bool (decide (md63 < ((md63 + m) - i)))) (fun _ q => q) ?_
                refine s_splitT rfl (fun c252 => ?_) (fun c252 => ?_)
                ·
                  refine s_run rfl ?_
                  refine s_pure (.int .i64 ((md63 + m) - i)) (fun _ q => q) ?_
                  refine s_run rfl ?_
                  refine s_pure (.int .i64 b) (fun _ q => q) ?_
                  refine s_run rfl ?_
                  refine s_pure (.bool (decide (((md63 + m) - i) < b))) (fun _ q => q) ?_
                  refine s_pure (.bool (decide (((md63 + m) - i) < b))) (fun _ q => q) ?_
                  refine s_nil ?_
                  refine p_seqN ?_
                  refine v_cond rfl (fun c253 => ?_) (fun c253 => ?_)
                  ·
                    refine v_ops ?_
                    refine s_pure v_l (fun _ q => q) ?_
                    refine s_pure (.int .i64 md63) (fun _ q => q) ?_
                    refine s_pure (.int .i64 ((md63 + m) - i)) (fun _ q => q) ?_
                    refine s_pure (.int .i64 b) (fun _ q => q) ?_
                    refine s_pure (.func (.func 66) #[] #[]) (fun _ q => q) ?_
                    have sj : SymJ l a m b i md63 := by first | exact sj_hi h0 h1 h2 h3 hA hB hlmd63 humd63 (by omega) hi (by omega) hj hI hJ | exact sj_lo h0 h1 h2 h3 hA hB hlmd63 humd63 (by omega) hi (by omega) hj hI hJ
                    have hd258 : l0 = rotL l i.toNat m.toNat (md63 + m - i).toNat := (by first | (rw [hl0]; done) | exact hl0.trans (sj.id (by omega)).symm)
                    have hlhd258 := sj.len hd258
                    refine s_call [v_l, .int .i64 md63, .int .i64 ((md63 + m) - i), .int .i64 b, .func (.func 66) #[] #[]] rfl (ih v_l l0 md63 ((md63 + m) - i) b _ (by omega) s_l (by omega) (by omega) (by omega) (by omega) (by omega) (sj.p3 hd258 (Like.refl _ _ _)) (sj.p4 hd258 (Like.refl _ _ _))) ?_
                    rintro _ h254 ⟨rfl, q256, s255, mh254, hp257⟩
                    have zh254 := mh254.size
                    have hlq256 := hp257.1.len
                    have E259 := Eh.new mh254 (fun b hb => Or.inl hb)
                    refine s_nil ?_
                    refine p_end [] (.tuple #[]) (fun _ q => q) rfl ?_
                    have hz := sj.fin hd258 (sj.no1 hd258 (by omega)) hp257
                    exact ⟨rfl, q256, s255, E259, hz⟩
                  ·
                    refine v_skip ?_
                    refine p_end [] (.tuple #[]) (fun _ q => q) rfl ?_
                    have sj : SymJ l a m b i md63 := by first | exact sj_hi h0 h1 h2 h3 hA hB hlmd63 humd63 (by omega) hi (by omega) hj hI hJ | exact sj_lo h0 h1 h2 h3 hA hB hlmd63 humd63 (by omega) hi (by omega) hj hI hJ
                    have hd : l0 = rotL l i.toNat m.toNat (md63 + m - i).toNat := (by first | (rw [hl0]; done) | exact hl0.trans (sj.id (by omega)).symm)
                    have hz := sj.fin hd (sj.no1 hd (by omega)) (sj.no2 hd (sj.no1 hd (by omega)).1 (by omega))
                    exact ⟨rfl, l0, s_l, Eh, hz⟩
                ·
                  refine s_pass rfl ?_
                  refine s_pass rfl ?_
                  refine s_pass rfl ?_
                  refine s_pure (.bool false) (fun _ q => q) ?_
                  refine s_nil ?_
                  refine p_seqN ?_
                  refine v_condN rfl (by simp) ?_
                  refine v_skip ?_
                  refine p_end [] (.tuple #[]) (fun _ q => q) rfl ?_
                  have sj : SymJ l a m b i md63 := by first | exact sj_hi h0 h1 h2 h3 hA hB hlmd63 humd63 (by omega) hi (by omega) hj hI hJ | exact sj_lo h0 h1 h2 h3 hA hB hlmd63 humd63 (by omega) hi (by omega) hj hI hJ
                  have hd : l0 = rotL l i.toNat m.toNat (md63 + m - i).toNat := (by first | (rw [hl0]; done) | exact hl0.trans (sj.id (by omega)).symm)
                  have hz := sj.fin hd (sj.no1 hd (by omega)) (sj.no2 hd (sj.no1 hd (by omega)).1 (by omega))
                  exact ⟨rfl, l0, s_l, Eh, hz⟩
          ·
            refine s_pass rfl ?_
            refine s_pass rfl ?_
            refine s_pass rfl ?_
            refine s_pure (.bool false) (fun _ q => q) ?_
            refine s_nil ?_
            refine p_seqN ?_
            refine v_condN rfl (by simp) ?_
            refine v_skip ?_
            refine p_seqN ?_
            refine v_seq ?_
            refine v_seq ?_
            refine v_ops ?_
            refine s_pure (.int .i64 a) (fun _ q => q) ?_
            refine s_pure (.int .i64 i) (fun _ q => q) ?_
            refine s_pure (.bool (decide (a < i))) (fun _ q => q) ?_
            refine s_pure (.bool (decide (a < i))) (fun _ q => q) ?_
            refine s_splitT rfl (fun c260 => ?_) (fun c260 => ?_)
            ·
              refine s_run rfl ?_
              refine s_pure (.int .i64 i) (fun _ q => q) ?_
              refine s_run rfl ?_
              refine s_pure (.int .i64 md63) (fun _ q => q) ?_
              refine s_run rfl ?_
              refine s_pure (.bool (decide (i < md63))) (fun _ q => q) ?_
              refine s_pure (.bool (decide (i < md63))) (fun _ q => q) ?_
              refine s_nil ?_
              refine p_seqN ?_
              refine v_cond rfl (fun c261 => ?_) (fun c261 => ?_)
              ·
                refine v_ops ?_
                refine s_pure v_l (fun _ q => q) ?_
                refine s_pure (.int .i64 a) (fun _ q => q) ?_
                refine s_pure (.int .i64 i) (fun _ q => q) ?_
                refine s_pure (.int .i64 md63) (fun _ q => q) ?_
                refine s_pure (.func (.func 66) #[] #[]) (fun _ q => q) ?_
                have sj : SymJ l a m b i md63 := by first | exact sj_hi h0 h1 h2 h3 hA hB hlmd63 humd63 (by omega) hi (by omega) hj hI hJ | exact sj_lo h0 h1 h2 h3 hA hB hlmd63 humd63 (by omega) hi (by omega) hj hI hJ
                have hd266 : l0 = rotL l i.toNat m.toNat (md63 + m - i).toNat := (by first | (rw [hl0]; done) | exact hl0.trans (sj.id (by omega)).symm)
                have hlhd266 := sj.len hd266
                refine s_call [v_l, .int .i64 a, .int .i64 i, .int .i64 md63, .func (.func 66) #[] #[]] rfl (ih v_l l0 a i md63 _ (by omega) s_l (by omega) (by omega) (by omega) (by omega) (by omega) (sj.p1 hd266) (sj.p2 hd266)) ?_
                rintro _ h262 ⟨rfl, q264, s263, mh262, hp265⟩
                have zh262 := mh262.size
                have hlq264 := hp265.1.len
                have E267 := Eh.new mh262 (fun b hb => Or.inl hb)
                refine s_nil ?_
                refine p_seqN ?_
                refine v_seq ?_
                refine v_ops ?_
                refine s_pure (.int .i64 md63) (fun _ q => q) ?_
                refine s_pure (.int .i64 ((md63 + m) - i)) (fun _ q => q) ?_
                refine s_pure (.bool (decide (md63 < ((md63 + m) - i)))) (fun _ q => q) ?_
                refine s_pure (.bool (decide (md63 < ((md63 + m) - i)))) (fun _ q => q) ?_
                refine s_splitT rfl (fun c268 => ?_) (fun c268 => ?_)
                ·
                  refine s_run rfl ?_
                  refine s_pure (.int .i64 ((md63 + m) - i)) (fun _ q => q) ?_
                  refine s_run rfl ?_
                  refine s_pure (.int .i64 b) (fun _ q => q) ?_
                  refine s_run rfl ?_
                  refine s_pure (.bool (decide (((md63 + m) - i) < b))) (fun _ q => q) ?_
                  refine s_pure (.bool (decide (((md63 + m) - i) < b))) (fun _ q => q) ?_
                  refine s_nil ?_
                  refine p_seqN ?_
                  refine v_cond rfl (fun c269 => ?_) (fun c269 => ?_)
                  ·
                    refine v_ops ?_
                    refine s_pure v_l (fun _ q => q) ?_
                    refine s_pure (.int .i64 md63) (fun _ q => q) ?_
                    refine s_pure (.int .i64 ((md63 + m) - i)) (fun _ q => q) ?_
                    refine s_pure (.int .i64 b) (fun _ q => q) ?_
                    refine s_pure (.func (.func 66) #[] #[]) (fun _ q => q) ?_
                    refine s_call [v_l, .int .i64 md63, .int .i64 ((md63 + m) - i), .int .i64 b, .func (.func 66) #[] #[]] rfl (ih v_l q264 md63 ((md63 + m) - i) b _ (by omega) s263 (by omega) (by omega) (by omega) (by omega) (by omega) (sj.p3 hd266 hp265.1) (sj.p4 hd266 hp265.1)) ?_
                    rintro _ h270 ⟨rfl, q272, s271, mh270, hp273⟩
                    have zh270 := mh270.size
                    have hlq272 := hp273.1.len
                    have E274 := E267.new mh270 (fun b hb => Or.inl hb)
                    refine s_nil ?_
                    refine p_end [] (.tuple #[]) (fun _ q => q) rfl ?_
                    have hz := sj.fin hd266 hp265 hp273
                    exact ⟨rfl, q272, s271, E274, hz⟩
                  ·
                    refine v_skip ?_
                    refine p_end [] (.tuple #[]) (fun _ q => q) rfl ?_
                    have hz := sj.fin hd266 hp265 (sj.no2 hd266 hp265.1 (by omega))
                    exact ⟨rfl, q264, s263, E267, hz⟩
                ·
                  refine s_pass rfl ?_
                  refine s_pass rfl ?_
                  refine s_pass rfl ?_
                  refine s_pure (.bool false) (fun _ q => q) ?_
                  refine s_nil ?_
                  refine p_seqN ?_
                  refine v_condN rfl (by simp) ?_
                  refine v_skip ?_
                  refine p_end [] (.tuple #[]) (fun _ q => q) rfl ?_
                  have hz := sj.fin hd266 hp265 (sj.no2 hd266 hp265.1 (by omega))
                  exact ⟨rfl, q264, s263, E267, hz⟩
              ·
                refine v_skip ?_
                refine p_seqN ?_
                refine v_seq ?_
                refine v_ops ?_
                refine s_pure (.int .i64 md63) (fun _ q => q) ?_
                refine s_pure (.int .i64 ((md63 + m) - i)) (fun _ q => q) ?_
                refine s_pure (.bool (decide (md63 < ((md63 + m) - i)))) (fun _ q => q) ?_
                refine s_pure (.bool (decide (md63 < ((md63 + m) - i)))) (fun _ q => q) ?_
                refine s_splitT rfl (fun c275 => ?_) (fun c275 => ?_)
                ·
                  refine s_run rfl ?_
                  refine s_pure (.int .i64 ((md63 + m) - i)) (fun _ q => q) ?_
                  refine s_run rfl ?_
                  refine s_pure (.int .i64 b) (fun _ q => q) ?_
                  refine s_run rfl ?_
                  refine s_pure (.bool (decide (((md63 + m) - i) < b))) (fun _ q => q) ?_
                  refine s_pure (.bool (decide (((md63 + m) - i) < b))) (fun _ q => q) ?_
                  refine s_nil ?_
                  refine p_seqN ?_
                  refine v_cond rfl (fun c276 => ?_) (fun c276 => ?_)
                  ·
                    refine v_ops ?_
                    refine s_pure v_l (fun _ q => q) ?_
                    refine s_pure (.int .i64 md63) (fun _ q => q) ?_
                    refine s_pure (.int .i64 ((md63 + m) - i)) (fun _ q => q) ?_
                    refine s_pure (.int .i64 b) (fun _ q => q) ?_
                    refine s_pure (.func (.func 66) #[] #[]) (fun _ q => q) ?_
                    have sj : SymJ l a m b i md63 := by first | exact sj_hi h0 h1 h2 h3 hA hB hlmd63 humd63 (by omega) hi (by omega) hj hI hJ | exact sj_lo h0 h1 h2 h3 hA hB hlmd63 humd63 (by omega) hi (by omega) hj hI hJ
                    have hd281 : l0 = rotL l i.toNat m.toNat (md63 + m - i).toNat := (by first | (rw [hl0]; done) | exact hl0.trans (sj.id (by omega)).symm)
                    have hlhd281 := sj.len hd281
                    refine s_call [v_l, .int .i64 md63, .int .i64 ((md63 + m) - i), .int .i64 b, .func (.func 66) #[] #[]] rfl (ih v_l l0 md63 ((md63 + m) - i) b _ (by omega) s_l (by omega) (by omega) (by omega) (by omega) (by omega) (sj.p3 hd281 (Like.refl _ _ _)) (sj.p4 hd281 (Like.refl _ _ _))) ?_
                    rintro _ h277 ⟨rfl, q279, s278, mh277, hp280⟩
                    have zh277 := mh277.size
                    have hlq279 := hp280.1.len
                    have E282 := Eh.new mh277 (fun b hb => Or.inl hb)
                    refine s_nil ?_
                    refine p_end [] (.tuple #[]) (fun _ q => q) rfl ?_
                    have hz := sj.fin hd281 (sj.no1 hd281 (by omega)) hp280
                    exact ⟨rfl, q279, s278, E282, hz⟩
                  ·
                    refine v_skip ?_
                    refine p_end [] (.tuple #[]) (fun _ q => q) rfl ?_
                    have sj : SymJ l a m b i md63 := by first | exact sj_hi h0 h1 h2 h3 hA hB hlmd63 humd63 (by omega) hi (by omega) hj hI hJ | exact sj_lo h0 h1 h2 h3 hA hB hlmd63 humd63 (by omega) hi (by omega) hj hI hJ
                    have hd : l0 = rotL l i.toNat m.toNat (md63 + m - i).toNat := (by first | (rw [hl0]; done) | exact hl0.trans (sj.id (by omega)).symm)
                    have hz := sj.fin hd (sj.no1 hd (by omega)) (sj.no2 hd (sj.no1 hd (by omega)).1 (by omega))
                    exact ⟨rfl, l0, s_l, Eh, hz⟩
                ·
                  refine s_pass rfl ?_
                  refine s_pass rfl ?_
                  refine s_pass rfl ?_
                  refine s_pure (.bool false) (fun _ q => q) ?_
                  refine s_nil ?_
                  refine p_seqN ?_
                  refine v_condN rfl (by simp) ?_
                  refine v_skip ?_
                  refine p_end [] (.tuple #[]) (fun _ q => q) rfl ?_
                  have sj : SymJ l a m b i md63 := by first | exact sj_hi h0 h1 h2 h3 hA hB hlmd63 humd63 (by omega) hi (by omega) hj hI hJ | exact sj_lo h0 h1 h2 h3 hA hB hlmd63 humd63 (by omega) hi (by omega) hj hI hJ
                  have hd : l0 = rotL l i.toNat m.toNat (md63 + m - i).toNat := (by first | (rw [hl0]; done) | exact hl0.trans (sj.id (by omega)).symm)
                  have hz := sj.fin hd (sj.no1 hd (by omega)) (sj.no2 hd (sj.no1 hd (by omega)).1 (by omega))
                  exact ⟨rfl, l0, s_l, Eh, hz⟩
            ·
              refine s_pass rfl ?_
              refine s_pass rfl ?_
              refine s_pass rfl ?_
              refine s_pure (.bool false) (fun _ q => q) ?_
              refine s_nil ?_
              refine p_seqN ?_
              refine v_condN rfl (by simp) ?_
              refine v_skip ?_
              refine p_seqN ?_
              refine v_seq ?_
              refine v_ops ?_
              refine s_pure (.int .i64 md63) (fun _ q => q) ?_
              refine s_pure (.int .i64 ((md63 + m) - i)) (fun _ q => q) ?_
              refine s_pure (.bool (decide (md63 < ((md63 + m) - i)))) (fun _ q => q) ?_
              refine s_pure (.bool (decide (md63 < ((md63 + m) - i)))) (fun _ q => q) ?_
              refine s_splitT rfl (fun c283 => ?_) (fun c283 => ?_)
              ·
                refine s_run rfl ?_
                refine s_pure (.int .i64 ((md63 + m) - i)) (fun _ q => q) ?_
                refine s_run rfl ?_
                refine s_pure (.int .i64 b) (fun _ q => q) ?_
                refine s_run rfl ?_
                refine s_pure (.bool (decide (((md63 + m) - i) < b))) (fun _ q => q) ?_
                refine s_pure (.bool (decide (((md63 + m) - i) < b))) (fun _ q => q) ?_
                refine s_nil ?_
                refine p_seqN ?_
                refine v_cond rfl (fun c284 => ?_) (fun c284 => ?_)
                ·
                  refine v_ops ?_
                  refine s_pure v_l (fun _ q => q) ?_
                  refine s_pure (.int .i64 md63) (fun _ q => q) ?_
                  refine s_pure (.int .i64 ((md63 + m) - i)) (fun _ q => q) ?_
                  refine s_pure (.int .i64 b) (fun _ q => q) ?_
                  refine s_pure (.func (.func 66) #[] #[]) (fun _ q => q) ?_
                  have sj : SymJ l a m b i md63 := by first | exact sj_hi h0 h1 h2 h3 hA hB hlmd63 humd63 (by omega) hi (by omega) hj hI hJ | exact sj_lo h0 h1 h2 h3 hA hB hlmd63 humd63 (by omega) hi (by omega) hj hI hJ
                  have hd289 : l0 = rotL l i.toNat m.toNat (md63 + m - i).toNat := (by first | (rw [hl0]; done) | exact hl0.trans (sj.id (by omega)).symm)
                  have hlhd289 := sj.len hd289
                  refine s_call [v_l, .int .i64 md63, .int .i64 ((md63 + m) - i), .int .i64 b, .func (.func 66) #[] #[]] rfl (ih v_l l0 md63 ((md63 + m) - i) b _ (by omega) s_l (by omega) (by omega) (by omega) (by omega) (by omega) (sj.p3 hd289 (Like.refl _ _ _)) (sj.p4 hd289 (Like.refl _ _ _))) ?_
                  rintro _ h285 ⟨rfl, q287, s286, mh285, hp288⟩
                  have zh285 := mh285.size
                  have hlq287 := hp288.1.len
                  have E290 := Eh.new mh285 (fun b hb => Or.inl hb)
                  refine s_nil ?_
                  refine p_end [] (.tuple #[]) (fun _ q => q) rfl ?_
                  have hz := sj.fin hd289 (sj.no1 hd289 (by omega)) hp288
                  exact ⟨rfl, q287, s286, E290, hz⟩
                ·
                  refine v_skip ?_
                  refine p_end [] (.tuple #[]) (fun _ q => q) rfl ?_
                  have sj : SymJ l a m b i md63 := by first | exact sj_hi h0 h1 h2 h3 hA hB hlmd63 humd63 (by omega) hi (by omega) hj hI hJ | exact sj_lo h0 h1 h2 h3 hA hB hlmd63 humd63 (by omega) hi (by omega) hj hI hJ
                  have hd : l0 = rotL l i.toNat m.toNat (md63 + m - i).toNat := (by first | (rw [hl0]; done) | exact hl0.trans (sj.id (by omega)).symm)
                  have hz := sj.fin hd (sj.no1 hd (by omega)) (sj.no2 hd (sj.no1 hd (by omega)).1 (by omega))
                  exact ⟨rfl, l0, s_l, Eh, hz⟩
              ·
                refine s_pass rfl ?_
                refine s_pass rfl ?_
                refine s_pass rfl ?_
                refine s_pure (.bool false) (fun _ q => q) ?_
                refine s_nil ?_
                refine p_seqN ?_
                refine v_condN rfl (by simp) ?_
                refine v_skip ?_
                refine p_end [] (.tuple #[]) (fun _ q => q) rfl ?_
                have sj : SymJ l a m b i md63 := by first | exact sj_hi h0 h1 h2 h3 hA hB hlmd63 humd63 (by omega) hi (by omega) hj hI hJ | exact sj_lo h0 h1 h2 h3 hA hB hlmd63 humd63 (by omega) hi (by omega) hj hI hJ
                have hd : l0 = rotL l i.toNat m.toNat (md63 + m - i).toNat := (by first | (rw [hl0]; done) | exact hl0.trans (sj.id (by omega)).symm)
                have hz := sj.fin hd (sj.no1 hd (by omega)) (sj.no2 hd (sj.no1 hd (by omega)).1 (by omega))
                exact ⟨rfl, l0, s_l, Eh, hz⟩

end Go.Proofs.Ytjmcijcdncgaiaa
