/- Pk4, Pk5, Pk12. Condition: none. -/
import Derived.Test.YtjmcijcdncgaiaaMgA
import Derived.Test.YtjmcijcdncgaiaaMgB
/- Messages split into packets; packets without doubles. Condition: none. Printed in part by a program. -/
namespace Go.Proofs.Ytjmcijcdncgaiaa
open Go.Vc
set_option linter.all false

def smPart (sig : List Int) (sz : Int) (k : Nat) : List Int := (sig.take (if (((k : Int) + 1) * sz) < (sig.length : Int) then (((k : Int) + 1) * sz) else (sig.length : Int)).toNat).drop ((k : Int) * sz).toNat
def smL (m : Int) (sig : List Int) (sz n : Int) (k : Nat) : List PkP := (List.range k).map fun (j : Nat) => ⟨m, (j : Int), n, smPart sig sz j⟩
theorem smL_succ (m : Int) (sig : List Int) (sz n : Int) (k : Nat) : smL m sig sz n (k + 1) = smL m sig sz n k ++ [⟨m, (k : Int), n, smPart sig sz k⟩] := by simp [smL, List.range_succ]
def smOk (m : Int) (sig : List Int) (sz : Int) : Prop := (1 ≤ m ∧ m ≤ 999) ∧ (1 ≤ sz ∧ sz ≤ 8) ∧ (sig.length : Int) ≠ 0 ∧ AllIn 1 60 sig ∧ (sig.length : Int) ≤ 9 * sz
noncomputable instance (m : Int) (sig : List Int) (sz : Int) : Decidable (smOk m sig sz) := Classical.propDecidable _
theorem sm_div {l sz : Int} (h1 : 1 ≤ sz) (h2 : sz ≤ 8) (h0 : 0 ≤ l) : (l + sz - 1) / sz ≤ 9 ↔ l ≤ 9 * sz := by
  have h3 : (l + sz - 1) / sz < 10 ↔ l + sz - 1 < 10 * sz := Int.ediv_lt_iff_lt_mul (by omega)
  constructor
  · intro h; have := h3.1 (by omega); omega
  · intro h; have := h3.2 (by omega); omega
theorem sm_at {l sz k : Int} (h1 : 1 ≤ sz) (h : k < (l + sz - 1) / sz) : (k + 1) * sz ≤ l + sz - 1 := by
 have := (Int.le_ediv_iff_mul_le (a := k + 1) (b := l + sz - 1) (c := sz) (by omega)).1 (by omega)
 exact this
theorem sm_nonneg {l sz : Int} (h1 : 1 ≤ sz) (h0 : 0 ≤ l) : 0 ≤ (l + sz - 1) / sz := Int.ediv_nonneg (by omega) (by omega)
theorem sm_mul {k : Nat} {sz : Int} (h1 : 1 ≤ sz) : 0 ≤ (k : Int) * sz ∧ ((k : Int) + 1) * sz = (k : Int) * sz + sz := ⟨Int.mul_nonneg (by omega) (by omega), by rw [Int.add_mul, Int.one_mul]⟩
theorem ite_swap (a b : Int) : (if a < b then a else b) = (if b < a then b else a) := by split <;> split <;> omega

theorem slices_Clone_Lint_int_ok (v_l : Value) (l : List Int) (h : Heap) (s_l : Sl h v_l l) (bl : l.length ≤ 2000000) : Cn f_slices_Clone_Lint_int [v_l] h fun v h' => ∃ r0 : Value, v = r0 ∧ SlO h' r0 l ∧ Fr h.size r0 ∧ Ext h h' := by
 have lt_l := s_l.lt
 have l63_l := s_l.len63
 refine calls_of r_slices_Clone_Lint_int ?_
 refine v_seq ?_
 refine v_ops ?_
 refine s_pure (.slice none 0 0) (fun _ q => q) ?_
 refine s_nil ?_
 refine p_seqN ?_
 refine v_seq ?_
 refine v_seq ?_
 refine v_ops ?_
 refine s_pure v_l (fun _ q => q) ?_
 obtain ⟨nb1, nqnb1, hnnb1⟩ := s_l.isNil
 refine s_pure (.bool nb1) (fun K q => nqnb1 false K q) ?_
 refine s_nil ?_
 refine p_seqN ?_
 refine v_cond rfl (fun c2 => ?_) (fun c2 => ?_)
 ·
  refine v_seq ?_
  refine v_ops ?_
  refine s_pure (.slice none 0 0) (fun _ q => q) ?_
  refine s_nil ?_
  refine p_seqN ?_
  refine v_ret ?_
  refine p_seqR ?_
  refine p_ret [.slice none 0 0] (.slice none 0 0) (fun _ q => q) rfl ?_
  have ho : l = [] := by first | exact hnnb1 (by assumption) | simp
  exact ⟨(.slice none 0 0), by first | (rw [ho]; done) | rfl, sl_eq (SlX.nil (α := Int) true _) (congrArg (fun o => o) ho).symm, Fr.nil _, (Ext.refl h)⟩
 ·
  refine v_skip ?_
  refine p_seqN ?_
  refine v_seq ?_
  refine v_ops ?_
  refine s_row (α := Int) [] (fun _ q => seg_nil q) rfl (by simp [maxLen]) (fun r3 h4 eh4 zh4 s_r3 fr_r3 => ?_)
  have E5 := (Ext.refl h).trans eh4
  have z6 := eh4.size
  have lt_r3 := s_r3.lt
  refine s_pure v_l (fun _ q => q) ?_
  have f7 := (s_l.ext eh4)
  refine s_app s_r3 f7 rfl rfl rfl (by simpa using s_l.len_le) (by have := s_l.len_le; simp [maxLen] at *; omega) (fun r8 h9 mh9 zh9 s_r8 ab_r8 => ?_)
  have E10 := E5.mod mh9 (fun b hb => by have := fr_r3 b hb; omega)
  have fr_r8 := fr_r3.app ab_r8 (by omega)
  have lt_r8 := s_r8.lt
  refine s_pure r8 (fun _ q => q) ?_
  refine s_nil ?_
  refine p_seqN ?_
  refine v_ret ?_
  refine p_ret [r8] r8 (fun _ q => q) rfl ?_
  have ho : l = ([] ++ l) := by first | exact hnnb1 (by assumption) | simp
  exact ⟨r8, by first | (rw [ho]; done) | rfl, sl_eq s_r8 (congrArg (fun o => o) ho).symm, fr_r8.mono (by omega), E10⟩

theorem spec_l1Own_ok (v_l : Value) (l : List Int) (h : Heap) (s_l : Sl h v_l l) (bl : l.length ≤ 2000000) : Cn f_spec_l1Own [v_l] h fun v h' => ∃ r0 : Value, v = r0 ∧ SlO h' r0 l ∧ Fr h.size r0 ∧ Ext h h' := by
 have lt_l := s_l.lt
 have l63_l := s_l.len63
 refine calls_of r_spec_l1Own ?_
 refine v_seq ?_
 refine v_ops ?_
 refine s_pure (.slice none 0 0) (fun _ q => q) ?_
 refine s_nil ?_
 refine p_seqN ?_
 refine v_seq ?_
 refine v_ops ?_
 refine s_row (α := Int) [] (fun _ q => seg_nil q) rfl (by simp [maxLen]) (fun r1 h2 eh2 zh2 s_r1 fr_r1 => ?_)
 have E3 := (Ext.refl h).trans eh2
 have z4 := eh2.size
 have lt_r1 := s_r1.lt
 refine s_pure v_l (fun _ q => q) ?_
 have f5 := (s_l.ext eh2)
 refine s_app s_r1 f5 rfl rfl rfl (by simpa using s_l.len_le) (by have := s_l.len_le; simp [maxLen] at *; omega) (fun r6 h7 mh7 zh7 s_r6 ab_r6 => ?_)
 have E8 := E3.mod mh7 (fun b hb => by have := fr_r1 b hb; omega)
 have fr_r6 := fr_r1.app ab_r6 (by omega)
 have lt_r6 := s_r6.lt
 refine s_pure r6 (fun _ q => q) ?_
 refine s_nil ?_
 refine p_seqN ?_
 refine v_ret ?_
 refine p_ret [r6] r6 (fun _ q => q) rfl ?_
 have ho : l = ([] ++ l) := by simp
 exact ⟨r6, by first | (rw [ho]; done) | rfl, sl_eq s_r6 (congrArg (fun o => o) ho).symm, fr_r6.mono (by omega), E8⟩

theorem spec_l1Least_ok (a : Int) (b : Int) (h : Heap)  : Cn f_spec_l1Least [.int .i64 a, .int .i64 b] h fun v h' => v = .int .i64 (if a < b then a else b) ∧ h' = h := by
 refine calls_of r_spec_l1Least ?_
 refine v_seq ?_
 refine v_ops ?_
 refine s_pure (.int .i64 0) (fun _ q => q) ?_
 refine s_nil ?_
 refine p_seqN ?_
 refine v_seq ?_
 refine v_seq ?_
 refine v_ops ?_
 refine s_pure (.int .i64 a) (fun _ q => q) ?_
 refine s_pure (.int .i64 b) (fun _ q => q) ?_
 refine s_pure (.bool (decide (a < b))) (fun _ q => q) ?_
 refine s_nil ?_
 refine p_seqN ?_
 refine v_cond rfl (fun c1 => ?_) (fun c1 => ?_)
 ·
  refine v_seq ?_
  refine v_ops ?_
  refine s_pure (.int .i64 a) (fun _ q => q) ?_
  refine s_pure (.int .i64 a) (fun _ q => q) ?_
  refine s_nil ?_
  refine p_seqN ?_
  refine v_ret ?_
  refine p_seqR ?_
  refine p_ret [.int .i64 a] (.int .i64 a) (fun _ q => q) rfl ?_
  have ho : (if a < b then a else b) = a := by simp [*]
  exact ⟨by first | (rw [ho]; done) | rfl, rfl⟩
 ·
  refine v_skip ?_
  refine p_seqN ?_
  refine v_seq ?_
  refine v_ops ?_
  refine s_pure (.int .i64 b) (fun _ q => q) ?_
  refine s_pure (.int .i64 b) (fun _ q => q) ?_
  refine s_nil ?_
  refine p_seqN ?_
  refine v_ret ?_
  refine p_ret [.int .i64 b] (.int .i64 b) (fun _ q => q) rfl ?_
  have ho : (if a < b then a else b) = b := by simp [*]
  exact ⟨by first | (rw [ho]; done) | rfl, rfl⟩


theorem pkMessage_ok (n : Int) (h : Heap) : Cn f_spec_pkMessage [.int .i64 n] h fun v h' => v = .bool (decide (1 ≤ n ∧ n ≤ 999)) ∧ h' = h := by
 refine calls_of r_spec_pkMessage ?_
 refine (l1In_ok _ _ _ _).mono ?_
 rintro _ _ ⟨rfl, rfl⟩
 exact ⟨rfl, rfl⟩

theorem spec_pkSplit_ok (message : Int) (v_signals : Value) (signals : List Int) (size : Int) (h : Heap) (s_signals : Sl h v_signals signals) (bl : signals.length ≤ 1048576) (hsz : 1 ≤ size ∧ size ≤ 8) (h9 : (signals.length : Int) ≤ 9 * size) : Cn f_spec_pkSplit [.int .i64 message, v_signals, .int .i64 size] h fun v h' => ∃ r0 : Value, ∃ qr0 : List Pk, v = r0 ∧ DeepO h' r0 qr0 h.size ∧ qr0.map Pk.p = smL message signals size ((((signals.length : Int) + size) - 1) / size) ((((signals.length : Int) + size) - 1) / size).toNat ∧ Ext h h' := by
 have lt_signals := s_signals.lt
 have l63_signals := s_signals.len63
 have h10 := (sm_div hsz.1 hsz.2 (by omega)).2 h9
 refine calls_of r_spec_pkSplit ?_
 refine v_seq ?_
 refine v_ops ?_
 refine s_pure (.slice none 0 0) (fun _ q => q) ?_
 refine s_nil ?_
 refine p_seqN ?_
 refine v_seq ?_
 refine v_ops ?_
 refine s_pure v_signals (fun _ q => q) ?_
 refine s_pure (.int .i64 (signals.length : Int)) (fun _ q => s_signals.lenVC q) ?_
 refine s_pure (.int .i64 size) (fun _ q => q) ?_
 refine s_pure (.int .i64 ((signals.length : Int) + size)) (fun _ q => ArithVC.mk (by omega) q) ?_
 refine s_pure (.int .i64 (((signals.length : Int) + size) - 1)) (fun _ q => ArithVC.mk (by omega) q) ?_
 refine s_pure (.int .i64 size) (fun _ q => q) ?_
 refine s_pure (.int .i64 ((((signals.length : Int) + size) - 1) / size)) (fun _ q => QuoVC.mk (by omega) (by omega) (by omega) q) ?_
 refine s_pure (.int .i64 ((((signals.length : Int) + size) - 1) / size)) (fun _ q => q) ?_
 refine s_nil ?_
 refine p_seqN ?_
 refine v_seq ?_
 refine v_ops ?_
 refine s_pure (.slice none 0 0) (fun _ q => q) ?_
 refine s_nil ?_
 refine p_seqN ?_
 refine v_seq ?_
 refine v_seq ?_
 refine v_ops ?_
 refine s_pure (.int .i64 0) (fun _ q => q) ?_
 refine s_nil ?_
 refine p_seqN ?_
 refine v_block ?_
 refine v_loop3 (α := Nat) (β := List Pk) (γ := Value) (fun k ps o => [(0, .int .i64 message), (1, v_signals), (2, .int .i64 size), (7, .int .i64 ((((signals.length : Int) + size) - 1) / size)), (8, o), (9, .int .i64 (k : Int))]) (fun k ps o hh => Ext h hh ∧ DeepO hh o ps h.size ∧ (k : Int) ≤ ((((signals.length : Int) + size) - 1) / size) ∧ ps.map Pk.p = smL message signals size ((((signals.length : Int) + size) - 1) / size) k) (fun k ps o => (((((signals.length : Int) + size) - 1) / size) - k).toNat) 0 [] (.slice none 0 0) ⟨rfl, rfl, rfl, rfl, rfl, rfl⟩ ⟨(Ext.refl h), (DeepO.nil _ _), (by exact ⟨sm_nonneg hsz.1 (by omega), rfl⟩)⟩ ?_
 rintro k ps o R2 h1 ⟨Eh, s_o, ⟨hk, hps⟩⟩
 have zEh := Eh.size
 have f4 := s_signals.ext Eh
 have lt_o := s_o.lt
 have fr_o := s_o.fr
 have hat := fun (hlt : (k : Int) < ((((signals.length : Int) + size) - 1) / size)) => sm_at hsz.1 hlt
 obtain ⟨hm0, hm1⟩ := sm_mul (k := k) hsz.1
 have hpl : ps.length = k := by (have := congrArg List.length hps); simpa [smL] using this
 refine v_seq ?_
 refine v_seq ?_
 refine v_ops ?_
 refine s_pure (.int .i64 (k : Int)) (fun _ q => q) ?_
 refine s_pure (.int .i64 ((((signals.length : Int) + size) - 1) / size)) (fun _ q => q) ?_
 refine s_pure (.bool (decide ((k : Int) < ((((signals.length : Int) + size) - 1) / size)))) (fun _ q => q) ?_
 refine s_nil ?_
 refine p_seqN ?_
 refine v_cond rfl (fun c5 => ?_) (fun c5 => ?_)
 ·
  refine v_skip ?_
  refine p_seqN ?_
  refine v_seq ?_
  refine v_block ?_
  refine v_seq ?_
  refine v_ops ?_
  refine s_pure v_signals (fun _ q => q) ?_
  refine s_pure (.int .i64 (signals.length : Int)) (fun _ q => f4.lenVC q) ?_
  refine s_pure (.int .i64 (k : Int)) (fun _ q => q) ?_
  refine s_pure (.int .i64 ((k : Int) + 1)) (fun _ q => ArithVC.mk (by omega) q) ?_
  refine s_pure (.int .i64 size) (fun _ q => q) ?_
  refine s_pure (.int .i64 (((k : Int) + 1) * size)) (fun _ q => ArithVC.mk (by omega) q) ?_
  refine s_callS [.int .i64 (signals.length : Int), .int .i64 (((k : Int) + 1) * size)] (.int .i64 (if (signals.length : Int) < (((k : Int) + 1) * size) then (signals.length : Int) else (((k : Int) + 1) * size))) rfl (spec_l1Least_ok (signals.length : Int) (((k : Int) + 1) * size) _ ) ?_
  refine s_pure (.int .i64 (if (signals.length : Int) < (((k : Int) + 1) * size) then (signals.length : Int) else (((k : Int) + 1) * size))) (fun _ q => q) ?_
  refine s_nil ?_
  refine p_seqN ?_
  refine v_ops ?_
  refine s_pure o (fun _ q => q) ?_
  refine s_pure (.int .i64 message) (fun _ q => q) ?_
  refine s_pure (.int .i64 (k : Int)) (fun _ q => q) ?_
  refine s_pure (.int .i64 ((((signals.length : Int) + size) - 1) / size)) (fun _ q => q) ?_
  refine s_pure v_signals (fun _ q => q) ?_
  refine s_pure (.int .i64 (k : Int)) (fun _ q => q) ?_
  refine s_pure (.int .i64 size) (fun _ q => q) ?_
  refine s_pure (.int .i64 ((k : Int) * size)) (fun _ q => ArithVC.mk (by omega) q) ?_
  refine s_pure (.int .i64 (if (signals.length : Int) < (((k : Int) + 1) * size) then (signals.length : Int) else (((k : Int) + 1) * size))) (fun _ q => q) ?_
  obtain ⟨r6, hqr6, s_r6, bk_r6⟩ := f4.slc (l := (((k : Int) * size)).toNat) (m := ((if (signals.length : Int) < (((k : Int) + 1) * size) then (signals.length : Int) else (((k : Int) + 1) * size))).toNat) (by first | omega | (simp; omega)) (by first | omega | (simp; omega))
  have lt_r6 := s_r6.lt
  refine s_pure r6 (fun K q => hqr6 _ rfl (some (.int .i64 ((k : Int) * size))) (some (.int .i64 (if (signals.length : Int) < (((k : Int) + 1) * size) then (signals.length : Int) else (((k : Int) + 1) * size)))) ⟨_, _, rfl, (by omega)⟩ ⟨_, _, rfl, (by omega)⟩ K q) ?_
  refine s_call [r6] rfl (spec_l1Own_ok r6 ((signals.take (((if (signals.length : Int) < (((k : Int) + 1) * size) then (signals.length : Int) else (((k : Int) + 1) * size))).toNat)).drop ((((k : Int) * size)).toNat)) _ s_r6 (by simp only [List.length_drop, List.length_take]; omega)) ?_
  rintro r7 h8 ⟨_, rfl, s_r7, fr_r7, eh8⟩
  have E9 := Eh.trans eh8
  have z10 := eh8.size
  have lt_r7 := s_r7.lt
  refine s_pure (.agg #[.int .i64 message, .int .i64 (k : Int), .int .i64 ((((signals.length : Int) + size) - 1) / size), r7]) (fun _ q => w_build (seg_i rfl (seg_i rfl (seg_i rfl (seg_sl s_r7 rfl (seg_nil q)))))) ?_
  obtain ⟨sv11, rfl⟩ := s_r7.sv
  refine s_row (α := Pk) [(⟨message, (k : Int), ((((signals.length : Int) + size) - 1) / size), sv11, ((signals.take (((if (signals.length : Int) < (((k : Int) + 1) * size) then (signals.length : Int) else (((k : Int) + 1) * size))).toNat)).drop ((((k : Int) * size)).toNat))⟩ : Pk)] (fun _ q => seg_agg rfl rfl (seg_nil q)) rfl (by simp [maxLen]) (fun r12 h13 eh13 zh13 s_r12 fr_r12 => ?_)
  have E14 := E9.trans eh13
  have z15 := eh13.size
  have lt_r12 := s_r12.lt
  have f18 := (s_r7.ext eh13)
  have f19 := ((s_o.ext eh8).ext eh13)
  refine s_app f19.row s_r12 rfl rfl rfl (by simp [maxLen]; omega) (by simp; omega) (fun r16 h17 mh17 zh17 s_r16 ab_r16 => ?_)
  have D_r16 := DeepO.snoc (e := (⟨message, (k : Int), ((((signals.length : Int) + size) - 1) / size), sv11, ((signals.take (((if (signals.length : Int) < (((k : Int) + 1) * size) then (signals.length : Int) else (((k : Int) + 1) * size))).toNat)).drop ((((k : Int) * size)).toNat))⟩ : Pk)) f19 f18 (fr_r7.mono (by omega)) (fun b hb hc => by have := fr_r7 b hb; have := lt_o b hc; omega) (by omega) mh17 s_r16 ab_r16
  have E20 := E14.mod mh17 (fun b hb => by have := (fun b hb => fr_o b (mem_fpts.2 (.inl hb))) b hb; omega)
  have lt_r16 := D_r16.lt
  have fr_r16 := D_r16.fr
  have np21a : ∀ b ∈ blks v_signals, b ∉ fpts o ps := (fun b hb hc => by have := lt_signals b hb; have := fr_o b hc; omega)
  have np21b : ∀ b ∈ blks v_signals, b ∉ blks sv11.v := (fun b hb hc => by have := lt_signals b hb; have := fr_r7 b hc; omega)
  have np21 : ∀ b ∈ blks v_signals, b ∉ fpts r16 (ps ++ [(⟨message, (k : Int), ((((signals.length : Int) + size) - 1) / size), sv11, ((signals.take (((if (signals.length : Int) < (((k : Int) + 1) * size) then (signals.length : Int) else (((k : Int) + 1) * size))).toNat)).drop ((((k : Int) * size)).toNat))⟩ : Pk)]) := fun b hb => DeepO.snocOut ab_r16 (np21a b hb) (np21b b hb) (by have := lt_signals b hb; omega)
  have np22a : ∀ b ∈ blks r6, b ∉ fpts o ps := (fun b hb hc => by have := (fun b hb => lt_signals b (bk_r6 b hb)) b hb; have := fr_o b hc; omega)
  have np22b : ∀ b ∈ blks r6, b ∉ blks sv11.v := (fun b hb hc => by have := (fun b hb => lt_signals b (bk_r6 b hb)) b hb; have := fr_r7 b hc; omega)
  have np22 : ∀ b ∈ blks r6, b ∉ fpts r16 (ps ++ [(⟨message, (k : Int), ((((signals.length : Int) + size) - 1) / size), sv11, ((signals.take (((if (signals.length : Int) < (((k : Int) + 1) * size) then (signals.length : Int) else (((k : Int) + 1) * size))).toNat)).drop ((((k : Int) * size)).toNat))⟩ : Pk)]) := fun b hb => DeepO.snocOut ab_r16 (np22a b hb) (np22b b hb) (by have := (fun b hb => lt_signals b (bk_r6 b hb)) b hb; omega)
  refine s_pure r16 (fun _ q => q) ?_
  refine s_nil ?_
  refine p_blkN ?_
  refine p_seqN ?_
  refine v_ops ?_
  refine s_pure (.int .i64 (k : Int)) (fun _ q => q) ?_
  refine s_pure (.int .i64 ((k : Int) + 1)) (fun _ q => ArithVC.mk (by omega) q) ?_
  refine s_pure (.int .i64 ((k : Int) + 1)) (fun _ q => q) ?_
  refine s_nil ?_
  exact p_lpN ⟨k + 1, (ps ++ [(⟨message, (k : Int), ((((signals.length : Int) + size) - 1) / size), sv11, ((signals.take (((if (signals.length : Int) < (((k : Int) + 1) * size) then (signals.length : Int) else (((k : Int) + 1) * size))).toNat)).drop ((((k : Int) * size)).toNat))⟩ : Pk)]), r16, ⟨rfl, rfl, rfl, rfl, rfl, rfl⟩, ⟨E20, (D_r16.mono (by omega)), (by exact ⟨by omega, by rw [List.map_append, hps, smL_succ]; simp only [smPart, ite_swap]; rfl⟩)⟩, by omega⟩
 ·
  refine v_exit ?_
  refine p_seqX ?_
  refine p_lpX ?_
  refine p_blkX ?_
  refine p_seqN ?_
  refine v_seq ?_
  refine v_ops ?_
  refine s_pure o (fun _ q => q) ?_
  refine s_pure o (fun _ q => q) ?_
  refine s_nil ?_
  refine p_seqN ?_
  refine v_ret ?_
  refine p_ret [o] o (fun _ q => q) rfl ?_
  have ho : smL message signals size ((((signals.length : Int) + size) - 1) / size) ((((signals.length : Int) + size) - 1) / size).toNat = (ps.map Pk.p) := by rw [hps]; congr 1; omega
  exact ⟨o, ps, by first | (rw [ho]; done) | rfl, (s_o.mono (by omega)), (congrArg (fun o => o) ho).symm, Eh⟩

end Go.Proofs.Ytjmcijcdncgaiaa


/- Packets without doubles; conflicts. Condition: none. Printed in part by a program. -/
namespace Go.Proofs.Ytjmcijcdncgaiaa
open Go.Vc
set_option linter.all false

theorem take_done {α : Type} {xs ys : List α} {k : Nat} (h : xs.take k = ys.take k) (hk : ¬ (k : Int) < (xs.length : Int)) (hl : (xs.length : Int) = (ys.length : Int)) : xs = ys := by
 rw [take_all hk, take_all (by omega)] at h; exact h
theorem pkp_ext {a b : PkP} : a = b ↔ a.message = b.message ∧ a.part = b.part ∧ a.parts = b.parts ∧ a.signals = b.signals := by
  cases a; cases b; simp
def clash (a b : PkP) : Prop := a.message = b.message ∧ (a.parts ≠ b.parts ∨ (a.part = b.part ∧ a.signals ≠ b.signals))
instance (a b : PkP) : Decidable (clash a b) := inferInstanceAs (Decidable (_ ∧ _))
def wdStep (out : List PkP) (p : PkP) : List PkP := if out.any (fun q => decide (p = q)) then out else out ++ [p]
def wd (l : List PkP) : List PkP := l.foldl wdStep []
theorem wd_snoc (l : List PkP) (p : PkP) : wd (l ++ [p]) = wdStep (wd l) p := by simp [wd]
theorem wd_len (l : List PkP) : (wd l).length ≤ l.length := by
  have : ∀ (l out : List PkP), (l.foldl wdStep out).length ≤ out.length + l.length := by
    intro l
    induction l with
    | nil => intro out; simp
    | cons p l ih =>
      intro out
      have := ih (wdStep out p)
      have h2 : (wdStep out p).length ≤ out.length + 1 := by unfold wdStep; split <;> simp
      simp only [List.foldl_cons, List.length_cons]; omega
  simpa [wd] using this l []
noncomputable def wdOut (l : List PkP) : List PkP × Bool := if PksOk l then (wd l, true) else ([], false)
theorem wd_no {l : List PkP} (h : ¬ PksOk l) : wdOut l = ([], false) := by rw [wdOut, if_neg h]
theorem wd_skip {ps l : List Pk} {k : Nat} {x : Pk} (hps : ps.map Pk.p = wd ((l.map Pk.p).take k)) (hx : l[k]? = some x) (h : ps.any (fun y => decide (x.p = y.p)) = true) : ps.map Pk.p = wd ((l.map Pk.p).take (k + 1)) := by
 rw [snoc_get (map_get hx), wd_snoc, ← hps, wdStep, if_pos (by rw [List.any_map]; exact h)]
theorem wd_add {ps l : List Pk} {k : Nat} {x e : Pk} (hps : ps.map Pk.p = wd ((l.map Pk.p).take k)) (hx : l[k]? = some x) (he : e.p = x.p) (h : ¬ ps.any (fun y => decide (x.p = y.p)) = true) : (ps ++ [e]).map Pk.p = wd ((l.map Pk.p).take (k + 1)) := by
 rw [snoc_get (map_get hx), wd_snoc, ← hps, wdStep, if_neg (by rw [List.any_map]; exact h), List.map_append, ← he]; rfl
theorem wd_yes {ps l : List Pk} {k : Nat} (hps : ps.map Pk.p = wd ((l.map Pk.p).take k)) (hk : ¬ (k : Int) < (l.length : Int)) (h : PksOk (l.map Pk.p)) : wdOut (l.map Pk.p) = (ps.map Pk.p, true) := by
 rw [take_all (by simpa using hk)] at hps
 rw [wdOut, if_pos h, hps]
theorem any_snoc {α : Type} {l : List α} {k : Nat} {x : α} {p : α → Bool} (hx : l[k]? = some x) : (l.take (k + 1)).any p = ((l.take k).any p || p x) := by
 rw [snoc_get hx, List.any_append]; simp

theorem slices_Equal_Lint_int_ok (v_a : Value) (a : List Int) (v_b : Value) (b : List Int) (h : Heap) (s_a : Sl h v_a a) (s_b : Sl h v_b b) : Cn f_slices_Equal_Lint_int [v_a, v_b] h fun v h' => v = .bool (decide (a = b)) ∧ Ext h h' := by
 have lt_a := s_a.lt
 have l63_a := s_a.len63
 have lt_b := s_b.lt
 have l63_b := s_b.len63
 refine calls_of r_slices_Equal_Lint_int ?_
 refine v_seq ?_
 refine v_ops ?_
 refine s_pure (.bool false) (fun _ q => q) ?_
 refine s_nil ?_
 refine p_seqN ?_
 refine v_seq ?_
 refine v_seq ?_
 refine v_ops ?_
 refine s_pure v_a (fun _ q => q) ?_
 refine s_pure (.int .i64 (a.length : Int)) (fun _ q => s_a.lenVC q) ?_
 refine s_pure v_b (fun _ q => q) ?_
 refine s_pure (.int .i64 (b.length : Int)) (fun _ q => s_b.lenVC q) ?_
 refine s_pure (.bool ((a.length : Int) != (b.length : Int))) (fun _ q => q) ?_
 refine s_nil ?_
 refine p_seqN ?_
 refine v_cond rfl (fun c1 => ?_) (fun c1 => ?_)
 ·
  refine v_seq ?_
  refine v_ops ?_
  refine s_pure (.bool false) (fun _ q => q) ?_
  refine s_nil ?_
  refine p_seqN ?_
  refine v_ret ?_
  refine p_seqR ?_
  refine p_ret [.bool false] (.bool false) (fun _ q => q) rfl ?_
  have ho : decide (a = b) = false := by simp only [decide_eq_true_eq, decide_eq_false_iff_not]; first | (intro hab; subst hab; omega) | exact get_ne (by assumption) (by assumption) (by assumption) | exact take_done hab (by assumption) (by omega)
  exact ⟨by first | (rw [ho]; done) | rfl, (Ext.refl h)⟩
 ·
  have c1 := Classical.not_not.1 c1
  refine v_skip ?_
  refine p_seqN ?_
  refine v_seq ?_
  refine v_seq ?_
  refine v_ops ?_
  refine s_pure v_a (fun _ q => q) ?_
  refine s_pure (.int .i64 (a.length : Int)) (fun _ q => s_a.lenVC q) ?_
  refine s_pure (.int .i64 0) (fun _ q => q) ?_
  refine s_nil ?_
  refine p_seqN ?_
  refine v_block ?_
  refine v_loop1 (α := Nat) (fun k => [(0, v_a), (1, v_b), (12, .int .i64 (a.length : Int)), (13, .int .i64 (k : Int))]) (fun k hh => Ext h hh ∧ k ≤ a.length ∧ a.take k = b.take k) (fun k => a.length - k) 0 ⟨rfl, rfl, rfl, rfl⟩ ⟨(Ext.refl h), (by simp)⟩ ?_
  rintro k R3 h2 ⟨Eh, ⟨hk, hab⟩⟩
  have zEh := Eh.size
  have f5 := s_a.ext Eh
  have f6 := s_b.ext Eh
  refine v_seq ?_
  refine v_ops ?_
  refine s_pure (.bool (decide ((k : Int) < (a.length : Int)))) (fun _ q => q) ?_
  refine s_nil ?_
  refine p_seqN ?_
  refine v_seq ?_
  refine v_cond rfl (fun c7 => ?_) (fun c7 => ?_)
  ·
   refine v_skip ?_
   refine p_seqN ?_
   refine v_seq ?_
   refine v_block ?_
   refine v_seq ?_
   refine v_ops ?_
   refine s_pure (.int .i64 (k : Int)) (fun _ q => q) ?_
   refine s_pure (.int .i64 (k : Int)) (fun _ q => q) ?_
   refine s_nil ?_
   refine p_seqN ?_
   refine v_seq ?_
   refine v_ops ?_
   refine s_pure v_a (fun _ q => q) ?_
   refine s_pure (.int .i64 (k : Int)) (fun _ q => q) ?_
   have hk8 : k < a.length := (by first | omega | (simp; omega))
   obtain ⟨x9, hx9⟩ : ∃ x, a[k]? = some x := ⟨_, List.getElem?_eq_getElem hk8⟩
   refine s_pure (.pointer (some ⟨sblk v_a, soff v_a + k * 1, none⟩)) (fun _ q => f5.idx (k := k) rfl hk8 q) ?_
   refine s_pure v_b (fun _ q => q) ?_
   refine s_pure (.int .i64 (k : Int)) (fun _ q => q) ?_
   have hk10 : k < b.length := (by first | omega | (simp; omega))
   obtain ⟨x11, hx11⟩ : ∃ x, b[k]? = some x := ⟨_, List.getElem?_eq_getElem hk10⟩
   refine s_pure (.pointer (some ⟨sblk v_b, soff v_b + k * 1, none⟩)) (fun _ q => f6.idx (k := k) rfl hk10 q) ?_
   refine s_load (.int .i64 x9) (fun _ q => f5.load1 hx9 rfl q) ?_
   refine s_load (.int .i64 x11) (fun _ q => f6.load1 hx11 rfl q) ?_
   refine s_pure (.bool (x9 != x11)) (fun _ q => q) ?_
   refine s_nil ?_
   refine p_seqN ?_
   refine v_cond rfl (fun c12 => ?_) (fun c12 => ?_)
   ·
    refine v_seq ?_
    refine v_ops ?_
    refine s_pure (.bool false) (fun _ q => q) ?_
    refine s_nil ?_
    refine p_seqN ?_
    refine v_ret ?_
    refine p_blkR ?_
    refine p_seqR ?_
    refine p_lpR ?_
    refine p_blkR ?_
    refine p_seqR ?_
    refine p_ret [.bool false] (.bool false) (fun _ q => q) rfl ?_
    have ho : decide (a = b) = false := by simp only [decide_eq_true_eq, decide_eq_false_iff_not]; first | (intro hab; subst hab; omega) | exact get_ne (by assumption) (by assumption) (by assumption) | exact take_done hab (by assumption) (by omega)
    exact ⟨by first | (rw [ho]; done) | rfl, Eh⟩
   ·
    have c12 := Classical.not_not.1 c12
    refine v_skip ?_
    refine p_blkN ?_
    refine p_seqN ?_
    refine v_ops ?_
    refine s_pure (.int .i64 ((k : Int) + 1)) (fun _ q => ArithVC.mk (by omega) q) ?_
    refine s_pure (.int .i64 ((k : Int) + 1)) (fun _ q => q) ?_
    refine s_nil ?_
    exact p_lpN ⟨k + 1, ⟨rfl, rfl, rfl, rfl⟩, ⟨Eh, (by exact ⟨by omega, take_ext hab (by assumption) (by assumption) (by assumption)⟩)⟩, by omega⟩
  ·
   refine v_exit ?_
   refine p_seqX ?_
   refine p_lpX ?_
   refine p_blkX ?_
   refine p_seqN ?_
   refine v_seq ?_
   refine v_ops ?_
   refine s_pure (.bool true) (fun _ q => q) ?_
   refine s_nil ?_
   refine p_seqN ?_
   refine v_ret ?_
   refine p_ret [.bool true] (.bool true) (fun _ q => q) rfl ?_
   have ho : decide (a = b) = true := by simp only [decide_eq_true_eq, decide_eq_false_iff_not]; first | (intro hab; subst hab; omega) | exact get_ne (by assumption) (by assumption) (by assumption) | exact take_done hab (by assumption) (by omega)
   exact ⟨by first | (rw [ho]; done) | rfl, Eh⟩

theorem spec_l1Same_ok (v_a : Value) (a : List Int) (v_b : Value) (b : List Int) (h : Heap) (s_a : Sl h v_a a) (s_b : Sl h v_b b) : Cn f_spec_l1Same [v_a, v_b] h fun v h' => v = .bool (decide (a = b)) ∧ Ext h h' := by
 have lt_a := s_a.lt
 have l63_a := s_a.len63
 have lt_b := s_b.lt
 have l63_b := s_b.len63
 refine calls_of r_spec_l1Same ?_
 refine v_seq ?_
 refine v_ops ?_
 refine s_pure (.bool false) (fun _ q => q) ?_
 refine s_nil ?_
 refine p_seqN ?_
 refine v_seq ?_
 refine v_seq ?_
 refine v_ops ?_
 refine s_pure v_a (fun _ q => q) ?_
 refine s_pure (.int .i64 (a.length : Int)) (fun _ q => s_a.lenVC q) ?_
 refine s_pure v_b (fun _ q => q) ?_
 refine s_pure (.int .i64 (b.length : Int)) (fun _ q => s_b.lenVC q) ?_
 refine s_pure (.bool ((a.length : Int) != (b.length : Int))) (fun _ q => q) ?_
 refine s_nil ?_
 refine p_seqN ?_
 refine v_cond rfl (fun c1 => ?_) (fun c1 => ?_)
 ·
  refine v_seq ?_
  refine v_ops ?_
  refine s_pure (.bool false) (fun _ q => q) ?_
  refine s_nil ?_
  refine p_seqN ?_
  refine v_ret ?_
  refine p_seqR ?_
  refine p_ret [.bool false] (.bool false) (fun _ q => q) rfl ?_
  have ho : decide (a = b) = false := by simp only [decide_eq_true_eq, decide_eq_false_iff_not]; first | (intro hab; subst hab; omega) | exact get_ne (by assumption) (by assumption) (by assumption) | exact take_done hab (by assumption) (by omega)
  exact ⟨by first | (rw [ho]; done) | rfl, (Ext.refl h)⟩
 ·
  have c1 := Classical.not_not.1 c1
  refine v_skip ?_
  refine p_seqN ?_
  refine v_seq ?_
  refine v_seq ?_
  refine v_ops ?_
  refine s_pure v_a (fun _ q => q) ?_
  refine s_pure (.int .i64 (a.length : Int)) (fun _ q => s_a.lenVC q) ?_
  refine s_pure (.int .i64 0) (fun _ q => q) ?_
  refine s_nil ?_
  refine p_seqN ?_
  refine v_block ?_
  refine v_loop1 (α := Nat) (fun k => [(0, v_a), (1, v_b), (12, .int .i64 (a.length : Int)), (13, .int .i64 (k : Int))]) (fun k hh => Ext h hh ∧ k ≤ a.length ∧ a.take k = b.take k) (fun k => a.length - k) 0 ⟨rfl, rfl, rfl, rfl⟩ ⟨(Ext.refl h), (by simp)⟩ ?_
  rintro k R3 h2 ⟨Eh, ⟨hk, hab⟩⟩
  have zEh := Eh.size
  have f5 := s_a.ext Eh
  have f6 := s_b.ext Eh
  refine v_seq ?_
  refine v_ops ?_
  refine s_pure (.bool (decide ((k : Int) < (a.length : Int)))) (fun _ q => q) ?_
  refine s_nil ?_
  refine p_seqN ?_
  refine v_seq ?_
  refine v_cond rfl (fun c7 => ?_) (fun c7 => ?_)
  ·
   refine v_skip ?_
   refine p_seqN ?_
   refine v_seq ?_
   refine v_block ?_
   refine v_seq ?_
   refine v_ops ?_
   refine s_pure (.int .i64 (k : Int)) (fun _ q => q) ?_
   refine s_pure (.int .i64 (k : Int)) (fun _ q => q) ?_
   refine s_nil ?_
   refine p_seqN ?_
   refine v_seq ?_
   refine v_ops ?_
   refine s_pure v_a (fun _ q => q) ?_
   refine s_pure (.int .i64 (k : Int)) (fun _ q => q) ?_
   have hk8 : k < a.length := (by first | omega | (simp; omega))
   obtain ⟨x9, hx9⟩ : ∃ x, a[k]? = some x := ⟨_, List.getElem?_eq_getElem hk8⟩
   refine s_pure (.pointer (some ⟨sblk v_a, soff v_a + k * 1, none⟩)) (fun _ q => f5.idx (k := k) rfl hk8 q) ?_
   refine s_pure v_b (fun _ q => q) ?_
   refine s_pure (.int .i64 (k : Int)) (fun _ q => q) ?_
   have hk10 : k < b.length := (by first | omega | (simp; omega))
   obtain ⟨x11, hx11⟩ : ∃ x, b[k]? = some x := ⟨_, List.getElem?_eq_getElem hk10⟩
   refine s_pure (.pointer (some ⟨sblk v_b, soff v_b + k * 1, none⟩)) (fun _ q => f6.idx (k := k) rfl hk10 q) ?_
   refine s_load (.int .i64 x9) (fun _ q => f5.load1 hx9 rfl q) ?_
   refine s_load (.int .i64 x11) (fun _ q => f6.load1 hx11 rfl q) ?_
   refine s_pure (.bool (x9 != x11)) (fun _ q => q) ?_
   refine s_nil ?_
   refine p_seqN ?_
   refine v_cond rfl (fun c12 => ?_) (fun c12 => ?_)
   ·
    refine v_seq ?_
    refine v_ops ?_
    refine s_pure (.bool false) (fun _ q => q) ?_
    refine s_nil ?_
    refine p_seqN ?_
    refine v_ret ?_
    refine p_blkR ?_
    refine p_seqR ?_
    refine p_lpR ?_
    refine p_blkR ?_
    refine p_seqR ?_
    refine p_ret [.bool false] (.bool false) (fun _ q => q) rfl ?_
    have ho : decide (a = b) = false := by simp only [decide_eq_true_eq, decide_eq_false_iff_not]; first | (intro hab; subst hab; omega) | exact get_ne (by assumption) (by assumption) (by assumption) | exact take_done hab (by assumption) (by omega)
    exact ⟨by first | (rw [ho]; done) | rfl, Eh⟩
   ·
    have c12 := Classical.not_not.1 c12
    refine v_skip ?_
    refine p_blkN ?_
    refine p_seqN ?_
    refine v_ops ?_
    refine s_pure (.int .i64 ((k : Int) + 1)) (fun _ q => ArithVC.mk (by omega) q) ?_
    refine s_pure (.int .i64 ((k : Int) + 1)) (fun _ q => q) ?_
    refine s_nil ?_
    exact p_lpN ⟨k + 1, ⟨rfl, rfl, rfl, rfl⟩, ⟨Eh, (by exact ⟨by omega, take_ext hab (by assumption) (by assumption) (by assumption)⟩)⟩, by omega⟩
  ·
   refine v_exit ?_
   refine p_seqX ?_
   refine p_lpX ?_
   refine p_blkX ?_
   refine p_seqN ?_
   refine v_seq ?_
   refine v_ops ?_
   refine s_pure (.bool true) (fun _ q => q) ?_
   refine s_nil ?_
   refine p_seqN ?_
   refine v_ret ?_
   refine p_ret [.bool true] (.bool true) (fun _ q => q) rfl ?_
   have ho : decide (a = b) = true := by simp only [decide_eq_true_eq, decide_eq_false_iff_not]; first | (intro hab; subst hab; omega) | exact get_ne (by assumption) (by assumption) (by assumption) | exact take_done hab (by assumption) (by omega)
   exact ⟨by first | (rw [ho]; done) | rfl, Eh⟩

theorem impl_samePacket_ok (a : PkP) (v_a_signals : Value) (b : PkP) (v_b_signals : Value) (h : Heap) (s_a_signals : Sl h v_a_signals a.signals) (s_b_signals : Sl h v_b_signals b.signals) : Cn f_impl_samePacket [.agg #[.int .i64 a.message, .int .i64 a.part, .int .i64 a.parts, v_a_signals], .agg #[.int .i64 b.message, .int .i64 b.part, .int .i64 b.parts, v_b_signals]] h fun v h' => v = .bool (decide (a = b)) ∧ Ext h h' := by
 have lt_a_signals := s_a_signals.lt
 have l63_a_signals := s_a_signals.len63
 have lt_b_signals := s_b_signals.lt
 have l63_b_signals := s_b_signals.len63
 refine calls_of r_impl_samePacket ?_
 refine v_seq ?_
 refine v_ops ?_
 refine s_box [.int .i64 a.message, .int .i64 a.part, .int .i64 a.parts, v_a_signals] rfl (fun h2 b1 hbb1 hzb1 eh2 bxb1 => ?_)
 have E3 := (Ext.refl h).trans eh2
 have z4 := eh2.size
 have lbb1 := bxb1.lt
 refine s_box [.int .i64 b.message, .int .i64 b.part, .int .i64 b.parts, v_b_signals] rfl (fun h6 b5 hbb5 hzb5 eh6 bxb5 => ?_)
 have E7 := E3.trans eh6
 have z8 := eh6.size
 have lbb5 := bxb5.lt
 refine s_pure (.bool false) (fun _ q => q) ?_
 refine s_nil ?_
 refine p_seqN ?_
 refine v_seq ?_
 refine v_ops ?_
 refine s_pure (.pointer (some ⟨b1, 0, none⟩)) (fun _ q => q) ?_
 have f9 := (bxb1.ext eh6)
 refine s_load (.int .i64 a.message) (fun _ q => f9.load rfl q) ?_
 refine s_pure (.pointer (some ⟨b5, 0, none⟩)) (fun _ q => q) ?_
 refine s_load (.int .i64 b.message) (fun _ q => bxb5.load rfl q) ?_
 refine s_pure (.bool (a.message == b.message)) (fun _ q => q) ?_
 refine s_pure (.bool (a.message == b.message)) (fun _ q => q) ?_
 refine s_splitT rfl (fun c10 => ?_) (fun c10 => ?_)
 ·
  refine s_run rfl ?_
  refine s_pure (.pointer (some ⟨b1, 1, none⟩)) (fun _ q => q) ?_
  refine s_run rfl ?_
  refine s_load (.int .i64 a.part) (fun _ q => f9.load rfl q) ?_
  refine s_run rfl ?_
  refine s_pure (.pointer (some ⟨b5, 1, none⟩)) (fun _ q => q) ?_
  refine s_run rfl ?_
  refine s_load (.int .i64 b.part) (fun _ q => bxb5.load rfl q) ?_
  refine s_run rfl ?_
  refine s_pure (.bool (a.part == b.part)) (fun _ q => q) ?_
  refine s_pure (.bool (a.part == b.part)) (fun _ q => q) ?_
  refine s_pure (.bool (a.part == b.part)) (fun _ q => q) ?_
  refine s_splitT rfl (fun c11 => ?_) (fun c11 => ?_)
  ·
   refine s_run rfl ?_
   refine s_pure (.pointer (some ⟨b1, 2, none⟩)) (fun _ q => q) ?_
   refine s_run rfl ?_
   refine s_load (.int .i64 a.parts) (fun _ q => f9.load rfl q) ?_
   refine s_run rfl ?_
   refine s_pure (.pointer (some ⟨b5, 2, none⟩)) (fun _ q => q) ?_
   refine s_run rfl ?_
   refine s_load (.int .i64 b.parts) (fun _ q => bxb5.load rfl q) ?_
   refine s_run rfl ?_
   refine s_pure (.bool (a.parts == b.parts)) (fun _ q => q) ?_
   refine s_pure (.bool (a.parts == b.parts)) (fun _ q => q) ?_
   refine s_pure (.bool (a.parts == b.parts)) (fun _ q => q) ?_
   refine s_splitT rfl (fun c12 => ?_) (fun c12 => ?_)
   ·
    refine s_run rfl ?_
    refine s_pure (.pointer (some ⟨b1, 3, none⟩)) (fun _ q => q) ?_
    refine s_run rfl ?_
    refine s_load v_a_signals (fun _ q => f9.load rfl q) ?_
    refine s_run rfl ?_
    refine s_pure (.pointer (some ⟨b5, 3, none⟩)) (fun _ q => q) ?_
    refine s_run rfl ?_
    refine s_load v_b_signals (fun _ q => bxb5.load rfl q) ?_
    refine s_run rfl ?_
    have f13 := ((s_a_signals.ext eh2).ext eh6)
    have f14 := ((s_b_signals.ext eh2).ext eh6)
    refine s_call [v_a_signals, v_b_signals] rfl (slices_Equal_Lint_int_ok v_a_signals a.signals v_b_signals b.signals _ f13 f14) ?_
    rintro _ h15 ⟨rfl, eh15⟩
    have E16 := E7.trans eh15
    have z17 := eh15.size
    refine s_pure (.bool (decide (a.signals = b.signals))) (fun _ q => q) ?_
    refine s_pure (.bool (decide (a.signals = b.signals))) (fun _ q => q) ?_
    refine s_nil ?_
    refine p_seqN ?_
    refine v_ret ?_
    refine p_ret [.bool (decide (a.signals = b.signals))] (.bool (decide (a.signals = b.signals))) (fun _ q => q) rfl ?_
    have ho : decide (a = b) = decide (a.signals = b.signals) := by simp only [pkp_ext]; simp [*]
    exact ⟨by first | (rw [ho]; done) | rfl, E16⟩
   ·
    refine s_pass rfl ?_
    refine s_pass rfl ?_
    refine s_pass rfl ?_
    refine s_pass rfl ?_
    refine s_pass rfl ?_
    refine s_pure (.bool false) (fun _ q => q) ?_
    refine s_pure (.bool false) (fun _ q => q) ?_
    refine s_nil ?_
    refine p_seqN ?_
    refine v_ret ?_
    refine p_ret [.bool false] (.bool false) (fun _ q => q) rfl ?_
    have ho : decide (a = b) = false := by simp only [pkp_ext]; simp [*]
    exact ⟨by first | (rw [ho]; done) | rfl, E7⟩
  ·
   refine s_pass rfl ?_
   refine s_pass rfl ?_
   refine s_pass rfl ?_
   refine s_pass rfl ?_
   refine s_pass rfl ?_
   refine s_pure (.bool false) (fun _ q => q) ?_
   refine s_pure (.bool false) (fun _ q => q) ?_
   refine s_splitN rfl (by simp) ?_
   refine s_pass rfl ?_
   refine s_pass rfl ?_
   refine s_pass rfl ?_
   refine s_pass rfl ?_
   refine s_pass rfl ?_
   refine s_pure (.bool false) (fun _ q => q) ?_
   refine s_pure (.bool false) (fun _ q => q) ?_
   refine s_nil ?_
   refine p_seqN ?_
   refine v_ret ?_
   refine p_ret [.bool false] (.bool false) (fun _ q => q) rfl ?_
   have ho : decide (a = b) = false := by simp only [pkp_ext]; simp [*]
   exact ⟨by first | (rw [ho]; done) | rfl, E7⟩
 ·
  refine s_pass rfl ?_
  refine s_pass rfl ?_
  refine s_pass rfl ?_
  refine s_pass rfl ?_
  refine s_pass rfl ?_
  refine s_pure (.bool false) (fun _ q => q) ?_
  refine s_pure (.bool false) (fun _ q => q) ?_
  refine s_splitN rfl (by simp) ?_
  refine s_pass rfl ?_
  refine s_pass rfl ?_
  refine s_pass rfl ?_
  refine s_pass rfl ?_
  refine s_pass rfl ?_
  refine s_pure (.bool false) (fun _ q => q) ?_
  refine s_pure (.bool false) (fun _ q => q) ?_
  refine s_splitN rfl (by simp) ?_
  refine s_pass rfl ?_
  refine s_pass rfl ?_
  refine s_pass rfl ?_
  refine s_pass rfl ?_
  refine s_pass rfl ?_
  refine s_pure (.bool false) (fun _ q => q) ?_
  refine s_pure (.bool false) (fun _ q => q) ?_
  refine s_nil ?_
  refine p_seqN ?_
  refine v_ret ?_
  refine p_ret [.bool false] (.bool false) (fun _ q => q) rfl ?_
  have ho : decide (a = b) = false := by simp only [pkp_ext]; simp [*]
  exact ⟨by first | (rw [ho]; done) | rfl, E7⟩

theorem spec_pkSame_ok (a : PkP) (v_a_signals : Value) (b : PkP) (v_b_signals : Value) (h : Heap) (s_a_signals : Sl h v_a_signals a.signals) (s_b_signals : Sl h v_b_signals b.signals) : Cn f_spec_pkSame [.agg #[.int .i64 a.message, .int .i64 a.part, .int .i64 a.parts, v_a_signals], .agg #[.int .i64 b.message, .int .i64 b.part, .int .i64 b.parts, v_b_signals]] h fun v h' => v = .bool (decide (a = b)) ∧ Ext h h' := by
 have lt_a_signals := s_a_signals.lt
 have l63_a_signals := s_a_signals.len63
 have lt_b_signals := s_b_signals.lt
 have l63_b_signals := s_b_signals.len63
 refine calls_of r_spec_pkSame ?_
 refine v_seq ?_
 refine v_ops ?_
 refine s_box [.int .i64 a.message, .int .i64 a.part, .int .i64 a.parts, v_a_signals] rfl (fun h2 b1 hbb1 hzb1 eh2 bxb1 => ?_)
 have E3 := (Ext.refl h).trans eh2
 have z4 := eh2.size
 have lbb1 := bxb1.lt
 refine s_box [.int .i64 b.message, .int .i64 b.part, .int .i64 b.parts, v_b_signals] rfl (fun h6 b5 hbb5 hzb5 eh6 bxb5 => ?_)
 have E7 := E3.trans eh6
 have z8 := eh6.size
 have lbb5 := bxb5.lt
 refine s_pure (.bool false) (fun _ q => q) ?_
 refine s_nil ?_
 refine p_seqN ?_
 refine v_seq ?_
 refine v_ops ?_
 refine s_pure (.pointer (some ⟨b1, 0, none⟩)) (fun _ q => q) ?_
 have f9 := (bxb1.ext eh6)
 refine s_load (.int .i64 a.message) (fun _ q => f9.load rfl q) ?_
 refine s_pure (.pointer (some ⟨b5, 0, none⟩)) (fun _ q => q) ?_
 refine s_load (.int .i64 b.message) (fun _ q => bxb5.load rfl q) ?_
 refine s_pure (.bool (a.message == b.message)) (fun _ q => q) ?_
 refine s_pure (.bool (a.message == b.message)) (fun _ q => q) ?_
 refine s_splitT rfl (fun c10 => ?_) (fun c10 => ?_)
 ·
  refine s_run rfl ?_
  refine s_pure (.pointer (some ⟨b1, 1, none⟩)) (fun _ q => q) ?_
  refine s_run rfl ?_
  refine s_load (.int .i64 a.part) (fun _ q => f9.load rfl q) ?_
  refine s_run rfl ?_
  refine s_pure (.pointer (some ⟨b5, 1, none⟩)) (fun _ q => q) ?_
  refine s_run rfl ?_
  refine s_load (.int .i64 b.part) (fun _ q => bxb5.load rfl q) ?_
  refine s_run rfl ?_
  refine s_pure (.bool (a.part == b.part)) (fun _ q => q) ?_
  refine s_pure (.bool (a.part == b.part)) (fun _ q => q) ?_
  refine s_pure (.bool (a.part == b.part)) (fun _ q => q) ?_
  refine s_splitT rfl (fun c11 => ?_) (fun c11 => ?_)
  ·
   refine s_run rfl ?_
   refine s_pure (.pointer (some ⟨b1, 2, none⟩)) (fun _ q => q) ?_
   refine s_run rfl ?_
   refine s_load (.int .i64 a.parts) (fun _ q => f9.load rfl q) ?_
   refine s_run rfl ?_
   refine s_pure (.pointer (some ⟨b5, 2, none⟩)) (fun _ q => q) ?_
   refine s_run rfl ?_
   refine s_load (.int .i64 b.parts) (fun _ q => bxb5.load rfl q) ?_
   refine s_run rfl ?_
   refine s_pure (.bool (a.parts == b.parts)) (fun _ q => q) ?_
   refine s_pure (.bool (a.parts == b.parts)) (fun _ q => q) ?_
   refine s_pure (.bool (a.parts == b.parts)) (fun _ q => q) ?_
   refine s_splitT rfl (fun c12 => ?_) (fun c12 => ?_)
   ·
    refine s_run rfl ?_
    refine s_pure (.pointer (some ⟨b1, 3, none⟩)) (fun _ q => q) ?_
    refine s_run rfl ?_
    refine s_load v_a_signals (fun _ q => f9.load rfl q) ?_
    refine s_run rfl ?_
    refine s_pure (.pointer (some ⟨b5, 3, none⟩)) (fun _ q => q) ?_
    refine s_run rfl ?_
    refine s_load v_b_signals (fun _ q => bxb5.load rfl q) ?_
    refine s_run rfl ?_
    have f13 := ((s_a_signals.ext eh2).ext eh6)
    have f14 := ((s_b_signals.ext eh2).ext eh6)
    refine s_call [v_a_signals, v_b_signals] rfl (spec_l1Same_ok v_a_signals a.signals v_b_signals b.signals _ f13 f14) ?_
    rintro _ h15 ⟨rfl, eh15⟩
    have E16 := E7.trans eh15
    have z17 := eh15.size
    refine s_pure (.bool (decide (a.signals = b.signals))) (fun _ q => q) ?_
    refine s_pure (.bool (decide (a.signals = b.signals))) (fun _ q => q) ?_
    refine s_nil ?_
    refine p_seqN ?_
    refine v_ret ?_
    refine p_ret [.bool (decide (a.signals = b.signals))] (.bool (decide (a.signals = b.signals))) (fun _ q => q) rfl ?_
    have ho : decide (a = b) = decide (a.signals = b.signals) := by simp only [pkp_ext]; simp [*]
    exact ⟨by first | (rw [ho]; done) | rfl, E16⟩
   ·
    refine s_pass rfl ?_
    refine s_pass rfl ?_
    refine s_pass rfl ?_
    refine s_pass rfl ?_
    refine s_pass rfl ?_
    refine s_pure (.bool false) (fun _ q => q) ?_
    refine s_pure (.bool false) (fun _ q => q) ?_
    refine s_nil ?_
    refine p_seqN ?_
    refine v_ret ?_
    refine p_ret [.bool false] (.bool false) (fun _ q => q) rfl ?_
    have ho : decide (a = b) = false := by simp only [pkp_ext]; simp [*]
    exact ⟨by first | (rw [ho]; done) | rfl, E7⟩
  ·
   refine s_pass rfl ?_
   refine s_pass rfl ?_
   refine s_pass rfl ?_
   refine s_pass rfl ?_
   refine s_pass rfl ?_
   refine s_pure (.bool false) (fun _ q => q) ?_
   refine s_pure (.bool false) (fun _ q => q) ?_
   refine s_splitN rfl (by simp) ?_
   refine s_pass rfl ?_
   refine s_pass rfl ?_
   refine s_pass rfl ?_
   refine s_pass rfl ?_
   refine s_pass rfl ?_
   refine s_pure (.bool false) (fun _ q => q) ?_
   refine s_pure (.bool false) (fun _ q => q) ?_
   refine s_nil ?_
   refine p_seqN ?_
   refine v_ret ?_
   refine p_ret [.bool false] (.bool false) (fun _ q => q) rfl ?_
   have ho : decide (a = b) = false := by simp only [pkp_ext]; simp [*]
   exact ⟨by first | (rw [ho]; done) | rfl, E7⟩
 ·
  refine s_pass rfl ?_
  refine s_pass rfl ?_
  refine s_pass rfl ?_
  refine s_pass rfl ?_
  refine s_pass rfl ?_
  refine s_pure (.bool false) (fun _ q => q) ?_
  refine s_pure (.bool false) (fun _ q => q) ?_
  refine s_splitN rfl (by simp) ?_
  refine s_pass rfl ?_
  refine s_pass rfl ?_
  refine s_pass rfl ?_
  refine s_pass rfl ?_
  refine s_pass rfl ?_
  refine s_pure (.bool false) (fun _ q => q) ?_
  refine s_pure (.bool false) (fun _ q => q) ?_
  refine s_splitN rfl (by simp) ?_
  refine s_pass rfl ?_
  refine s_pass rfl ?_
  refine s_pass rfl ?_
  refine s_pass rfl ?_
  refine s_pass rfl ?_
  refine s_pure (.bool false) (fun _ q => q) ?_
  refine s_pure (.bool false) (fun _ q => q) ?_
  refine s_nil ?_
  refine p_seqN ?_
  refine v_ret ?_
  refine p_ret [.bool false] (.bool false) (fun _ q => q) rfl ?_
  have ho : decide (a = b) = false := by simp only [pkp_ext]; simp [*]
  exact ⟨by first | (rw [ho]; done) | rfl, E7⟩

set_option maxRecDepth 10000 in
set_option maxHeartbeats 4000000 in
theorem impl_inConflict_ok (a : PkP) (v_a_signals : Value) (b : PkP) (v_b_signals : Value) (h : Heap) (s_a_signals : Sl h v_a_signals a.signals) (s_b_signals : Sl h v_b_signals b.signals) : Cn f_impl_inConflict [.agg #[.int .i64 a.message, .int .i64 a.part, .int .i64 a.parts, v_a_signals], .agg #[.int .i64 b.message, .int .i64 b.part, .int .i64 b.parts, v_b_signals]] h fun v h' => v = .bool (decide (clash a b)) ∧ Ext h h' := by
 have lt_a_signals := s_a_signals.lt
 have l63_a_signals := s_a_signals.len63
 have lt_b_signals := s_b_signals.lt
 have l63_b_signals := s_b_signals.len63
 refine calls_of r_impl_inConflict ?_
 refine v_seq ?_
 refine v_ops ?_
 refine s_box [.int .i64 a.message, .int .i64 a.part, .int .i64 a.parts, v_a_signals] rfl (fun h2 b1 hbb1 hzb1 eh2 bxb1 => ?_)
 have E3 := (Ext.refl h).trans eh2
 have z4 := eh2.size
 have lbb1 := bxb1.lt
 refine s_box [.int .i64 b.message, .int .i64 b.part, .int .i64 b.parts, v_b_signals] rfl (fun h6 b5 hbb5 hzb5 eh6 bxb5 => ?_)
 have E7 := E3.trans eh6
 have z8 := eh6.size
 have lbb5 := bxb5.lt
 refine s_pure (.bool false) (fun _ q => q) ?_
 refine s_nil ?_
 refine p_seqN ?_
 refine v_seq ?_
 refine v_ops ?_
 refine s_pure (.pointer (some ⟨b1, 0, none⟩)) (fun _ q => q) ?_
 have f9 := (bxb1.ext eh6)
 refine s_load (.int .i64 a.message) (fun _ q => f9.load rfl q) ?_
 refine s_pure (.pointer (some ⟨b5, 0, none⟩)) (fun _ q => q) ?_
 refine s_load (.int .i64 b.message) (fun _ q => bxb5.load rfl q) ?_
 refine s_pure (.bool (a.message == b.message)) (fun _ q => q) ?_
 refine s_pure (.bool (a.message == b.message)) (fun _ q => q) ?_
 refine s_splitT rfl (fun c10 => ?_) (fun c10 => ?_)
 ·
  refine s_run rfl ?_
  refine s_pure (.pointer (some ⟨b1, 2, none⟩)) (fun _ q => q) ?_
  refine s_run rfl ?_
  refine s_load (.int .i64 a.parts) (fun _ q => f9.load rfl q) ?_
  refine s_run rfl ?_
  refine s_pure (.pointer (some ⟨b5, 2, none⟩)) (fun _ q => q) ?_
  refine s_run rfl ?_
  refine s_load (.int .i64 b.parts) (fun _ q => bxb5.load rfl q) ?_
  refine s_run rfl ?_
  refine s_pure (.bool (a.parts != b.parts)) (fun _ q => q) ?_
  refine s_run rfl ?_
  refine s_pure (.bool (a.parts != b.parts)) (fun _ q => q) ?_
  refine s_splitT rfl (fun c11 => ?_) (fun c11 => ?_)
  ·
   refine s_pass rfl ?_
   refine s_pass rfl ?_
   refine s_pass rfl ?_
   refine s_pass rfl ?_
   refine s_pass rfl ?_
   refine s_pass rfl ?_
   refine s_splitU rfl ?_
   refine s_passU rfl ?_
   refine s_passU rfl ?_
   refine s_passU rfl ?_
   refine s_passU rfl ?_
   refine s_passU rfl ?_
   refine s_passU rfl ?_
   refine s_pass rfl ?_
   refine s_run rfl ?_
   refine s_pure (.bool true) (fun _ q => q) ?_
   refine s_pure (.bool true) (fun _ q => q) ?_
   refine s_pure (.bool true) (fun _ q => q) ?_
   refine s_nil ?_
   refine p_seqN ?_
   refine v_ret ?_
   refine p_ret [.bool true] (.bool true) (fun _ q => q) rfl ?_
   have ho : decide (clash a b) = true := by simp only [clash]; simp [*]
   exact ⟨by first | (rw [ho]; done) | rfl, E7⟩
  ·
   have c11 := Classical.not_not.1 c11
   refine s_run rfl ?_
   refine s_pure (.pointer (some ⟨b1, 1, none⟩)) (fun _ q => q) ?_
   refine s_run rfl ?_
   refine s_load (.int .i64 a.part) (fun _ q => f9.load rfl q) ?_
   refine s_run rfl ?_
   refine s_pure (.pointer (some ⟨b5, 1, none⟩)) (fun _ q => q) ?_
   refine s_run rfl ?_
   refine s_load (.int .i64 b.part) (fun _ q => bxb5.load rfl q) ?_
   refine s_run rfl ?_
   refine s_pure (.bool (a.part == b.part)) (fun _ q => q) ?_
   refine s_run rfl ?_
   refine s_pure (.bool (a.part == b.part)) (fun _ q => q) ?_
   refine s_splitT rfl (fun c12 => ?_) (fun c12 => ?_)
   ·
    refine s_run rfl ?_
    refine s_pure (.pointer (some ⟨b1, 3, none⟩)) (fun _ q => q) ?_
    refine s_run rfl ?_
    refine s_load v_a_signals (fun _ q => f9.load rfl q) ?_
    refine s_run rfl ?_
    refine s_pure (.pointer (some ⟨b5, 3, none⟩)) (fun _ q => q) ?_
    refine s_run rfl ?_
    refine s_load v_b_signals (fun _ q => bxb5.load rfl q) ?_
    refine s_run rfl ?_
    have f13 := ((s_a_signals.ext eh2).ext eh6)
    have f14 := ((s_b_signals.ext eh2).ext eh6)
    refine s_call [v_a_signals, v_b_signals] rfl (slices_Equal_Lint_int_ok v_a_signals a.signals v_b_signals b.signals _ f13 f14) ?_
    rintro _ h15 ⟨rfl, eh15⟩
    have E16 := E7.trans eh15
    have z17 := eh15.size
    refine s_run rfl ?_
    refine s_pure (.bool (!decide (a.signals = b.signals))) (fun _ q => q) ?_
    refine s_run rfl ?_
    refine s_pure (.bool (!decide (a.signals = b.signals))) (fun _ q => q) ?_
    refine s_run rfl ?_
    refine s_pure (.bool (!decide (a.signals = b.signals))) (fun _ q => q) ?_
    refine s_pure (.bool (!decide (a.signals = b.signals))) (fun _ q => q) ?_
    refine s_pure (.bool (!decide (a.signals = b.signals))) (fun _ q => q) ?_
    refine s_nil ?_
    refine p_seqN ?_
    refine v_ret ?_
    refine p_ret [.bool (!decide (a.signals = b.signals))] (.bool (!decide (a.signals = b.signals))) (fun _ q => q) rfl ?_
    have ho : decide (clash a b) = (!decide (a.signals = b.signals)) := by simp only [clash]; simp [*]
    exact ⟨by first | (rw [ho]; done) | rfl, E16⟩
   ·
    refine s_pass rfl ?_
    refine s_pass rfl ?_
    refine s_pass rfl ?_
    refine s_pass rfl ?_
    refine s_pass rfl ?_
    refine s_pass rfl ?_
    refine s_run rfl ?_
    refine s_pure (.bool false) (fun _ q => q) ?_
    refine s_run rfl ?_
    refine s_pure (.bool false) (fun _ q => q) ?_
    refine s_pure (.bool false) (fun _ q => q) ?_
    refine s_pure (.bool false) (fun _ q => q) ?_
    refine s_nil ?_
    refine p_seqN ?_
    refine v_ret ?_
    refine p_ret [.bool false] (.bool false) (fun _ q => q) rfl ?_
    have ho : decide (clash a b) = false := by simp only [clash]; simp [*]
    exact ⟨by first | (rw [ho]; done) | rfl, E7⟩
 ·
  refine s_pass rfl ?_
  refine s_pass rfl ?_
  refine s_pass rfl ?_
  refine s_pass rfl ?_
  refine s_pass rfl ?_
  refine s_pass rfl ?_
  refine s_splitU rfl ?_
  refine s_passU rfl ?_
  refine s_passU rfl ?_
  refine s_passU rfl ?_
  refine s_passU rfl ?_
  refine s_passU rfl ?_
  refine s_passU rfl ?_
  refine s_splitU rfl ?_
  refine s_passU rfl ?_
  refine s_passU rfl ?_
  refine s_passU rfl ?_
  refine s_passU rfl ?_
  refine s_passU rfl ?_
  refine s_passU rfl ?_
  refine s_passU rfl ?_
  refine s_pass rfl ?_
  refine s_pure (.bool false) (fun _ q => q) ?_
  refine s_pure (.bool false) (fun _ q => q) ?_
  refine s_nil ?_
  refine p_seqN ?_
  refine v_ret ?_
  refine p_ret [.bool false] (.bool false) (fun _ q => q) rfl ?_
  have ho : decide (clash a b) = false := by simp only [clash]; simp [*]
  exact ⟨by first | (rw [ho]; done) | rfl, E7⟩

set_option maxRecDepth 10000 in
set_option maxHeartbeats 4000000 in
theorem spec_pkClash_ok (a : PkP) (v_a_signals : Value) (b : PkP) (v_b_signals : Value) (h : Heap) (s_a_signals : Sl h v_a_signals a.signals) (s_b_signals : Sl h v_b_signals b.signals) : Cn f_spec_pkClash [.agg #[.int .i64 a.message, .int .i64 a.part, .int .i64 a.parts, v_a_signals], .agg #[.int .i64 b.message, .int .i64 b.part, .int .i64 b.parts, v_b_signals]] h fun v h' => v = .bool (decide (clash a b)) ∧ Ext h h' := by
 have lt_a_signals := s_a_signals.lt
 have l63_a_signals := s_a_signals.len63
 have lt_b_signals := s_b_signals.lt
 have l63_b_signals := s_b_signals.len63
 refine calls_of r_spec_pkClash ?_
 refine v_seq ?_
 refine v_ops ?_
 refine s_box [.int .i64 a.message, .int .i64 a.part, .int .i64 a.parts, v_a_signals] rfl (fun h2 b1 hbb1 hzb1 eh2 bxb1 => ?_)
 have E3 := (Ext.refl h).trans eh2
 have z4 := eh2.size
 have lbb1 := bxb1.lt
 refine s_box [.int .i64 b.message, .int .i64 b.part, .int .i64 b.parts, v_b_signals] rfl (fun h6 b5 hbb5 hzb5 eh6 bxb5 => ?_)
 have E7 := E3.trans eh6
 have z8 := eh6.size
 have lbb5 := bxb5.lt
 refine s_pure (.bool false) (fun _ q => q) ?_
 refine s_nil ?_
 refine p_seqN ?_
 refine v_seq ?_
 refine v_ops ?_
 refine s_pure (.pointer (some ⟨b1, 0, none⟩)) (fun _ q => q) ?_
 have f9 := (bxb1.ext eh6)
 refine s_load (.int .i64 a.message) (fun _ q => f9.load rfl q) ?_
 refine s_pure (.pointer (some ⟨b5, 0, none⟩)) (fun _ q => q) ?_
 refine s_load (.int .i64 b.message) (fun _ q => bxb5.load rfl q) ?_
 refine s_pure (.bool (a.message == b.message)) (fun _ q => q) ?_
 refine s_pure (.bool (a.message == b.message)) (fun _ q => q) ?_
 refine s_splitT rfl (fun c10 => ?_) (fun c10 => ?_)
 ·
  refine s_run rfl ?_
  refine s_pure (.pointer (some ⟨b1, 2, none⟩)) (fun _ q => q) ?_
  refine s_run rfl ?_
  refine s_load (.int .i64 a.parts) (fun _ q => f9.load rfl q) ?_
  refine s_run rfl ?_
  refine s_pure (.pointer (some ⟨b5, 2, none⟩)) (fun _ q => q) ?_
  refine s_run rfl ?_
  refine s_load (.int .i64 b.parts) (fun _ q => bxb5.load rfl q) ?_
  refine s_run rfl ?_
  refine s_pure (.bool (a.parts != b.parts)) (fun _ q => q) ?_
  refine s_run rfl ?_
  refine s_pure (.bool (a.parts != b.parts)) (fun _ q => q) ?_
  refine s_splitT rfl (fun c11 => ?_) (fun c11 => ?_)
  ·
   refine s_pass rfl ?_
   refine s_pass rfl ?_
   refine s_pass rfl ?_
   refine s_pass rfl ?_
   refine s_pass rfl ?_
   refine s_pass rfl ?_
   refine s_splitU rfl ?_
   refine s_passU rfl ?_
   refine s_passU rfl ?_
   refine s_passU rfl ?_
   refine s_passU rfl ?_
   refine s_passU rfl ?_
   refine s_passU rfl ?_
   refine s_pass rfl ?_
   refine s_run rfl ?_
   refine s_pure (.bool true) (fun _ q => q) ?_
   refine s_pure (.bool true) (fun _ q => q) ?_
   refine s_pure (.bool true) (fun _ q => q) ?_
   refine s_nil ?_
   refine p_seqN ?_
   refine v_ret ?_
   refine p_ret [.bool true] (.bool true) (fun _ q => q) rfl ?_
   have ho : decide (clash a b) = true := by simp only [clash]; simp [*]
   exact ⟨by first | (rw [ho]; done) | rfl, E7⟩
  ·
   have c11 := Classical.not_not.1 c11
   refine s_run rfl ?_
   refine s_pure (.pointer (some ⟨b1, 1, none⟩)) (fun _ q => q) ?_
   refine s_run rfl ?_
   refine s_load (.int .i64 a.part) (fun _ q => f9.load rfl q) ?_
   refine s_run rfl ?_
   refine s_pure (.pointer (some ⟨b5, 1, none⟩)) (fun _ q => q) ?_
   refine s_run rfl ?_
   refine s_load (.int .i64 b.part) (fun _ q => bxb5.load rfl q) ?_
   refine s_run rfl ?_
   refine s_pure (.bool (a.part == b.part)) (fun _ q => q) ?_
   refine s_run rfl ?_
   refine s_pure (.bool (a.part == b.part)) (fun _ q => q) ?_
   refine s_splitT rfl (fun c12 => ?_) (fun c12 => ?_)
   ·
    refine s_run rfl ?_
    refine s_pure (.pointer (some ⟨b1, 3, none⟩)) (fun _ q => q) ?_
    refine s_run rfl ?_
    refine s_load v_a_signals (fun _ q => f9.load rfl q) ?_
    refine s_run rfl ?_
    refine s_pure (.pointer (some ⟨b5, 3, none⟩)) (fun _ q => q) ?_
    refine s_run rfl ?_
    refine s_load v_b_signals (fun _ q => bxb5.load rfl q) ?_
    refine s_run rfl ?_
    have f13 := ((s_a_signals.ext eh2).ext eh6)
    have f14 := ((s_b_signals.ext eh2).ext eh6)
    refine s_call [v_a_signals, v_b_signals] rfl (spec_l1Same_ok v_a_signals a.signals v_b_signals b.signals _ f13 f14) ?_
    rintro _ h15 ⟨rfl, eh15⟩
    have E16 := E7.trans eh15
    have z17 := eh15.size
    refine s_run rfl ?_
    refine s_pure (.bool (!decide (a.signals = b.signals))) (fun _ q => q) ?_
    refine s_run rfl ?_
    refine s_pure (.bool (!decide (a.signals = b.signals))) (fun _ q => q) ?_
    refine s_run rfl ?_
    refine s_pure (.bool (!decide (a.signals = b.signals))) (fun _ q => q) ?_
    refine s_pure (.bool (!decide (a.signals = b.signals))) (fun _ q => q) ?_
    refine s_pure (.bool (!decide (a.signals = b.signals))) (fun _ q => q) ?_
    refine s_nil ?_
    refine p_seqN ?_
    refine v_ret ?_
    refine p_ret [.bool (!decide (a.signals = b.signals))] (.bool (!decide (a.signals = b.signals))) (fun _ q => q) rfl ?_
    have ho : decide (clash a b) = (!decide (a.signals = b.signals)) := by simp only [clash]; simp [*]
    exact ⟨by first | (rw [ho]; done) | rfl, E16⟩
   ·
    refine s_pass rfl ?_
    refine s_pass rfl ?_
    refine s_pass rfl ?_
    refine s_pass rfl ?_
    refine s_pass rfl ?_
    refine s_pass rfl ?_
    refine s_run rfl ?_
    refine s_pure (.bool false) (fun _ q => q) ?_
    refine s_run rfl ?_
    refine s_pure (.bool false) (fun _ q => q) ?_
    refine s_pure (.bool false) (fun _ q => q) ?_
    refine s_pure (.bool false) (fun _ q => q) ?_
    refine s_nil ?_
    refine p_seqN ?_
    refine v_ret ?_
    refine p_ret [.bool false] (.bool false) (fun _ q => q) rfl ?_
    have ho : decide (clash a b) = false := by simp only [clash]; simp [*]
    exact ⟨by first | (rw [ho]; done) | rfl, E7⟩
 ·
  refine s_pass rfl ?_
  refine s_pass rfl ?_
  refine s_pass rfl ?_
  refine s_pass rfl ?_
  refine s_pass rfl ?_
  refine s_pass rfl ?_
  refine s_splitU rfl ?_
  refine s_passU rfl ?_
  refine s_passU rfl ?_
  refine s_passU rfl ?_
  refine s_passU rfl ?_
  refine s_passU rfl ?_
  refine s_passU rfl ?_
  refine s_splitU rfl ?_
  refine s_passU rfl ?_
  refine s_passU rfl ?_
  refine s_passU rfl ?_
  refine s_passU rfl ?_
  refine s_passU rfl ?_
  refine s_passU rfl ?_
  refine s_passU rfl ?_
  refine s_pass rfl ?_
  refine s_pure (.bool false) (fun _ q => q) ?_
  refine s_pure (.bool false) (fun _ q => q) ?_
  refine s_nil ?_
  refine p_seqN ?_
  refine v_ret ?_
  refine p_ret [.bool false] (.bool false) (fun _ q => q) rfl ?_
  have ho : decide (clash a b) = false := by simp only [clash]; simp [*]
  exact ⟨by first | (rw [ho]; done) | rfl, E7⟩

theorem impl_clonePacket_ok (p : PkP) (v_p_signals : Value) (h : Heap) (s_p_signals : Sl h v_p_signals p.signals) (bl : p.signals.length ≤ 2000000) : Cn f_impl_clonePacket [.agg #[.int .i64 p.message, .int .i64 p.part, .int .i64 p.parts, v_p_signals]] h fun v h' => ∃ r0 : Value, v = .agg #[.int .i64 p.message, .int .i64 p.part, .int .i64 p.parts, r0] ∧ SlO h' r0 p.signals ∧ Fr h.size r0 ∧ Ext h h' := by
 have lt_p_signals := s_p_signals.lt
 have l63_p_signals := s_p_signals.len63
 refine calls_of r_impl_clonePacket ?_
 refine v_seq ?_
 refine v_ops ?_
 refine s_box [.int .i64 p.message, .int .i64 p.part, .int .i64 p.parts, v_p_signals] rfl (fun h2 b1 hbb1 hzb1 eh2 bxb1 => ?_)
 have E3 := (Ext.refl h).trans eh2
 have z4 := eh2.size
 have lbb1 := bxb1.lt
 refine s_new (fun h6 b5 hbb5 hzb5 eh6 bxb5 => ?_)
 have E7 := E3.trans eh6
 have z8 := eh6.size
 have lbb5 := bxb5.lt
 refine s_nil ?_
 refine p_seqN ?_
 refine v_seq ?_
 refine v_ops ?_
 refine s_pure (.pointer (some ⟨b1, 3, none⟩)) (fun _ q => q) ?_
 have f9 := (bxb1.ext eh6)
 refine s_load v_p_signals (fun _ q => f9.load rfl q) ?_
 have f10 := ((s_p_signals.ext eh2).ext eh6)
 refine s_call [v_p_signals] rfl (slices_Clone_Lint_int_ok v_p_signals p.signals _ f10 (by first | omega | assumption | (simp; omega))) ?_
 rintro r11 h12 ⟨_, rfl, s_r11, fr_r11, eh12⟩
 have E13 := E7.trans eh12
 have z14 := eh12.size
 have lt_r11 := s_r11.lt
 refine s_pure (.pointer (some ⟨b1, 3, none⟩)) (fun _ q => q) ?_
 have f15 := (f9.ext eh12)
 refine s_stBx r11 [r11] [.int .i64 p.message, .int .i64 p.part, .int .i64 p.parts, r11] f15 rfl rfl s_r11.cellsv rfl (by simp) (all_cons s_r11.one1 all_nil) rfl (fun h16 mh16 sh16 bxx17 => ?_)
 have E18 := E13.mod mh16 (fun b hb => by simp at hb; omega)
 refine s_nil ?_
 refine p_seqN ?_
 refine v_seq ?_
 refine v_ops ?_
 refine s_load (.agg #[.int .i64 p.message, .int .i64 p.part, .int .i64 p.parts, r11]) (fun _ q => bxx17.loadA rfl q) ?_
 have f19 := ((bxb5.ext eh12).mod mh16 (by simp; omega))
 refine s_stBx (.agg #[.int .i64 p.message, .int .i64 p.part, .int .i64 p.parts, r11]) [.int .i64 p.message, .int .i64 p.part, .int .i64 p.parts, r11] [.int .i64 p.message, .int .i64 p.part, .int .i64 p.parts, r11] f19 rfl rfl rfl rfl (by simp) (all_cons rfl (all_cons rfl (all_cons rfl (all_cons s_r11.one1 all_nil)))) rfl (fun h20 mh20 sh20 bxx21 => ?_)
 have E22 := E18.mod mh20 (fun b hb => by simp at hb; omega)
 refine s_nil ?_
 refine p_seqN ?_
 refine v_ret ?_
 refine p_ret [.agg #[.int .i64 p.message, .int .i64 p.part, .int .i64 p.parts, r11]] (.agg #[.int .i64 p.message, .int .i64 p.part, .int .i64 p.parts, r11]) (fun _ q => (bxx21.loadA rfl q)) rfl ?_
 have ho : p = ⟨p.message, p.part, p.parts, p.signals⟩ := by rfl
 have f23 := ((s_r11.mod mh16 (fun b hb hc => by simp at hc; have := fr_r11 b hb; omega)).mod mh20 (fun b hb hc => by simp at hc; have := fr_r11 b hb; omega))
 exact ⟨r11, by first | (rw [ho]; done) | rfl, sl_eq f23 (congrArg (fun o => o.signals) ho).symm, fr_r11.mono (by omega), E22⟩

theorem spec_pkOwn_ok (p : PkP) (v_p_signals : Value) (h : Heap) (s_p_signals : Sl h v_p_signals p.signals) (bl : p.signals.length ≤ 2000000) : Cn f_spec_pkOwn [.agg #[.int .i64 p.message, .int .i64 p.part, .int .i64 p.parts, v_p_signals]] h fun v h' => ∃ r0 : Value, v = .agg #[.int .i64 p.message, .int .i64 p.part, .int .i64 p.parts, r0] ∧ SlO h' r0 p.signals ∧ Fr h.size r0 ∧ Ext h h' := by
 have lt_p_signals := s_p_signals.lt
 have l63_p_signals := s_p_signals.len63
 refine calls_of r_spec_pkOwn ?_
 refine v_seq ?_
 refine v_ops ?_
 refine s_box [.int .i64 p.message, .int .i64 p.part, .int .i64 p.parts, v_p_signals] rfl (fun h2 b1 hbb1 hzb1 eh2 bxb1 => ?_)
 have E3 := (Ext.refl h).trans eh2
 have z4 := eh2.size
 have lbb1 := bxb1.lt
 refine s_new (fun h6 b5 hbb5 hzb5 eh6 bxb5 => ?_)
 have E7 := E3.trans eh6
 have z8 := eh6.size
 have lbb5 := bxb5.lt
 refine s_nil ?_
 refine p_seqN ?_
 refine v_seq ?_
 refine v_ops ?_
 refine s_pure (.pointer (some ⟨b1, 3, none⟩)) (fun _ q => q) ?_
 have f9 := (bxb1.ext eh6)
 refine s_load v_p_signals (fun _ q => f9.load rfl q) ?_
 have f10 := ((s_p_signals.ext eh2).ext eh6)
 refine s_call [v_p_signals] rfl (spec_l1Own_ok v_p_signals p.signals _ f10 (by first | omega | assumption | (simp; omega))) ?_
 rintro r11 h12 ⟨_, rfl, s_r11, fr_r11, eh12⟩
 have E13 := E7.trans eh12
 have z14 := eh12.size
 have lt_r11 := s_r11.lt
 refine s_pure (.pointer (some ⟨b1, 3, none⟩)) (fun _ q => q) ?_
 have f15 := (f9.ext eh12)
 refine s_stBx r11 [r11] [.int .i64 p.message, .int .i64 p.part, .int .i64 p.parts, r11] f15 rfl rfl s_r11.cellsv rfl (by simp) (all_cons s_r11.one1 all_nil) rfl (fun h16 mh16 sh16 bxx17 => ?_)
 have E18 := E13.mod mh16 (fun b hb => by simp at hb; omega)
 refine s_nil ?_
 refine p_seqN ?_
 refine v_seq ?_
 refine v_ops ?_
 refine s_load (.agg #[.int .i64 p.message, .int .i64 p.part, .int .i64 p.parts, r11]) (fun _ q => bxx17.loadA rfl q) ?_
 have f19 := ((bxb5.ext eh12).mod mh16 (by simp; omega))
 refine s_stBx (.agg #[.int .i64 p.message, .int .i64 p.part, .int .i64 p.parts, r11]) [.int .i64 p.message, .int .i64 p.part, .int .i64 p.parts, r11] [.int .i64 p.message, .int .i64 p.part, .int .i64 p.parts, r11] f19 rfl rfl rfl rfl (by simp) (all_cons rfl (all_cons rfl (all_cons rfl (all_cons s_r11.one1 all_nil)))) rfl (fun h20 mh20 sh20 bxx21 => ?_)
 have E22 := E18.mod mh20 (fun b hb => by simp at hb; omega)
 refine s_nil ?_
 refine p_seqN ?_
 refine v_ret ?_
 refine p_ret [.agg #[.int .i64 p.message, .int .i64 p.part, .int .i64 p.parts, r11]] (.agg #[.int .i64 p.message, .int .i64 p.part, .int .i64 p.parts, r11]) (fun _ q => (bxx21.loadA rfl q)) rfl ?_
 have ho : p = ⟨p.message, p.part, p.parts, p.signals⟩ := by rfl
 have f23 := ((s_r11.mod mh16 (fun b hb hc => by simp at hc; have := fr_r11 b hb; omega)).mod mh20 (fun b hb hc => by simp at hc; have := fr_r11 b hb; omega))
 exact ⟨r11, by first | (rw [ho]; done) | rfl, sl_eq f23 (congrArg (fun o => o.signals) ho).symm, fr_r11.mono (by omega), E22⟩

theorem impl_WithoutDoubles_1_ok (q : PkP) (v_q_signals : Value) (p : PkP) (v_p_signals : Value) (p_p : Nat) (t_p : TypeId) (h : Heap) (s_q_signals : Sl h v_q_signals q.signals) (s_p_signals : Sl h v_p_signals p.signals) (bx_p : Bx h p_p [.int .i64 p.message, .int .i64 p.part, .int .i64 p.parts, v_p_signals] t_p) : Cn f_impl_WithoutDoubles_1 [.agg #[.int .i64 q.message, .int .i64 q.part, .int .i64 q.parts, v_q_signals], .pointer (some ⟨p_p, 0, none⟩)] h fun v h' => v = .bool (decide (p = q)) ∧ Ext h h' := by
 have lt_q_signals := s_q_signals.lt
 have l63_q_signals := s_q_signals.len63
 have lt_p_signals := s_p_signals.lt
 have l63_p_signals := s_p_signals.len63
 have lbx_p := bx_p.lt
 refine calls_of r_impl_WithoutDoubles_1 ?_
 refine v_seq ?_
 refine v_ops ?_
 refine s_box [.int .i64 q.message, .int .i64 q.part, .int .i64 q.parts, v_q_signals] rfl (fun h2 b1 hbb1 hzb1 eh2 bxb1 => ?_)
 have E3 := (Ext.refl h).trans eh2
 have z4 := eh2.size
 have lbb1 := bxb1.lt
 refine s_pure (.bool false) (fun _ q => q) ?_
 refine s_nil ?_
 refine p_seqN ?_
 refine v_seq ?_
 refine v_ops ?_
 have f5 := (bx_p.ext eh2)
 refine s_load (.agg #[.int .i64 p.message, .int .i64 p.part, .int .i64 p.parts, v_p_signals]) (fun _ q => f5.loadA rfl q) ?_
 refine s_load (.agg #[.int .i64 q.message, .int .i64 q.part, .int .i64 q.parts, v_q_signals]) (fun _ q => bxb1.loadA rfl q) ?_
 have f6 := (s_p_signals.ext eh2)
 have f7 := (s_q_signals.ext eh2)
 refine s_call [.agg #[.int .i64 p.message, .int .i64 p.part, .int .i64 p.parts, v_p_signals], .agg #[.int .i64 q.message, .int .i64 q.part, .int .i64 q.parts, v_q_signals]] rfl (impl_samePacket_ok p v_p_signals q v_q_signals _ f6 f7) ?_
 rintro _ h8 ⟨rfl, eh8⟩
 have E9 := E3.trans eh8
 have z10 := eh8.size
 refine s_pure (.bool (decide (p = q))) (fun _ q => q) ?_
 refine s_nil ?_
 refine p_seqN ?_
 refine v_ret ?_
 refine p_ret [.bool (decide (p = q))] (.bool (decide (p = q))) (fun _ q => q) rfl ?_
 have ho : decide (p = q) = decide (p = q) := by rfl
 exact ⟨by first | (rw [ho]; done) | rfl, E9⟩

set_option maxRecDepth 10000 in
set_option maxHeartbeats 4000000 in
theorem impl_WithoutDoubles_ok (v_l : Value) (l : List Pk) (d_l : List (PkP)) (h : Heap) (s_l : Sl h v_l l) (in_l : ∀ p ∈ l, Sl h p.sv.v p.sig) (hd_l : l.map Pk.p = d_l) : Cn f_impl_WithoutDoubles [v_l] h fun v h' => ∃ r0 : Value, ∃ qr0 : List Pk, v = .tuple #[r0, .bool ((wdOut d_l).2)] ∧ DeepO h' r0 qr0 h.size ∧ qr0.map Pk.p = (wdOut d_l).1 ∧ Ext h h' := by
 subst hd_l
 have lt_l := s_l.lt
 have l63_l := s_l.len63
 have inlt_l := fun p hp => (in_l p hp).lt
 refine calls_of r_impl_WithoutDoubles ?_
 refine v_seq ?_
 refine v_ops ?_
 refine s_pure (.slice none 0 0) (fun _ q => q) ?_
 refine s_pure (.bool false) (fun _ q => q) ?_
 refine s_nil ?_
 refine p_seqN ?_
 refine v_seq ?_
 refine v_seq ?_
 refine v_ops ?_
 refine s_pure v_l (fun _ q => q) ?_
 refine s_call [v_l] rfl (impl_ArePackets_ok v_l l (l.map Pk.p) _ s_l in_l rfl) ?_
 rintro _ h1 ⟨rfl, eh1⟩
 have E2 := (Ext.refl h).trans eh1
 have z3 := eh1.size
 refine s_pure (.bool (!decide (PksOk (l.map Pk.p)))) (fun _ q => q) ?_
 refine s_nil ?_
 refine p_seqN ?_
 refine v_cond rfl (fun c4 => ?_) (fun c4 => ?_)
 ·
  refine v_seq ?_
  refine v_ops ?_
  refine s_pure (.slice none 0 0) (fun _ q => q) ?_
  refine s_pure (.bool false) (fun _ q => q) ?_
  refine s_nil ?_
  refine p_seqN ?_
  refine v_ret ?_
  refine p_seqR ?_
  refine p_ret [.slice none 0 0, .bool false] (.tuple #[.slice none 0 0, .bool false]) (fun _ q => q) rfl ?_
  have ho : wdOut (l.map Pk.p) = ([], false) := by first | exact wd_no (by assumption) | exact wd_yes hps (by assumption) (by assumption)
  exact ⟨(.slice none 0 0), [], by first | (rw [ho]; done) | rfl, DeepO.nil _ _, (congrArg (fun o => o.1) ho).symm, E2⟩
 ·
  have c4 := Classical.not_not.1 c4
  refine v_skip ?_
  refine p_seqN ?_
  refine v_seq ?_
  refine v_ops ?_
  refine s_pure (.slice none 0 0) (fun _ q => q) ?_
  refine s_nil ?_
  refine p_seqN ?_
  refine v_seq ?_
  refine v_seq ?_
  refine v_ops ?_
  refine s_pure v_l (fun _ q => q) ?_
  refine s_pure (.int .i64 (l.length : Int)) (fun _ q => s_l.lenVC q) ?_
  refine s_pure (.int .i64 0) (fun _ q => q) ?_
  refine s_nil ?_
  refine p_seqN ?_
  refine v_block ?_
  refine v_loop3 (α := Nat) (β := List Pk) (γ := Value) (fun k ps o => [(4, o), (10, v_l), (11, .int .i64 (l.length : Int)), (12, .int .i64 (k : Int))]) (fun k ps o hh => Ext h hh ∧ DeepO hh o ps h.size ∧ k ≤ l.length ∧ ps.map Pk.p = wd ((l.map Pk.p).take k)) (fun k ps o => l.length - k) 0 [] (.slice none 0 0) ⟨rfl, rfl, rfl, rfl⟩ ⟨E2, (DeepO.nil _ _), (by simp [wd])⟩ ?_
  rintro k ps o R6 h5 ⟨Eh, s_o, ⟨hk, hps⟩⟩
  have zEh := Eh.size
  have f8 := s_l.ext Eh
  have in9 := fun p hp => (in_l p hp).ext Eh
  have lt_o := s_o.lt
  have fr_o := s_o.fr
  have hpl : ps.length ≤ 40 := by (have h1 := congrArg List.length hps); (have h2 := wd_len ((l.map Pk.p).take k)); simp only [List.length_map, List.length_take] at h1 h2; (have h3 := (by assumption : PksOk (l.map Pk.p)).1); simp only [List.length_map] at h3; omega
  refine v_seq ?_
  refine v_ops ?_
  refine s_pure (.bool (decide ((k : Int) < (l.length : Int)))) (fun _ q => q) ?_
  refine s_nil ?_
  refine p_seqN ?_
  refine v_seq ?_
  refine v_cond rfl (fun c10 => ?_) (fun c10 => ?_)
  ·
   refine v_skip ?_
   refine p_seqN ?_
   refine v_seq ?_
   refine v_block ?_
   refine v_seq ?_
   refine v_ops ?_
   have hk11 : k < l.length := (by first | omega | (simp; omega))
   obtain ⟨x12, hx12⟩ : ∃ x, l[k]? = some x := ⟨_, List.getElem?_eq_getElem hk11⟩
   refine s_pure (.pointer (some ⟨sblk v_l, soff v_l + k * 4, none⟩)) (fun _ q => f8.idx (k := k) rfl hk11 q) ?_
   have s13 := in9 x12 (List.mem_of_getElem? hx12)
   refine s_load (.agg #[.int .i64 x12.message, .int .i64 x12.part, .int .i64 x12.parts, x12.sv.v]) (fun _ q => f8.loadN hx12 rfl q) ?_
   refine s_new (fun h15 b14 hbb14 hzb14 eh15 bxb14 => ?_)
   have E16 := Eh.trans eh15
   have z17 := eh15.size
   have lbb14 := bxb14.lt
   refine s_stBx (.agg #[.int .i64 x12.message, .int .i64 x12.part, .int .i64 x12.parts, x12.sv.v]) [.int .i64 x12.message, .int .i64 x12.part, .int .i64 x12.parts, x12.sv.v] [.int .i64 x12.message, .int .i64 x12.part, .int .i64 x12.parts, x12.sv.v] bxb14 rfl rfl rfl rfl (by simp) (all_cons rfl (all_cons rfl (all_cons rfl (all_cons s13.one1 all_nil)))) rfl (fun h18 mh18 sh18 bxx19 => ?_)
   have E20 := E16.mod mh18 (fun b hb => by simp at hb; omega)
   refine s_nil ?_
   refine p_seqN ?_
   refine v_seq ?_
   refine v_ops ?_
   refine s_pure o (fun _ q => q) ?_
   refine s_pure (.func (.func 60) #[] #[.pointer (some ⟨b14, 0, none⟩)]) (fun _ q => q) ?_
   have f21 := ((s_o.ext eh15).mod mh18 (fun b hb hc => by simp at hc; have := lt_o b hb; omega))
   have f22 := ((s13.ext eh15).mod mh18 (fun b hb hc => by simp at hc; have := (inlt_l x12 (List.mem_of_getElem? hx12)) b hb; omega))
   refine s_call [o, .func (.func 60) #[] #[.pointer (some ⟨b14, 0, none⟩)]] rfl (slices_ContainsFunc_Limpl_Packet_impl_Packet_ok o ps 60 #[] #[.pointer (some ⟨b14, 0, none⟩)] (fun x : Pk => decide ((Pk.p x12) = x.p)) _ f21.row.toSl f21.insL (fun x hx h2 e2 => impl_WithoutDoubles_1_ok x.p x.sv.v (Pk.p x12) x12.sv.v b14 27 h2 ((f21.insL x hx).ext e2) (f22.ext e2) (bxx19.ext e2))) ?_
   rintro _ h23 ⟨rfl, eh23⟩
   have E24 := E20.trans eh23
   have z25 := eh23.size
   refine s_pure (.bool (!(ps.any (fun x : Pk => decide ((Pk.p x12) = x.p))))) (fun _ q => q) ?_
   refine s_nil ?_
   refine p_seqN ?_
   refine v_cond rfl (fun c26 => ?_) (fun c26 => ?_)
   ·
    refine v_ops ?_
    refine s_pure o (fun _ q => q) ?_
    have f27 := (bxx19.ext eh23)
    refine s_load (.agg #[.int .i64 x12.message, .int .i64 x12.part, .int .i64 x12.parts, x12.sv.v]) (fun _ q => f27.loadA rfl q) ?_
    have f28 := (f22.ext eh23)
    refine s_call [.agg #[.int .i64 x12.message, .int .i64 x12.part, .int .i64 x12.parts, x12.sv.v]] rfl (impl_clonePacket_ok (Pk.p x12) x12.sv.v _ f28 (by (have h3 := (by assumption : PksOk (l.map Pk.p)).2 _ (List.mem_map_of_mem (List.mem_of_getElem? (by assumption : l[k]? = some _)))); (have h4 := h3.2.2.2.1); simp only at h4 ⊢; omega)) ?_
    rintro _ h30 ⟨r29, rfl, s_r29, fr_r29, eh30⟩
    have E31 := E24.trans eh30
    have z32 := eh30.size
    have lt_r29 := s_r29.lt
    obtain ⟨sv33, rfl⟩ := s_r29.sv
    refine s_row (α := Pk) [(⟨(Pk.p x12).message, (Pk.p x12).part, (Pk.p x12).parts, sv33, (Pk.p x12).signals⟩ : Pk)] (fun _ q => seg_agg rfl rfl (seg_nil q)) rfl (by simp [maxLen]) (fun r34 h35 eh35 zh35 s_r34 fr_r34 => ?_)
    have E36 := E31.trans eh35
    have z37 := eh35.size
    have lt_r34 := s_r34.lt
    have f40 := (s_r29.ext eh35)
    have f41 := (((f21.ext eh23).ext eh30).ext eh35)
    refine s_app f41.row s_r34 rfl rfl rfl (by simp [maxLen]; omega) (by simp; omega) (fun r38 h39 mh39 zh39 s_r38 ab_r38 => ?_)
    have D_r38 := DeepO.snoc (e := (⟨(Pk.p x12).message, (Pk.p x12).part, (Pk.p x12).parts, sv33, (Pk.p x12).signals⟩ : Pk)) f41 f40 (fr_r29.mono (by omega)) (fun b hb hc => by have := fr_r29 b hb; have := lt_o b hc; omega) (by omega) mh39 s_r38 ab_r38
    have E42 := E36.mod mh39 (fun b hb => by have := (fun b hb => fr_o b (mem_fpts.2 (.inl hb))) b hb; omega)
    have lt_r38 := D_r38.lt
    have fr_r38 := D_r38.fr
    have np43a : ∀ b ∈ blks v_l, b ∉ fpts o ps := (fun b hb hc => by have := lt_l b hb; have := fr_o b hc; omega)
    have np43b : ∀ b ∈ blks v_l, b ∉ blks sv33.v := (fun b hb hc => by have := lt_l b hb; have := fr_r29 b hc; omega)
    have np43 : ∀ b ∈ blks v_l, b ∉ fpts r38 (ps ++ [(⟨(Pk.p x12).message, (Pk.p x12).part, (Pk.p x12).parts, sv33, (Pk.p x12).signals⟩ : Pk)]) := fun b hb => DeepO.snocOut ab_r38 (np43a b hb) (np43b b hb) (by have := lt_l b hb; omega)
    have np44a : ∀ b ∈ blks x12.sv.v, b ∉ fpts o ps := (fun b hb hc => by have := (inlt_l x12 (List.mem_of_getElem? hx12)) b hb; have := fr_o b hc; omega)
    have np44b : ∀ b ∈ blks x12.sv.v, b ∉ blks sv33.v := (fun b hb hc => by have := (inlt_l x12 (List.mem_of_getElem? hx12)) b hb; have := fr_r29 b hc; omega)
    have np44 : ∀ b ∈ blks x12.sv.v, b ∉ fpts r38 (ps ++ [(⟨(Pk.p x12).message, (Pk.p x12).part, (Pk.p x12).parts, sv33, (Pk.p x12).signals⟩ : Pk)]) := fun b hb => DeepO.snocOut ab_r38 (np44a b hb) (np44b b hb) (by have := (inlt_l x12 (List.mem_of_getElem? hx12)) b hb; omega)
    have np45 : b14 ∉ fpts r38 (ps ++ [(⟨(Pk.p x12).message, (Pk.p x12).part, (Pk.p x12).parts, sv33, (Pk.p x12).signals⟩ : Pk)]) := DeepO.snocOut ab_r38 (fun hc => by have := lt_o _ hc; omega) (fun hc => by have := fr_r29 _ hc; omega) (by omega)
    refine s_pure r38 (fun _ q => q) ?_
    refine s_nil ?_
    refine p_blkN ?_
    refine p_seqN ?_
    refine v_ops ?_
    refine s_pure (.int .i64 ((k : Int) + 1)) (fun _ q => ArithVC.mk (by omega) q) ?_
    refine s_pure (.int .i64 ((k : Int) + 1)) (fun _ q => q) ?_
    refine s_nil ?_
    exact p_lpN ⟨k + 1, (ps ++ [(⟨(Pk.p x12).message, (Pk.p x12).part, (Pk.p x12).parts, sv33, (Pk.p x12).signals⟩ : Pk)]), r38, ⟨rfl, rfl, rfl, rfl⟩, ⟨E42, (D_r38.mono (by omega)), (by first | exact ⟨by omega, wd_skip hps (by assumption) (by first | assumption | simp_all)⟩ | exact ⟨by omega, wd_add (x := x12) hps (by assumption) rfl (by first | assumption | simp_all)⟩)⟩, by omega⟩
   ·
    have c26 := Classical.not_not.1 c26
    refine v_skip ?_
    refine p_blkN ?_
    refine p_seqN ?_
    refine v_ops ?_
    refine s_pure (.int .i64 ((k : Int) + 1)) (fun _ q => ArithVC.mk (by omega) q) ?_
    refine s_pure (.int .i64 ((k : Int) + 1)) (fun _ q => q) ?_
    refine s_nil ?_
    have f46 := (f21.ext eh23)
    exact p_lpN ⟨k + 1, ps, o, ⟨rfl, rfl, rfl, rfl⟩, ⟨E24, (f46.mono (by omega)), (by first | exact ⟨by omega, wd_skip hps (by assumption) (by first | assumption | simp_all)⟩ | exact ⟨by omega, wd_add (x := x12) hps (by assumption) rfl (by first | assumption | simp_all)⟩)⟩, by omega⟩
  ·
   refine v_exit ?_
   refine p_seqX ?_
   refine p_lpX ?_
   refine p_blkX ?_
   refine p_seqN ?_
   refine v_seq ?_
   refine v_ops ?_
   refine s_pure o (fun _ q => q) ?_
   refine s_pure o (fun _ q => q) ?_
   refine s_pure (.bool true) (fun _ q => q) ?_
   refine s_nil ?_
   refine p_seqN ?_
   refine v_ret ?_
   refine p_ret [o, .bool true] (.tuple #[o, .bool true]) (fun _ q => q) rfl ?_
   have ho : wdOut (l.map Pk.p) = ((ps.map Pk.p), true) := by first | exact wd_no (by assumption) | exact wd_yes hps (by assumption) (by assumption)
   exact ⟨o, ps, by first | (rw [ho]; done) | rfl, (s_o.mono (by omega)), (congrArg (fun o => o.1) ho).symm, Eh⟩

set_option maxRecDepth 10000 in
set_option maxHeartbeats 4000000 in
theorem spec_WithoutDoubles_ok (v_l : Value) (l : List Pk) (d_l : List (PkP)) (h : Heap) (s_l : Sl h v_l l) (in_l : ∀ p ∈ l, Sl h p.sv.v p.sig) (hd_l : l.map Pk.p = d_l) : Cn f_spec_WithoutDoubles [v_l] h fun v h' => ∃ r0 : Value, ∃ qr0 : List Pk, v = .tuple #[r0, .bool ((wdOut d_l).2)] ∧ DeepO h' r0 qr0 h.size ∧ qr0.map Pk.p = (wdOut d_l).1 ∧ Ext h h' := by
 subst hd_l
 have lt_l := s_l.lt
 have l63_l := s_l.len63
 have inlt_l := fun p hp => (in_l p hp).lt
 refine calls_of r_spec_WithoutDoubles ?_
 refine v_seq ?_
 refine v_ops ?_
 refine s_pure (.slice none 0 0) (fun _ q => q) ?_
 refine s_pure (.bool false) (fun _ q => q) ?_
 refine s_nil ?_
 refine p_seqN ?_
 refine v_seq ?_
 refine v_seq ?_
 refine v_ops ?_
 refine s_pure v_l (fun _ q => q) ?_
 refine s_call [v_l] rfl (spec_pkAll_ok v_l l (l.map Pk.p) _ s_l in_l rfl) ?_
 rintro _ h1 ⟨rfl, eh1⟩
 have E2 := (Ext.refl h).trans eh1
 have z3 := eh1.size
 refine s_pure (.bool (!decide (PksOk (l.map Pk.p)))) (fun _ q => q) ?_
 refine s_nil ?_
 refine p_seqN ?_
 refine v_cond rfl (fun c4 => ?_) (fun c4 => ?_)
 ·
  refine v_seq ?_
  refine v_ops ?_
  refine s_pure (.slice none 0 0) (fun _ q => q) ?_
  refine s_pure (.bool false) (fun _ q => q) ?_
  refine s_nil ?_
  refine p_seqN ?_
  refine v_ret ?_
  refine p_seqR ?_
  refine p_ret [.slice none 0 0, .bool false] (.tuple #[.slice none 0 0, .bool false]) (fun _ q => q) rfl ?_
  have ho : wdOut (l.map Pk.p) = ([], false) := by first | exact wd_no (by assumption) | exact wd_yes hps (by assumption) (by assumption)
  exact ⟨(.slice none 0 0), [], by first | (rw [ho]; done) | rfl, DeepO.nil _ _, (congrArg (fun o => o.1) ho).symm, E2⟩
 ·
  have c4 := Classical.not_not.1 c4
  refine v_skip ?_
  refine p_seqN ?_
  refine v_seq ?_
  refine v_ops ?_
  refine s_pure (.slice none 0 0) (fun _ q => q) ?_
  refine s_nil ?_
  refine p_seqN ?_
  refine v_seq ?_
  refine v_seq ?_
  refine v_ops ?_
  refine s_pure v_l (fun _ q => q) ?_
  refine s_pure (.int .i64 (l.length : Int)) (fun _ q => s_l.lenVC q) ?_
  refine s_pure (.int .i64 0) (fun _ q => q) ?_
  refine s_nil ?_
  refine p_seqN ?_
  refine v_block ?_
  refine v_loop3 (α := Nat) (β := List Pk) (γ := Value) (fun k ps o => [(4, o), (13, v_l), (14, .int .i64 (l.length : Int)), (15, .int .i64 (k : Int))]) (fun k ps o hh => Ext h hh ∧ DeepO hh o ps h.size ∧ k ≤ l.length ∧ ps.map Pk.p = wd ((l.map Pk.p).take k)) (fun k ps o => l.length - k) 0 [] (.slice none 0 0) ⟨rfl, rfl, rfl, rfl⟩ ⟨E2, (DeepO.nil _ _), (by simp [wd])⟩ ?_
  rintro k ps o R6 h5 ⟨Eh, s_o, ⟨hk, hps⟩⟩
  have zEh := Eh.size
  have f8 := s_l.ext Eh
  have in9 := fun p hp => (in_l p hp).ext Eh
  have lt_o := s_o.lt
  have fr_o := s_o.fr
  have hpl : ps.length ≤ 40 := by (have h1 := congrArg List.length hps); (have h2 := wd_len ((l.map Pk.p).take k)); simp only [List.length_map, List.length_take] at h1 h2; (have h3 := (by assumption : PksOk (l.map Pk.p)).1); simp only [List.length_map] at h3; omega
  refine v_seq ?_
  refine v_ops ?_
  refine s_pure (.bool (decide ((k : Int) < (l.length : Int)))) (fun _ q => q) ?_
  refine s_nil ?_
  refine p_seqN ?_
  refine v_seq ?_
  refine v_cond rfl (fun c10 => ?_) (fun c10 => ?_)
  ·
   refine v_skip ?_
   refine p_seqN ?_
   refine v_seq ?_
   refine v_block ?_
   refine v_seq ?_
   refine v_ops ?_
   have hk11 : k < l.length := (by first | omega | (simp; omega))
   obtain ⟨x12, hx12⟩ : ∃ x, l[k]? = some x := ⟨_, List.getElem?_eq_getElem hk11⟩
   refine s_pure (.pointer (some ⟨sblk v_l, soff v_l + k * 4, none⟩)) (fun _ q => f8.idx (k := k) rfl hk11 q) ?_
   have s13 := in9 x12 (List.mem_of_getElem? hx12)
   refine s_load (.agg #[.int .i64 x12.message, .int .i64 x12.part, .int .i64 x12.parts, x12.sv.v]) (fun _ q => f8.loadN hx12 rfl q) ?_
   refine s_new (fun h15 b14 hbb14 hzb14 eh15 bxb14 => ?_)
   have E16 := Eh.trans eh15
   have z17 := eh15.size
   have lbb14 := bxb14.lt
   refine s_stBx (.agg #[.int .i64 x12.message, .int .i64 x12.part, .int .i64 x12.parts, x12.sv.v]) [.int .i64 x12.message, .int .i64 x12.part, .int .i64 x12.parts, x12.sv.v] [.int .i64 x12.message, .int .i64 x12.part, .int .i64 x12.parts, x12.sv.v] bxb14 rfl rfl rfl rfl (by simp) (all_cons rfl (all_cons rfl (all_cons rfl (all_cons s13.one1 all_nil)))) rfl (fun h18 mh18 sh18 bxx19 => ?_)
   have E20 := E16.mod mh18 (fun b hb => by simp at hb; omega)
   refine s_nil ?_
   refine p_seqN ?_
   refine v_seq ?_
   refine v_ops ?_
   refine s_pure (.bool false) (fun _ q => q) ?_
   refine s_nil ?_
   refine p_seqN ?_
   refine v_seq ?_
   refine v_seq ?_
   refine v_ops ?_
   refine s_pure o (fun _ q => q) ?_
   refine s_pure (.int .i64 (ps.length : Int)) (fun _ q => s_o.row.lenVC q) ?_
   refine s_pure (.int .i64 0) (fun _ q => q) ?_
   refine s_nil ?_
   refine p_seqN ?_
   refine v_block ?_
   have nk22 : b14 ∉ fpts o ps := (fun hc => by have := lt_o _ hc; omega)
   have f23 := ((s_o.ext eh15).mod mh18 (fun b hb hc => by simp at hc; have := lt_o b hb; omega))
   refine v_loop2 (α := Nat) (β := Bool) (fun j db => [(4, o), (6, .pointer (some ⟨b14, 0, none⟩)), (7, .bool db), (13, v_l), (14, .int .i64 (l.length : Int)), (15, .int .i64 (k : Int)), (19, o), (20, .int .i64 (ps.length : Int)), (21, .int .i64 (j : Int))]) (fun j db hh => Ext h hh ∧ Bx hh b14 [.int .i64 x12.message, .int .i64 x12.part, .int .i64 x12.parts, x12.sv.v] 27 ∧ DeepO hh o ps h.size ∧ j ≤ ps.length ∧ db = (ps.take j).any (fun y => decide (x12.p = y.p))) (fun j db => ps.length - j) 0 false ⟨rfl, rfl, rfl, rfl, rfl, rfl, rfl, rfl, rfl⟩ ⟨E20, bxx19, (f23.mono (by omega)), (by simp)⟩ ?_
   rintro j db R24 h21 ⟨Eh, bxb14, s_o, ⟨hj, hdb⟩⟩
   have zEh := Eh.size
   have f26 := s_l.ext Eh
   have in27 := fun p hp => (in_l p hp).ext Eh
   have ltk_o := s_o.lt
   have lbb14 := bxb14.lt
   have s28 := in27 x12 (List.mem_of_getElem? hx12)
   refine v_seq ?_
   refine v_ops ?_
   refine s_pure (.bool (decide ((j : Int) < (ps.length : Int)))) (fun _ q => q) ?_
   refine s_nil ?_
   refine p_seqN ?_
   refine v_seq ?_
   refine v_cond rfl (fun c29 => ?_) (fun c29 => ?_)
   ·
    refine v_skip ?_
    refine p_seqN ?_
    refine v_seq ?_
    refine v_block ?_
    refine v_seq ?_
    refine v_ops ?_
    have hk30 : j < ps.length := (by first | omega | (simp; omega))
    obtain ⟨x31, hx31⟩ : ∃ x, ps[j]? = some x := ⟨_, List.getElem?_eq_getElem hk30⟩
    refine s_pure (.pointer (some ⟨sblk o, soff o + j * 4, none⟩)) (fun _ q => s_o.row.idx (k := j) rfl hk30 q) ?_
    have s32 := s_o.insL x31 (List.mem_of_getElem? hx31)
    refine s_load (.agg #[.int .i64 x31.message, .int .i64 x31.part, .int .i64 x31.parts, x31.sv.v]) (fun _ q => s_o.row.loadN hx31 rfl q) ?_
    refine s_new (fun h34 b33 hbb33 hzb33 eh34 bxb33 => ?_)
    have E35 := Eh.trans eh34
    have z36 := eh34.size
    have lbb33 := bxb33.lt
    refine s_stBx (.agg #[.int .i64 x31.message, .int .i64 x31.part, .int .i64 x31.parts, x31.sv.v]) [.int .i64 x31.message, .int .i64 x31.part, .int .i64 x31.parts, x31.sv.v] [.int .i64 x31.message, .int .i64 x31.part, .int .i64 x31.parts, x31.sv.v] bxb33 rfl rfl rfl rfl (by simp) (all_cons rfl (all_cons rfl (all_cons rfl (all_cons s32.one1 all_nil)))) rfl (fun h37 mh37 sh37 bxx38 => ?_)
    have E39 := E35.mod mh37 (fun b hb => by simp at hb; omega)
    refine s_nil ?_
    refine p_seqN ?_
    refine v_ops ?_
    refine s_pure (.bool db) (fun _ q => q) ?_
    refine s_pure (.bool db) (fun _ q => q) ?_
    refine s_splitT rfl (fun c40 => ?_) (fun c40 => ?_)
    ·
     refine s_pass rfl ?_
     refine s_pass rfl ?_
     refine s_pass rfl ?_
     refine s_pure (.bool true) (fun _ q => q) ?_
     refine s_pure (.bool true) (fun _ q => q) ?_
     refine s_nil ?_
     refine p_blkN ?_
     refine p_seqN ?_
     refine v_ops ?_
     refine s_pure (.int .i64 ((j : Int) + 1)) (fun _ q => ArithVC.mk (by omega) q) ?_
     refine s_pure (.int .i64 ((j : Int) + 1)) (fun _ q => q) ?_
     refine s_nil ?_
     have f41 := ((bxb14.ext eh34).mod mh37 (by simp; omega))
     have f42 := ((s_o.ext eh34).mod mh37 (fun b hb hc => by simp at hc; have := ltk_o b hb; have := lt_o b hb; omega))
     exact p_lpN ⟨j + 1, true, ⟨rfl, rfl, rfl, rfl, rfl, rfl, rfl, rfl, rfl⟩, ⟨E39, f41, (f42.mono (by omega)), (by exact ⟨by omega, by rw [any_snoc (by assumption), ← hdb]; first | (rw [(by assumption : db = true)]; rfl) | (rw [Bool.eq_false_iff.2 (by assumption : ¬ db = true)]; rfl)⟩)⟩, by omega⟩
    ·
     refine s_run rfl ?_
     have f43 := ((bxb14.ext eh34).mod mh37 (by simp; omega))
     refine s_load (.agg #[.int .i64 x12.message, .int .i64 x12.part, .int .i64 x12.parts, x12.sv.v]) (fun _ q => f43.loadA rfl q) ?_
     refine s_run rfl ?_
     refine s_load (.agg #[.int .i64 x31.message, .int .i64 x31.part, .int .i64 x31.parts, x31.sv.v]) (fun _ q => bxx38.loadA rfl q) ?_
     refine s_run rfl ?_
     have f44 := ((s28.ext eh34).mod mh37 (fun b hb hc => by simp at hc; have := (inlt_l x12 (List.mem_of_getElem? hx12)) b hb; omega))
     have f45 := ((s32.ext eh34).mod mh37 (fun b hb hc => by simp at hc; have := (fun b hb => ltk_o b (mem_fpts.2 (.inr ⟨x31, List.mem_of_getElem? hx31, hb⟩))) b hb; omega))
     refine s_call [.agg #[.int .i64 x12.message, .int .i64 x12.part, .int .i64 x12.parts, x12.sv.v], .agg #[.int .i64 x31.message, .int .i64 x31.part, .int .i64 x31.parts, x31.sv.v]] rfl (spec_pkSame_ok (Pk.p x12) x12.sv.v (Pk.p x31) x31.sv.v _ f44 f45) ?_
     rintro _ h46 ⟨rfl, eh46⟩
     have E47 := E39.trans eh46
     have z48 := eh46.size
     refine s_pure (.bool (decide ((Pk.p x12) = (Pk.p x31)))) (fun _ q => q) ?_
     refine s_pure (.bool (decide ((Pk.p x12) = (Pk.p x31)))) (fun _ q => q) ?_
     refine s_nil ?_
     refine p_blkN ?_
     refine p_seqN ?_
     refine v_ops ?_
     refine s_pure (.int .i64 ((j : Int) + 1)) (fun _ q => ArithVC.mk (by omega) q) ?_
     refine s_pure (.int .i64 ((j : Int) + 1)) (fun _ q => q) ?_
     refine s_nil ?_
     have f49 := (f43.ext eh46)
     have f50 := (((s_o.ext eh34).mod mh37 (fun b hb hc => by simp at hc; have := ltk_o b hb; have := lt_o b hb; omega)).ext eh46)
     exact p_lpN ⟨j + 1, decide ((Pk.p x12) = (Pk.p x31)), ⟨rfl, rfl, rfl, rfl, rfl, rfl, rfl, rfl, rfl⟩, ⟨E47, f49, (f50.mono (by omega)), (by exact ⟨by omega, by rw [any_snoc (by assumption), ← hdb]; first | (rw [(by assumption : db = true)]; rfl) | (rw [Bool.eq_false_iff.2 (by assumption : ¬ db = true)]; rfl)⟩)⟩, by omega⟩
   ·
    refine v_exit ?_
    refine p_seqX ?_
    refine p_lpX ?_
    refine p_blkX ?_
    refine p_seqN ?_
    refine v_seq ?_
    refine v_ops ?_
    refine s_pure (.bool db) (fun _ q => q) ?_
    refine s_pure (.bool (!db)) (fun _ q => q) ?_
    refine s_nil ?_
    refine p_seqN ?_
    refine v_cond rfl (fun c51 => ?_) (fun c51 => ?_)
    ·
     refine v_ops ?_
     refine s_pure o (fun _ q => q) ?_
     refine s_load (.agg #[.int .i64 x12.message, .int .i64 x12.part, .int .i64 x12.parts, x12.sv.v]) (fun _ q => bxb14.loadA rfl q) ?_
     refine s_call [.agg #[.int .i64 x12.message, .int .i64 x12.part, .int .i64 x12.parts, x12.sv.v]] rfl (spec_pkOwn_ok (Pk.p x12) x12.sv.v _ s28 (by (have h3 := (by assumption : PksOk (l.map Pk.p)).2 _ (List.mem_map_of_mem (List.mem_of_getElem? (by assumption : l[k]? = some _)))); (have h4 := h3.2.2.2.1); simp only at h4 ⊢; omega)) ?_
     rintro _ h53 ⟨r52, rfl, s_r52, fr_r52, eh53⟩
     have E54 := Eh.trans eh53
     have z55 := eh53.size
     have lt_r52 := s_r52.lt
     obtain ⟨sv56, rfl⟩ := s_r52.sv
     refine s_row (α := Pk) [(⟨(Pk.p x12).message, (Pk.p x12).part, (Pk.p x12).parts, sv56, (Pk.p x12).signals⟩ : Pk)] (fun _ q => seg_agg rfl rfl (seg_nil q)) rfl (by simp [maxLen]) (fun r57 h58 eh58 zh58 s_r57 fr_r57 => ?_)
     have E59 := E54.trans eh58
     have z60 := eh58.size
     have lt_r57 := s_r57.lt
     have f63 := (s_r52.ext eh58)
     have f64 := ((s_o.ext eh53).ext eh58)
     refine s_app f64.row s_r57 rfl rfl rfl (by simp [maxLen]; omega) (by simp; omega) (fun r61 h62 mh62 zh62 s_r61 ab_r61 => ?_)
     have D_r61 := DeepO.snoc (e := (⟨(Pk.p x12).message, (Pk.p x12).part, (Pk.p x12).parts, sv56, (Pk.p x12).signals⟩ : Pk)) f64 f63 (fr_r52.mono (by omega)) (fun b hb hc => by have := fr_r52 b hb; have := ltk_o b hc; have := lt_o b hc; omega) (by omega) mh62 s_r61 ab_r61
     have E65 := E59.mod mh62 (fun b hb => by have := (fun b hb => fr_o b (mem_fpts.2 (.inl hb))) b hb; omega)
     have lt_r61 := D_r61.lt
     have fr_r61 := D_r61.fr
     have np66a : ∀ b ∈ blks v_l, b ∉ fpts o ps := (fun b hb hc => by have := lt_l b hb; have := fr_o b hc; omega)
     have np66b : ∀ b ∈ blks v_l, b ∉ blks sv56.v := (fun b hb hc => by have := lt_l b hb; have := fr_r52 b hc; omega)
     have np66 : ∀ b ∈ blks v_l, b ∉ fpts r61 (ps ++ [(⟨(Pk.p x12).message, (Pk.p x12).part, (Pk.p x12).parts, sv56, (Pk.p x12).signals⟩ : Pk)]) := fun b hb => DeepO.snocOut ab_r61 (np66a b hb) (np66b b hb) (by have := lt_l b hb; omega)
     have np67 : b14 ∉ fpts r61 (ps ++ [(⟨(Pk.p x12).message, (Pk.p x12).part, (Pk.p x12).parts, sv56, (Pk.p x12).signals⟩ : Pk)]) := DeepO.snocOut ab_r61 nk22 (fun hc => by have := fr_r52 _ hc; omega) (by omega)
     have np68a : ∀ b ∈ blks x12.sv.v, b ∉ fpts o ps := (fun b hb hc => by have := (inlt_l x12 (List.mem_of_getElem? hx12)) b hb; have := fr_o b hc; omega)
     have np68b : ∀ b ∈ blks x12.sv.v, b ∉ blks sv56.v := (fun b hb hc => by have := (inlt_l x12 (List.mem_of_getElem? hx12)) b hb; have := fr_r52 b hc; omega)
     have np68 : ∀ b ∈ blks x12.sv.v, b ∉ fpts r61 (ps ++ [(⟨(Pk.p x12).message, (Pk.p x12).part, (Pk.p x12).parts, sv56, (Pk.p x12).signals⟩ : Pk)]) := fun b hb => DeepO.snocOut ab_r61 (np68a b hb) (np68b b hb) (by have := (inlt_l x12 (List.mem_of_getElem? hx12)) b hb; omega)
     refine s_pure r61 (fun _ q => q) ?_
     refine s_nil ?_
     refine p_blkN ?_
     refine p_seqN ?_
     refine v_ops ?_
     refine s_pure (.int .i64 ((k : Int) + 1)) (fun _ q => ArithVC.mk (by omega) q) ?_
     refine s_pure (.int .i64 ((k : Int) + 1)) (fun _ q => q) ?_
     refine s_nil ?_
     exact p_lpN ⟨k + 1, (ps ++ [(⟨(Pk.p x12).message, (Pk.p x12).part, (Pk.p x12).parts, sv56, (Pk.p x12).signals⟩ : Pk)]), r61, ⟨rfl, rfl, rfl, rfl⟩, ⟨E65, (D_r61.mono (by omega)), (by (rw [take_all (by assumption)] at hdb); first | exact ⟨by omega, wd_skip hps (by assumption) (by rw [← hdb]; first | assumption | simp_all)⟩ | exact ⟨by omega, wd_add (x := x12) hps (by assumption) rfl (by rw [← hdb]; first | assumption | simp_all)⟩)⟩, by omega⟩
    ·
     have c51 := Classical.not_not.1 c51
     refine v_skip ?_
     refine p_blkN ?_
     refine p_seqN ?_
     refine v_ops ?_
     refine s_pure (.int .i64 ((k : Int) + 1)) (fun _ q => ArithVC.mk (by omega) q) ?_
     refine s_pure (.int .i64 ((k : Int) + 1)) (fun _ q => q) ?_
     refine s_nil ?_
     exact p_lpN ⟨k + 1, ps, o, ⟨rfl, rfl, rfl, rfl⟩, ⟨Eh, (s_o.mono (by omega)), (by (rw [take_all (by assumption)] at hdb); first | exact ⟨by omega, wd_skip hps (by assumption) (by rw [← hdb]; first | assumption | simp_all)⟩ | exact ⟨by omega, wd_add (x := x12) hps (by assumption) rfl (by rw [← hdb]; first | assumption | simp_all)⟩)⟩, by omega⟩
  ·
   refine v_exit ?_
   refine p_seqX ?_
   refine p_lpX ?_
   refine p_blkX ?_
   refine p_seqN ?_
   refine v_seq ?_
   refine v_ops ?_
   refine s_pure o (fun _ q => q) ?_
   refine s_pure o (fun _ q => q) ?_
   refine s_pure (.bool true) (fun _ q => q) ?_
   refine s_nil ?_
   refine p_seqN ?_
   refine v_ret ?_
   refine p_ret [o, .bool true] (.tuple #[o, .bool true]) (fun _ q => q) rfl ?_
   have ho : wdOut (l.map Pk.p) = ((ps.map Pk.p), true) := by first | exact wd_no (by assumption) | exact wd_yes hps (by assumption) (by assumption)
   exact ⟨o, ps, by first | (rw [ho]; done) | rfl, (s_o.mono (by omega)), (congrArg (fun o => o.1) ho).symm, Eh⟩


theorem wd_sub (l : List PkP) : ∀ p ∈ wd l, p ∈ l := by
  have : ∀ (l out : List PkP), ∀ p ∈ l.foldl wdStep out, p ∈ out ∨ p ∈ l := by
    intro l
    induction l with
    | nil => intro out p hp; exact .inl hp
    | cons q l ih =>
      intro out p hp
      rcases ih (wdStep out q) p hp with h | h
      · unfold wdStep at h
        split at h
        · exact .inl h
        · rcases List.mem_append.1 h with h | h
          · exact .inl h
          · obtain rfl := List.mem_singleton.1 h; exact .inr (List.mem_cons_self ..)
      · exact .inr (List.mem_cons_of_mem _ h)
  intro p hp
  exact (this l [] p hp).resolve_left (by simp)
/-- the pairs of i with those behind it, up to j -/
def cfPart (l : List PkP) (i : Nat) (p : PkP) (j : Nat) : List (List Int) := ((List.range j).filter fun k => decide (i < k) && match l[k]? with | some q => decide (clash p q) | none => false).map fun (k : Nat) => [(i : Int), (k : Int)]
def cfRow (l : List PkP) (i : Nat) : List (List Int) := match l[i]? with | some p => cfPart l i p l.length | none => []
def cf (l : List PkP) (n : Nat) : List (List Int) := (List.range n).flatMap (cfRow l)
theorem cf_succ (l : List PkP) (n : Nat) {p : PkP} (h : l[n]? = some p) : cf l (n + 1) = cf l n ++ cfPart l n p l.length := by
 unfold cf
 rw [List.range_succ, List.flatMap_append]
 simp [cfRow, h]
theorem cfPart_zero (l : List PkP) (i : Nat) (p : PkP) : cfPart l i p (i + 1) = [] := by
 unfold cfPart
 rw [List.map_eq_nil_iff, List.filter_eq_nil_iff]
 intro k hk
 have := List.mem_range.1 hk
 simp; omega
theorem cfPart_yes {l : List PkP} {i j : Nat} {p q : PkP} (hj : i < j) (hq : l[j]? = some q) (h : clash p q) : cfPart l i p (j + 1) = cfPart l i p j ++ [[(i : Int), (j : Int)]] := by
 unfold cfPart
 rw [List.range_succ, List.filter_append, List.map_append]
 simp [hj, hq, h]
theorem cfPart_no {l : List PkP} {i j : Nat} {p q : PkP} (hj : i < j) (hq : l[j]? = some q) (h : ¬ clash p q) : cfPart l i p (j + 1) = cfPart l i p j := by
 unfold cfPart
 rw [List.range_succ, List.filter_append, List.map_append]
 simp [hj, hq, h]
theorem cfPart_len (l : List PkP) (i : Nat) (p : PkP) (j : Nat) : (cfPart l i p j).length ≤ j := by
 unfold cfPart
 rw [List.length_map]
 exact Nat.le_trans (List.length_filter_le _ _) (by simp)
theorem cf_len (l : List PkP) (n : Nat) : (cf l n).length ≤ n * l.length := by
  induction n with
  | zero => simp [cf]
  | succ n ih =>
    unfold cf at *
    rw [List.range_succ, List.flatMap_append, List.length_append, Nat.add_mul]
    have : (List.flatMap (cfRow l) [n]).length ≤ l.length := by
      simp only [List.flatMap_cons, List.flatMap_nil, List.append_nil, cfRow]
      split
      · exact cfPart_len _ _ _ _
      · simp
    omega
noncomputable def cfOut (l : List PkP) : List (List Int) × Bool := if PksOk l then (cf l l.length, true) else ([], false)
theorem cf_no {l : List PkP} (h : ¬ PksOk l) : cfOut l = ([], false) := by rw [cfOut, if_neg h]
theorem cf_yes {l : List PkP} {k : Nat} {r : List (List Int)} (hr : r = cf l k) (hk : k = l.length) (h : PksOk l) : cfOut l = (r, true) := by
 rw [cfOut, if_pos h, hr, hk]
set_option maxRecDepth 10000 in
set_option maxHeartbeats 4000000 in
theorem impl_ConflictsIn_ok (v_l : Value) (l : List Pk) (d_l : List (PkP)) (h : Heap) (s_l : Sl h v_l l) (in_l : ∀ p ∈ l, Sl h p.sv.v p.sig) (hd_l : l.map Pk.p = d_l) : Cn f_impl_ConflictsIn [v_l] h fun v h' => ∃ r0 : Value, ∃ qr0 : List RowI, v = .tuple #[r0, .bool ((cfOut d_l).2)] ∧ DeepO h' r0 qr0 h.size ∧ qr0.map RowI.sig = (cfOut d_l).1 ∧ Ext h h' := by
 subst hd_l
 have lt_l := s_l.lt
 have l63_l := s_l.len63
 have inlt_l := fun p hp => (in_l p hp).lt
 refine calls_of r_impl_ConflictsIn ?_
 refine v_seq ?_
 refine v_ops ?_
 refine s_pure (.slice none 0 0) (fun _ q => q) ?_
 refine s_pure (.bool false) (fun _ q => q) ?_
 refine s_nil ?_
 refine p_seqN ?_
 refine v_seq ?_
 refine v_seq ?_
 refine v_ops ?_
 refine s_pure v_l (fun _ q => q) ?_
 refine s_call [v_l] rfl (impl_ArePackets_ok v_l l (l.map Pk.p) _ s_l in_l rfl) ?_
 rintro _ h1 ⟨rfl, eh1⟩
 have E2 := (Ext.refl h).trans eh1
 have z3 := eh1.size
 refine s_pure (.bool (!decide (PksOk (l.map Pk.p)))) (fun _ q => q) ?_
 refine s_nil ?_
 refine p_seqN ?_
 refine v_cond rfl (fun c4 => ?_) (fun c4 => ?_)
 ·
  refine v_seq ?_
  refine v_ops ?_
  refine s_pure (.slice none 0 0) (fun _ q => q) ?_
  refine s_pure (.bool false) (fun _ q => q) ?_
  refine s_nil ?_
  refine p_seqN ?_
  refine v_ret ?_
  refine p_seqR ?_
  refine p_ret [.slice none 0 0, .bool false] (.tuple #[.slice none 0 0, .bool false]) (fun _ q => q) rfl ?_
  have ho : cfOut (l.map Pk.p) = ([], false) := by first | exact cf_no (by assumption) | exact cf_yes hps (by simp; omega) (by assumption)
  exact ⟨(.slice none 0 0), [], by first | (rw [ho]; done) | rfl, DeepO.nil _ _, (congrArg (fun o => o.1) ho).symm, E2⟩
 ·
  have c4 := Classical.not_not.1 c4
  refine v_skip ?_
  refine p_seqN ?_
  refine v_seq ?_
  refine v_ops ?_
  refine s_pure (.slice none 0 0) (fun _ q => q) ?_
  refine s_nil ?_
  refine p_seqN ?_
  refine v_seq ?_
  refine v_seq ?_
  refine v_ops ?_
  refine s_pure v_l (fun _ q => q) ?_
  refine s_pure (.int .i64 (l.length : Int)) (fun _ q => s_l.lenVC q) ?_
  refine s_pure (.int .i64 0) (fun _ q => q) ?_
  refine s_nil ?_
  refine p_seqN ?_
  refine v_block ?_
  refine v_loop3 (α := Nat) (β := List RowI) (γ := Value) (fun k ps o => [(0, v_l), (4, o), (11, .int .i64 (l.length : Int)), (12, .int .i64 (k : Int))]) (fun k ps o hh => Ext h hh ∧ DeepO hh o ps h.size ∧ k ≤ l.length ∧ ps.map RowI.sig = cf (l.map Pk.p) k) (fun k ps o => l.length - k) 0 [] (.slice none 0 0) ⟨rfl, rfl, rfl, rfl⟩ ⟨E2, (DeepO.nil _ _), (by simp [cf])⟩ ?_
  rintro k ps o R6 h5 ⟨Eh, s_o, ⟨hk, hps⟩⟩
  have zEh := Eh.size
  have f8 := s_l.ext Eh
  have in9 := fun p hp => (in_l p hp).ext Eh
  have lt_o := s_o.lt
  have fr_o := s_o.fr
  have l40 : l.length ≤ 40 := by (have h3 := (by assumption : PksOk (l.map Pk.p)).1); simpa using h3
  refine v_seq ?_
  refine v_ops ?_
  refine s_pure (.bool (decide ((k : Int) < (l.length : Int)))) (fun _ q => q) ?_
  refine s_nil ?_
  refine p_seqN ?_
  refine v_seq ?_
  refine v_cond rfl (fun c10 => ?_) (fun c10 => ?_)
  ·
   refine v_skip ?_
   refine p_seqN ?_
   refine v_seq ?_
   refine v_block ?_
   refine v_seq ?_
   refine v_ops ?_
   refine s_pure (.int .i64 (k : Int)) (fun _ q => q) ?_
   refine s_pure (.int .i64 (k : Int)) (fun _ q => q) ?_
   refine s_nil ?_
   refine p_seqN ?_
   refine v_seq ?_
   refine v_ops ?_
   refine s_pure (.int .i64 (k : Int)) (fun _ q => q) ?_
   refine s_pure (.int .i64 ((k : Int) + 1)) (fun _ q => ArithVC.mk (by omega) q) ?_
   refine s_pure (.int .i64 ((k : Int) + 1)) (fun _ q => q) ?_
   refine s_nil ?_
   refine p_seqN ?_
   refine v_block ?_
   refine v_loop3 (α := Nat) (β := List RowI) (γ := Value) (fun j qs u => [(0, v_l), (4, u), (5, .int .i64 (k : Int)), (6, .int .i64 (j : Int)), (11, .int .i64 (l.length : Int)), (12, .int .i64 (k : Int))]) (fun j qs u hh => Ext h hh ∧ DeepO hh u qs h.size ∧ k < j ∧ j ≤ l.length ∧ ∀ p, l[k]? = some p → qs.map RowI.sig = cf (l.map Pk.p) k ++ cfPart (l.map Pk.p) k p.p j) (fun j qs u => l.length - j) (k + 1) ps o ⟨rfl, rfl, rfl, rfl, rfl, rfl⟩ ⟨Eh, (s_o.mono (by omega)), (by exact ⟨by omega, by omega, fun p hp => by rw [cfPart_zero, hps, List.append_nil]⟩)⟩ ?_
   rintro j qs u R12 h11 ⟨Eh, s_u, ⟨hkj, hj, hqs⟩⟩
   have zEh := Eh.size
   have f14 := s_l.ext Eh
   have in15 := fun p hp => (in_l p hp).ext Eh
   have lt_u := s_u.lt
   have fr_u := s_u.fr
   have qlen : qs.length ≤ 2000 := by (obtain ⟨p, hp⟩ : ∃ p, l[k]? = some p := ⟨_, List.getElem?_eq_getElem (by omega)⟩); (have h1 := congrArg List.length (hqs p hp)); (have h2 := cf_len (l.map Pk.p) k); (have h3 := cfPart_len (l.map Pk.p) k p.p j); simp only [List.length_map, List.length_append] at h1 h2; (have h4 : k * l.length ≤ 40 * 40 := Nat.mul_le_mul (by omega) (by omega)); omega
   refine v_seq ?_
   refine v_seq ?_
   refine v_ops ?_
   refine s_pure (.int .i64 (j : Int)) (fun _ q => q) ?_
   refine s_pure v_l (fun _ q => q) ?_
   refine s_pure (.int .i64 (l.length : Int)) (fun _ q => f14.lenVC q) ?_
   refine s_pure (.bool (decide ((j : Int) < (l.length : Int)))) (fun _ q => q) ?_
   refine s_nil ?_
   refine p_seqN ?_
   refine v_cond rfl (fun c16 => ?_) (fun c16 => ?_)
   ·
    refine v_skip ?_
    refine p_seqN ?_
    refine v_seq ?_
    refine v_block ?_
    refine v_seq ?_
    refine v_drawF ?_
    refine d_pureT v_l (fun _ q => q) ?_
    refine d_pureT (.int .i64 (k : Int)) (fun _ q => q) ?_
    have hk17 : k < l.length := (by first | omega | (simp; omega))
    obtain ⟨x18, hx18⟩ : ∃ x, l[k]? = some x := ⟨_, List.getElem?_eq_getElem hk17⟩
    refine d_pureT (.pointer (some ⟨sblk v_l, soff v_l + k * 4, none⟩)) (fun _ q => f14.idx (k := k) rfl hk17 q) ?_
    refine d_pureT v_l (fun _ q => q) ?_
    refine d_pureT (.int .i64 (j : Int)) (fun _ q => q) ?_
    have hk19 : j < l.length := (by first | omega | (simp; omega))
    obtain ⟨x20, hx20⟩ : ∃ x, l[j]? = some x := ⟨_, List.getElem?_eq_getElem hk19⟩
    refine d_pureT (.pointer (some ⟨sblk v_l, soff v_l + j * 4, none⟩)) (fun _ q => f14.idx (k := j) rfl hk19 q) ?_
    have s21 := in15 x18 (List.mem_of_getElem? hx18)
    refine d_loadO (.agg #[.int .i64 x18.message, .int .i64 x18.part, .int .i64 x18.parts, x18.sv.v]) (fun _ q => f14.loadN hx18 rfl q) ?_
    have s22 := in15 x20 (List.mem_of_getElem? hx20)
    refine d_loadO (.agg #[.int .i64 x20.message, .int .i64 x20.part, .int .i64 x20.parts, x20.sv.v]) (fun _ q => f14.loadN hx20 rfl q) ?_
    refine d_eff ?_
    refine s_call [.agg #[.int .i64 x18.message, .int .i64 x18.part, .int .i64 x18.parts, x18.sv.v], .agg #[.int .i64 x20.message, .int .i64 x20.part, .int .i64 x20.parts, x20.sv.v]] rfl (impl_inConflict_ok (Pk.p x18) x18.sv.v (Pk.p x20) x20.sv.v _ s21 s22) ?_
    rintro _ h23 ⟨rfl, eh23⟩
    have E24 := Eh.trans eh23
    have z25 := eh23.size
    have G26 := eh23
    refine s_nil ⟨fun hl => (by cases hl), ?_⟩
    refine d_done ?_
    refine p_seqN ?_
    refine v_cond rfl (fun c27 => ?_) (fun c27 => ?_)
    ·
     refine v_ops ?_
     refine s_pure u (fun _ q => q) ?_
     refine s_pure (.int .i64 (k : Int)) (fun _ q => q) ?_
     refine s_pure (.int .i64 (j : Int)) (fun _ q => q) ?_
     refine s_row (α := Int) [(k : Int), (j : Int)] (fun _ q => seg_i rfl (seg_i rfl (seg_nil q))) rfl (by simp [maxLen]) (fun r28 h29 eh29 zh29 s_r28 fr_r28 => ?_)
     have E30 := E24.trans eh29
     have z31 := eh29.size
     have lt_r28 := s_r28.lt
     obtain ⟨sv32, rfl⟩ := s_r28.sv
     refine s_row (α := RowI) [(⟨sv32, [(k : Int), (j : Int)]⟩ : RowI)] (fun _ q => seg_sl s_r28 rfl (seg_nil q)) rfl (by simp [maxLen]) (fun r33 h34 eh34 zh34 s_r33 fr_r33 => ?_)
     have E35 := E30.trans eh34
     have z36 := eh34.size
     have lt_r33 := s_r33.lt
     have f39 := (s_r28.ext eh34)
     have f40 := (((s_u.ext eh23).ext eh29).ext eh34)
     refine s_app f40.row s_r33 rfl rfl rfl (by simp [maxLen]; omega) (by simp; omega) (fun r37 h38 mh38 zh38 s_r37 ab_r37 => ?_)
     have D_r37 := DeepO.snoc (e := (⟨sv32, [(k : Int), (j : Int)]⟩ : RowI)) f40 f39 (fr_r28.mono (by omega)) (fun b hb hc => by have := fr_r28 b hb; have := lt_u b hc; omega) (by omega) mh38 s_r37 ab_r37
     have E41 := E35.mod mh38 (fun b hb => by have := (fun b hb => fr_u b (mem_fpts.2 (.inl hb))) b hb; omega)
     have lt_r37 := D_r37.lt
     have fr_r37 := D_r37.fr
     have np42a : ∀ b ∈ blks v_l, b ∉ fpts u qs := (fun b hb hc => by have := lt_l b hb; have := fr_u b hc; omega)
     have np42b : ∀ b ∈ blks v_l, b ∉ blks sv32.v := (fun b hb hc => by have := lt_l b hb; have := fr_r28 b hc; omega)
     have np42 : ∀ b ∈ blks v_l, b ∉ fpts r37 (qs ++ [(⟨sv32, [(k : Int), (j : Int)]⟩ : RowI)]) := fun b hb => DeepO.snocOut ab_r37 (np42a b hb) (np42b b hb) (by have := lt_l b hb; omega)
     have np43a : ∀ b ∈ blks x18.sv.v, b ∉ fpts u qs := (fun b hb hc => by have := (inlt_l x18 (List.mem_of_getElem? hx18)) b hb; have := fr_u b hc; omega)
     have np43b : ∀ b ∈ blks x18.sv.v, b ∉ blks sv32.v := (fun b hb hc => by have := (inlt_l x18 (List.mem_of_getElem? hx18)) b hb; have := fr_r28 b hc; omega)
     have np43 : ∀ b ∈ blks x18.sv.v, b ∉ fpts r37 (qs ++ [(⟨sv32, [(k : Int), (j : Int)]⟩ : RowI)]) := fun b hb => DeepO.snocOut ab_r37 (np43a b hb) (np43b b hb) (by have := (inlt_l x18 (List.mem_of_getElem? hx18)) b hb; omega)
     have np44a : ∀ b ∈ blks x20.sv.v, b ∉ fpts u qs := (fun b hb hc => by have := (inlt_l x20 (List.mem_of_getElem? hx20)) b hb; have := fr_u b hc; omega)
     have np44b : ∀ b ∈ blks x20.sv.v, b ∉ blks sv32.v := (fun b hb hc => by have := (inlt_l x20 (List.mem_of_getElem? hx20)) b hb; have := fr_r28 b hc; omega)
     have np44 : ∀ b ∈ blks x20.sv.v, b ∉ fpts r37 (qs ++ [(⟨sv32, [(k : Int), (j : Int)]⟩ : RowI)]) := fun b hb => DeepO.snocOut ab_r37 (np44a b hb) (np44b b hb) (by have := (inlt_l x20 (List.mem_of_getElem? hx20)) b hb; omega)
     refine s_pure r37 (fun _ q => q) ?_
     refine s_nil ?_
     refine p_blkN ?_
     refine p_seqN ?_
     refine v_ops ?_
     refine s_pure (.int .i64 (j : Int)) (fun _ q => q) ?_
     refine s_pure (.int .i64 ((j : Int) + 1)) (fun _ q => ArithVC.mk (by omega) q) ?_
     refine s_pure (.int .i64 ((j : Int) + 1)) (fun _ q => q) ?_
     refine s_nil ?_
     exact p_lpN ⟨j + 1, (qs ++ [(⟨sv32, [(k : Int), (j : Int)]⟩ : RowI)]), r37, ⟨rfl, rfl, rfl, rfl, rfl, rfl⟩, ⟨E41, (D_r37.mono (by omega)), (by first | exact ⟨by omega, by omega, fun p hp => by (obtain rfl := Option.some.inj (hp.symm.trans (by assumption : l[k]? = some x18))); rw [List.map_append, hqs _ hp, cfPart_yes hkj (map_get (by assumption)) (by assumption), List.append_assoc]; rfl⟩ | exact ⟨by omega, by omega, fun p hp => by (obtain rfl := Option.some.inj (hp.symm.trans (by assumption : l[k]? = some x18))); rw [hqs _ hp, cfPart_no hkj (map_get (by assumption)) (by assumption)]⟩)⟩, by omega⟩
    ·
     refine v_skip ?_
     refine p_blkN ?_
     refine p_seqN ?_
     refine v_ops ?_
     refine s_pure (.int .i64 (j : Int)) (fun _ q => q) ?_
     refine s_pure (.int .i64 ((j : Int) + 1)) (fun _ q => ArithVC.mk (by omega) q) ?_
     refine s_pure (.int .i64 ((j : Int) + 1)) (fun _ q => q) ?_
     refine s_nil ?_
     have f45 := (s_u.ext eh23)
     exact p_lpN ⟨j + 1, qs, u, ⟨rfl, rfl, rfl, rfl, rfl, rfl⟩, ⟨E24, (f45.mono (by omega)), (by first | exact ⟨by omega, by omega, fun p hp => by (obtain rfl := Option.some.inj (hp.symm.trans (by assumption : l[k]? = some x18))); rw [List.map_append, hqs _ hp, cfPart_yes hkj (map_get (by assumption)) (by assumption), List.append_assoc]; rfl⟩ | exact ⟨by omega, by omega, fun p hp => by (obtain rfl := Option.some.inj (hp.symm.trans (by assumption : l[k]? = some x18))); rw [hqs _ hp, cfPart_no hkj (map_get (by assumption)) (by assumption)]⟩)⟩, by omega⟩
   ·
    refine v_exit ?_
    refine p_seqX ?_
    refine p_lpX ?_
    refine p_blkX ?_
    refine p_blkN ?_
    refine p_seqN ?_
    refine v_ops ?_
    refine s_pure (.int .i64 ((k : Int) + 1)) (fun _ q => ArithVC.mk (by omega) q) ?_
    refine s_pure (.int .i64 ((k : Int) + 1)) (fun _ q => q) ?_
    refine s_nil ?_
    exact p_lpN ⟨k + 1, qs, u, ⟨rfl, rfl, rfl, rfl⟩, ⟨Eh, (s_u.mono (by omega)), (by (obtain ⟨p, hp⟩ : ∃ p, l[k]? = some p := ⟨_, List.getElem?_eq_getElem (by omega)⟩); exact ⟨by omega, by rw [cf_succ _ _ (map_get hp), hqs p hp]; congr 2; simp; omega⟩)⟩, by omega⟩
  ·
   refine v_exit ?_
   refine p_seqX ?_
   refine p_lpX ?_
   refine p_blkX ?_
   refine p_seqN ?_
   refine v_seq ?_
   refine v_ops ?_
   refine s_pure o (fun _ q => q) ?_
   refine s_pure o (fun _ q => q) ?_
   refine s_pure (.bool true) (fun _ q => q) ?_
   refine s_nil ?_
   refine p_seqN ?_
   refine v_ret ?_
   refine p_ret [o, .bool true] (.tuple #[o, .bool true]) (fun _ q => q) rfl ?_
   have ho : cfOut (l.map Pk.p) = ((ps.map RowI.sig), true) := by first | exact cf_no (by assumption) | exact cf_yes hps (by simp; omega) (by assumption)
   exact ⟨o, ps, by first | (rw [ho]; done) | rfl, (s_o.mono (by omega)), (congrArg (fun o => o.1) ho).symm, Eh⟩

set_option maxRecDepth 10000 in
set_option maxHeartbeats 4000000 in
theorem spec_ConflictsIn_ok (v_l : Value) (l : List Pk) (d_l : List (PkP)) (h : Heap) (s_l : Sl h v_l l) (in_l : ∀ p ∈ l, Sl h p.sv.v p.sig) (hd_l : l.map Pk.p = d_l) : Cn f_spec_ConflictsIn [v_l] h fun v h' => ∃ r0 : Value, ∃ qr0 : List RowI, v = .tuple #[r0, .bool ((cfOut d_l).2)] ∧ DeepO h' r0 qr0 h.size ∧ qr0.map RowI.sig = (cfOut d_l).1 ∧ Ext h h' := by
 subst hd_l
 have lt_l := s_l.lt
 have l63_l := s_l.len63
 have inlt_l := fun p hp => (in_l p hp).lt
 refine calls_of r_spec_ConflictsIn ?_
 refine v_seq ?_
 refine v_ops ?_
 refine s_pure (.slice none 0 0) (fun _ q => q) ?_
 refine s_pure (.bool false) (fun _ q => q) ?_
 refine s_nil ?_
 refine p_seqN ?_
 refine v_seq ?_
 refine v_seq ?_
 refine v_ops ?_
 refine s_pure v_l (fun _ q => q) ?_
 refine s_call [v_l] rfl (spec_pkAll_ok v_l l (l.map Pk.p) _ s_l in_l rfl) ?_
 rintro _ h1 ⟨rfl, eh1⟩
 have E2 := (Ext.refl h).trans eh1
 have z3 := eh1.size
 refine s_pure (.bool (!decide (PksOk (l.map Pk.p)))) (fun _ q => q) ?_
 refine s_nil ?_
 refine p_seqN ?_
 refine v_cond rfl (fun c4 => ?_) (fun c4 => ?_)
 ·
  refine v_seq ?_
  refine v_ops ?_
  refine s_pure (.slice none 0 0) (fun _ q => q) ?_
  refine s_pure (.bool false) (fun _ q => q) ?_
  refine s_nil ?_
  refine p_seqN ?_
  refine v_ret ?_
  refine p_seqR ?_
  refine p_ret [.slice none 0 0, .bool false] (.tuple #[.slice none 0 0, .bool false]) (fun _ q => q) rfl ?_
  have ho : cfOut (l.map Pk.p) = ([], false) := by first | exact cf_no (by assumption) | exact cf_yes hps (by simp; omega) (by assumption)
  exact ⟨(.slice none 0 0), [], by first | (rw [ho]; done) | rfl, DeepO.nil _ _, (congrArg (fun o => o.1) ho).symm, E2⟩
 ·
  have c4 := Classical.not_not.1 c4
  refine v_skip ?_
  refine p_seqN ?_
  refine v_seq ?_
  refine v_ops ?_
  refine s_pure (.slice none 0 0) (fun _ q => q) ?_
  refine s_nil ?_
  refine p_seqN ?_
  refine v_seq ?_
  refine v_seq ?_
  refine v_ops ?_
  refine s_pure v_l (fun _ q => q) ?_
  refine s_pure (.int .i64 (l.length : Int)) (fun _ q => s_l.lenVC q) ?_
  refine s_pure (.int .i64 0) (fun _ q => q) ?_
  refine s_nil ?_
  refine p_seqN ?_
  refine v_block ?_
  refine v_loop3 (α := Nat) (β := List RowI) (γ := Value) (fun k ps o => [(0, v_l), (4, o), (11, v_l), (12, .int .i64 (l.length : Int)), (13, .int .i64 (k : Int))]) (fun k ps o hh => Ext h hh ∧ DeepO hh o ps h.size ∧ k ≤ l.length ∧ ps.map RowI.sig = cf (l.map Pk.p) k) (fun k ps o => l.length - k) 0 [] (.slice none 0 0) ⟨rfl, rfl, rfl, rfl, rfl⟩ ⟨E2, (DeepO.nil _ _), (by simp [cf])⟩ ?_
  rintro k ps o R6 h5 ⟨Eh, s_o, ⟨hk, hps⟩⟩
  have zEh := Eh.size
  have f8 := s_l.ext Eh
  have in9 := fun p hp => (in_l p hp).ext Eh
  have lt_o := s_o.lt
  have fr_o := s_o.fr
  have l40 : l.length ≤ 40 := by (have h3 := (by assumption : PksOk (l.map Pk.p)).1); simpa using h3
  refine v_seq ?_
  refine v_ops ?_
  refine s_pure (.bool (decide ((k : Int) < (l.length : Int)))) (fun _ q => q) ?_
  refine s_nil ?_
  refine p_seqN ?_
  refine v_seq ?_
  refine v_cond rfl (fun c10 => ?_) (fun c10 => ?_)
  ·
   refine v_skip ?_
   refine p_seqN ?_
   refine v_seq ?_
   refine v_block ?_
   refine v_seq ?_
   refine v_ops ?_
   refine s_pure (.int .i64 (k : Int)) (fun _ q => q) ?_
   have hk11 : k < l.length := (by first | omega | (simp; omega))
   obtain ⟨x12, hx12⟩ : ∃ x, l[k]? = some x := ⟨_, List.getElem?_eq_getElem hk11⟩
   refine s_pure (.pointer (some ⟨sblk v_l, soff v_l + k * 4, none⟩)) (fun _ q => f8.idx (k := k) rfl hk11 q) ?_
   have s13 := in9 x12 (List.mem_of_getElem? hx12)
   refine s_load (.agg #[.int .i64 x12.message, .int .i64 x12.part, .int .i64 x12.parts, x12.sv.v]) (fun _ q => f8.loadN hx12 rfl q) ?_
   refine s_new (fun h15 b14 hbb14 hzb14 eh15 bxb14 => ?_)
   have E16 := Eh.trans eh15
   have z17 := eh15.size
   have lbb14 := bxb14.lt
   refine s_pure (.int .i64 (k : Int)) (fun _ q => q) ?_
   refine s_stBx (.agg #[.int .i64 x12.message, .int .i64 x12.part, .int .i64 x12.parts, x12.sv.v]) [.int .i64 x12.message, .int .i64 x12.part, .int .i64 x12.parts, x12.sv.v] [.int .i64 x12.message, .int .i64 x12.part, .int .i64 x12.parts, x12.sv.v] bxb14 rfl rfl rfl rfl (by simp) (all_cons rfl (all_cons rfl (all_cons rfl (all_cons s13.one1 all_nil)))) rfl (fun h18 mh18 sh18 bxx19 => ?_)
   have E20 := E16.mod mh18 (fun b hb => by simp at hb; omega)
   refine s_nil ?_
   refine p_seqN ?_
   refine v_seq ?_
   refine v_ops ?_
   refine s_pure (.int .i64 (k : Int)) (fun _ q => q) ?_
   refine s_pure (.int .i64 ((k : Int) + 1)) (fun _ q => ArithVC.mk (by omega) q) ?_
   refine s_pure (.int .i64 ((k : Int) + 1)) (fun _ q => q) ?_
   refine s_nil ?_
   refine p_seqN ?_
   refine v_block ?_
   have f22 := ((s_o.ext eh15).mod mh18 (fun b hb hc => by simp at hc; have := lt_o b hb; omega))
   refine v_loop3 (α := Nat) (β := List RowI) (γ := Value) (fun j qs u => [(0, v_l), (4, u), (5, .int .i64 (k : Int)), (6, .pointer (some ⟨b14, 0, none⟩)), (7, .int .i64 (j : Int)), (11, v_l), (12, .int .i64 (l.length : Int)), (13, .int .i64 (k : Int))]) (fun j qs u hh => Ext h hh ∧ Bx hh b14 [.int .i64 x12.message, .int .i64 x12.part, .int .i64 x12.parts, x12.sv.v] 27 ∧ DeepO hh u qs h.size ∧ b14 ∉ fpts u qs ∧ k < j ∧ j ≤ l.length ∧ ∀ p, l[k]? = some p → qs.map RowI.sig = cf (l.map Pk.p) k ++ cfPart (l.map Pk.p) k p.p j) (fun j qs u => l.length - j) (k + 1) ps o ⟨rfl, rfl, rfl, rfl, rfl, rfl, rfl, rfl⟩ ⟨E20, bxx19, (f22.mono (by omega)), (fun hc => by have := lt_o _ hc; omega), (by exact ⟨by omega, by omega, fun p hp => by rw [cfPart_zero, hps, List.append_nil]⟩)⟩ ?_
   rintro j qs u R23 h21 ⟨Eh, bxb14, s_u, np_b14_u, ⟨hkj, hj, hqs⟩⟩
   have zEh := Eh.size
   have f25 := s_l.ext Eh
   have in26 := fun p hp => (in_l p hp).ext Eh
   have lbb14 := bxb14.lt
   have lt_u := s_u.lt
   have fr_u := s_u.fr
   have s27 := in26 x12 (List.mem_of_getElem? hx12)
   have qlen : qs.length ≤ 2000 := by (obtain ⟨p, hp⟩ : ∃ p, l[k]? = some p := ⟨_, List.getElem?_eq_getElem (by omega)⟩); (have h1 := congrArg List.length (hqs p hp)); (have h2 := cf_len (l.map Pk.p) k); (have h3 := cfPart_len (l.map Pk.p) k p.p j); simp only [List.length_map, List.length_append] at h1 h2; (have h4 : k * l.length ≤ 40 * 40 := Nat.mul_le_mul (by omega) (by omega)); omega
   refine v_seq ?_
   refine v_seq ?_
   refine v_ops ?_
   refine s_pure (.int .i64 (j : Int)) (fun _ q => q) ?_
   refine s_pure v_l (fun _ q => q) ?_
   refine s_pure (.int .i64 (l.length : Int)) (fun _ q => f25.lenVC q) ?_
   refine s_pure (.bool (decide ((j : Int) < (l.length : Int)))) (fun _ q => q) ?_
   refine s_nil ?_
   refine p_seqN ?_
   refine v_cond rfl (fun c28 => ?_) (fun c28 => ?_)
   ·
    refine v_skip ?_
    refine p_seqN ?_
    refine v_seq ?_
    refine v_block ?_
    refine v_seq ?_
    refine v_drawF ?_
    refine d_pureT v_l (fun _ q => q) ?_
    refine d_pureT (.int .i64 (j : Int)) (fun _ q => q) ?_
    have hk29 : j < l.length := (by first | omega | (simp; omega))
    obtain ⟨x30, hx30⟩ : ∃ x, l[j]? = some x := ⟨_, List.getElem?_eq_getElem hk29⟩
    refine d_pureT (.pointer (some ⟨sblk v_l, soff v_l + j * 4, none⟩)) (fun _ q => f25.idx (k := j) rfl hk29 q) ?_
    refine d_loadO (.agg #[.int .i64 x12.message, .int .i64 x12.part, .int .i64 x12.parts, x12.sv.v]) (fun _ q => bxb14.loadA rfl q) ?_
    have s31 := in26 x30 (List.mem_of_getElem? hx30)
    refine d_loadO (.agg #[.int .i64 x30.message, .int .i64 x30.part, .int .i64 x30.parts, x30.sv.v]) (fun _ q => f25.loadN hx30 rfl q) ?_
    refine d_eff ?_
    refine s_call [.agg #[.int .i64 x12.message, .int .i64 x12.part, .int .i64 x12.parts, x12.sv.v], .agg #[.int .i64 x30.message, .int .i64 x30.part, .int .i64 x30.parts, x30.sv.v]] rfl (spec_pkClash_ok (Pk.p x12) x12.sv.v (Pk.p x30) x30.sv.v _ s27 s31) ?_
    rintro _ h32 ⟨rfl, eh32⟩
    have E33 := Eh.trans eh32
    have z34 := eh32.size
    have G35 := eh32
    refine s_nil ⟨fun hl => (by cases hl), ?_⟩
    refine d_done ?_
    refine p_seqN ?_
    refine v_cond rfl (fun c36 => ?_) (fun c36 => ?_)
    ·
     refine v_ops ?_
     refine s_pure u (fun _ q => q) ?_
     refine s_pure (.int .i64 (k : Int)) (fun _ q => q) ?_
     refine s_pure (.int .i64 (j : Int)) (fun _ q => q) ?_
     refine s_row (α := Int) [(k : Int), (j : Int)] (fun _ q => seg_i rfl (seg_i rfl (seg_nil q))) rfl (by simp [maxLen]) (fun r37 h38 eh38 zh38 s_r37 fr_r37 => ?_)
     have E39 := E33.trans eh38
     have z40 := eh38.size
     have lt_r37 := s_r37.lt
     obtain ⟨sv41, rfl⟩ := s_r37.sv
     refine s_row (α := RowI) [(⟨sv41, [(k : Int), (j : Int)]⟩ : RowI)] (fun _ q => seg_sl s_r37 rfl (seg_nil q)) rfl (by simp [maxLen]) (fun r42 h43 eh43 zh43 s_r42 fr_r42 => ?_)
     have E44 := E39.trans eh43
     have z45 := eh43.size
     have lt_r42 := s_r42.lt
     have f48 := (s_r37.ext eh43)
     have f49 := (((s_u.ext eh32).ext eh38).ext eh43)
     refine s_app f49.row s_r42 rfl rfl rfl (by simp [maxLen]; omega) (by simp; omega) (fun r46 h47 mh47 zh47 s_r46 ab_r46 => ?_)
     have D_r46 := DeepO.snoc (e := (⟨sv41, [(k : Int), (j : Int)]⟩ : RowI)) f49 f48 (fr_r37.mono (by omega)) (fun b hb hc => by have := fr_r37 b hb; have := lt_u b hc; omega) (by omega) mh47 s_r46 ab_r46
     have E50 := E44.mod mh47 (fun b hb => by have := (fun b hb => fr_u b (mem_fpts.2 (.inl hb))) b hb; omega)
     have lt_r46 := D_r46.lt
     have fr_r46 := D_r46.fr
     have np51a : ∀ b ∈ blks v_l, b ∉ fpts u qs := (fun b hb hc => by have := lt_l b hb; have := fr_u b hc; omega)
     have np51b : ∀ b ∈ blks v_l, b ∉ blks sv41.v := (fun b hb hc => by have := lt_l b hb; have := fr_r37 b hc; omega)
     have np51 : ∀ b ∈ blks v_l, b ∉ fpts r46 (qs ++ [(⟨sv41, [(k : Int), (j : Int)]⟩ : RowI)]) := fun b hb => DeepO.snocOut ab_r46 (np51a b hb) (np51b b hb) (by have := lt_l b hb; omega)
     have np52 : b14 ∉ fpts r46 (qs ++ [(⟨sv41, [(k : Int), (j : Int)]⟩ : RowI)]) := DeepO.snocOut ab_r46 np_b14_u (fun hc => by have := fr_r37 _ hc; omega) (by omega)
     have np53a : ∀ b ∈ blks x12.sv.v, b ∉ fpts u qs := (fun b hb hc => by have := (inlt_l x12 (List.mem_of_getElem? hx12)) b hb; have := fr_u b hc; omega)
     have np53b : ∀ b ∈ blks x12.sv.v, b ∉ blks sv41.v := (fun b hb hc => by have := (inlt_l x12 (List.mem_of_getElem? hx12)) b hb; have := fr_r37 b hc; omega)
     have np53 : ∀ b ∈ blks x12.sv.v, b ∉ fpts r46 (qs ++ [(⟨sv41, [(k : Int), (j : Int)]⟩ : RowI)]) := fun b hb => DeepO.snocOut ab_r46 (np53a b hb) (np53b b hb) (by have := (inlt_l x12 (List.mem_of_getElem? hx12)) b hb; omega)
     have np54a : ∀ b ∈ blks x30.sv.v, b ∉ fpts u qs := (fun b hb hc => by have := (inlt_l x30 (List.mem_of_getElem? hx30)) b hb; have := fr_u b hc; omega)
     have np54b : ∀ b ∈ blks x30.sv.v, b ∉ blks sv41.v := (fun b hb hc => by have := (inlt_l x30 (List.mem_of_getElem? hx30)) b hb; have := fr_r37 b hc; omega)
     have np54 : ∀ b ∈ blks x30.sv.v, b ∉ fpts r46 (qs ++ [(⟨sv41, [(k : Int), (j : Int)]⟩ : RowI)]) := fun b hb => DeepO.snocOut ab_r46 (np54a b hb) (np54b b hb) (by have := (inlt_l x30 (List.mem_of_getElem? hx30)) b hb; omega)
     refine s_pure r46 (fun _ q => q) ?_
     refine s_nil ?_
     refine p_blkN ?_
     refine p_seqN ?_
     refine v_ops ?_
     refine s_pure (.int .i64 (j : Int)) (fun _ q => q) ?_
     refine s_pure (.int .i64 ((j : Int) + 1)) (fun _ q => ArithVC.mk (by omega) q) ?_
     refine s_pure (.int .i64 ((j : Int) + 1)) (fun _ q => q) ?_
     refine s_nil ?_
     have f55 := ((((bxb14.ext eh32).ext eh38).ext eh43).mod mh47 (fun hc => np_b14_u (mem_fpts.2 (.inl hc))))
     exact p_lpN ⟨j + 1, (qs ++ [(⟨sv41, [(k : Int), (j : Int)]⟩ : RowI)]), r46, ⟨rfl, rfl, rfl, rfl, rfl, rfl, rfl, rfl⟩, ⟨E50, f55, (D_r46.mono (by omega)), np52, (by first | exact ⟨by omega, by omega, fun p hp => by (obtain rfl := Option.some.inj (hp.symm.trans (by assumption : l[k]? = some x12))); rw [List.map_append, hqs _ hp, cfPart_yes hkj (map_get (by assumption)) (by assumption), List.append_assoc]; rfl⟩ | exact ⟨by omega, by omega, fun p hp => by (obtain rfl := Option.some.inj (hp.symm.trans (by assumption : l[k]? = some x12))); rw [hqs _ hp, cfPart_no hkj (map_get (by assumption)) (by assumption)]⟩)⟩, by omega⟩
    ·
     refine v_skip ?_
     refine p_blkN ?_
     refine p_seqN ?_
     refine v_ops ?_
     refine s_pure (.int .i64 (j : Int)) (fun _ q => q) ?_
     refine s_pure (.int .i64 ((j : Int) + 1)) (fun _ q => ArithVC.mk (by omega) q) ?_
     refine s_pure (.int .i64 ((j : Int) + 1)) (fun _ q => q) ?_
     refine s_nil ?_
     have f56 := (bxb14.ext eh32)
     have f57 := (s_u.ext eh32)
     exact p_lpN ⟨j + 1, qs, u, ⟨rfl, rfl, rfl, rfl, rfl, rfl, rfl, rfl⟩, ⟨E33, f56, (f57.mono (by omega)), np_b14_u, (by first | exact ⟨by omega, by omega, fun p hp => by (obtain rfl := Option.some.inj (hp.symm.trans (by assumption : l[k]? = some x12))); rw [List.map_append, hqs _ hp, cfPart_yes hkj (map_get (by assumption)) (by assumption), List.append_assoc]; rfl⟩ | exact ⟨by omega, by omega, fun p hp => by (obtain rfl := Option.some.inj (hp.symm.trans (by assumption : l[k]? = some x12))); rw [hqs _ hp, cfPart_no hkj (map_get (by assumption)) (by assumption)]⟩)⟩, by omega⟩
   ·
    refine v_exit ?_
    refine p_seqX ?_
    refine p_lpX ?_
    refine p_blkX ?_
    refine p_blkN ?_
    refine p_seqN ?_
    refine v_ops ?_
    refine s_pure (.int .i64 ((k : Int) + 1)) (fun _ q => ArithVC.mk (by omega) q) ?_
    refine s_pure (.int .i64 ((k : Int) + 1)) (fun _ q => q) ?_
    refine s_nil ?_
    exact p_lpN ⟨k + 1, qs, u, ⟨rfl, rfl, rfl, rfl, rfl⟩, ⟨Eh, (s_u.mono (by omega)), (by (obtain ⟨p, hp⟩ : ∃ p, l[k]? = some p := ⟨_, List.getElem?_eq_getElem (by omega)⟩); exact ⟨by omega, by rw [cf_succ _ _ (map_get hp), hqs p hp]; congr 2; simp; omega⟩)⟩, by omega⟩
  ·
   refine v_exit ?_
   refine p_seqX ?_
   refine p_lpX ?_
   refine p_blkX ?_
   refine p_seqN ?_
   refine v_seq ?_
   refine v_ops ?_
   refine s_pure o (fun _ q => q) ?_
   refine s_pure o (fun _ q => q) ?_
   refine s_pure (.bool true) (fun _ q => q) ?_
   refine s_nil ?_
   refine p_seqN ?_
   refine v_ret ?_
   refine p_ret [o, .bool true] (.tuple #[o, .bool true]) (fun _ q => q) rfl ?_
   have ho : cfOut (l.map Pk.p) = ((ps.map RowI.sig), true) := by first | exact cf_no (by assumption) | exact cf_yes hps (by simp; omega) (by assumption)
   exact ⟨o, ps, by first | (rw [ho]; done) | rfl, (s_o.mono (by omega)), (congrArg (fun o => o.1) ho).symm, Eh⟩

end Go.Proofs.Ytjmcijcdncgaiaa


/- Stable sorting of packets: plain parts, the code. Condition: none. Printed in part by a program. -/
namespace Go.Proofs.Ytjmcijcdncgaiaa
open Go.Vc
set_option linter.all false

theorem symMerge_all : ∀ (N : Nat) (v_l : Value) (l : List Pk) (a m b : Int) (h : Heap), (b - a).toNat = N → SlO h v_l l → 0 ≤ a → a < m → m < b → b ≤ (l.length : Int) → l.length ≤ 1000000 → SoOn pkKey l a.toNat m.toNat → SoOn pkKey l m.toNat b.toNat →
    Cn f_slices_symMergeCmpFunc_impl_Packet [v_l, .int .i64 a, .int .i64 m, .int .i64 b, .func (.func 66) #[] #[]] h fun v h' => v = .tuple #[] ∧ ∃ l_ : List Pk, SlO h' v_l l_ ∧ Mod (blks v_l) h h' ∧ (Like pkKey l l_ a.toNat b.toNat ∧ SoOn pkKey l_ a.toNat b.toNat) := by
  intro N
  induction N using Nat.strongRecOn with
  | _ N ih =>
    intro v_l l a m b h hN s h0 h1 h2 h3 bl hA hB
    exact slices_symMergeCmpFunc_impl_Packet_ok v_l l a m b h s N hN h0 h1 h2 h3 bl hA hB (fun v l a m b h hlt s h0 h1 h2 h3 bl hA hB => ih _ hlt v l a m b h rfl s h0 h1 h2 h3 bl hA hB)
theorem symMerge_ok (v_l : Value) (l : List Pk) (a m b : Int) (h : Heap) (s : SlO h v_l l) (h0 : 0 ≤ a) (h1 : a < m) (h2 : m < b) (h3 : b ≤ (l.length : Int)) (bl : l.length ≤ 1000000) (hA : SoOn pkKey l a.toNat m.toNat) (hB : SoOn pkKey l m.toNat b.toNat) :
  Cn f_slices_symMergeCmpFunc_impl_Packet [v_l, .int .i64 a, .int .i64 m, .int .i64 b, .func (.func 66) #[] #[]] h fun v h' => v = .tuple #[] ∧ ∃ l_ : List Pk, SlO h' v_l l_ ∧ Mod (blks v_l) h h' ∧ (Like pkKey l l_ a.toNat b.toNat ∧ SoOn pkKey l_ a.toNat b.toNat) := symMerge_all _ v_l l a m b h rfl s h0 h1 h2 h3 bl hA hB


theorem like_so {d d' : List Pk} {a b u v : Nat} (L : Like pkKey d d' a b) (h : SoOn pkKey d u v) (hd : v ≤ a ∨ b ≤ u) : SoOn pkKey d' u v := h.same (fun i i1 i2 => L.out i (by omega)) (Nat.le_refl _) (Nat.le_refl _)
theorem stA_in {l ll q : List Pk} {a b n : Int} (hn : n = (l.length : Int)) (bl : l.length ≤ 40) (hb : b = a + 20) (ha : a = 0 ∨ a = 20 ∨ a = 40) (hc : b ≤ n) (hL : Like pkKey l ll 0 l.length) (s1 : 20 ≤ a → SoOn pkKey ll 0 20) (s2 : 40 ≤ a → SoOn pkKey ll 20 40)
    (hp : Like pkKey ll q a.toNat b.toNat ∧ SoOn pkKey q a.toNat b.toNat) : b + 20 = b + 20 ∧ (b = 0 ∨ b = 20 ∨ b = 40) ∧ b ≤ n ∧ Like pkKey l q 0 l.length ∧ (20 ≤ b → SoOn pkKey q 0 20) ∧ (40 ≤ b → SoOn pkKey q 20 40) := by
  have hL2 : Like pkKey l q 0 l.length := hL.trans (hp.1.wide (by omega) (by omega))
  refine ⟨rfl, by omega, hc, hL2, fun _ => ?_, fun h4 => ?_⟩
  · rcases ha with rfl | rfl | rfl
    · have := hp.2; subst hb; exact this
    · exact like_so hp.1 (s1 (by omega)) (by left; decide)
    · exact like_so hp.1 (s1 (by omega)) (by left; decide)
  · rcases ha with rfl | rfl | rfl
    · omega
    · have := hp.2; subst hb; exact this
    · omega
theorem stA_out {l ll q : List Pk} {a b n : Int} (hn : n = (l.length : Int)) (bl : l.length ≤ 40) (hb : b = a + 20) (ha : a = 0 ∨ a = 20 ∨ a = 40) (han : a ≤ n) (hc : ¬ b ≤ n) (hL : Like pkKey l ll 0 l.length) (s1 : 20 ≤ a → SoOn pkKey ll 0 20) (s2 : 40 ≤ a → SoOn pkKey ll 20 40)
    (hp : Like pkKey ll q a.toNat n.toNat ∧ SoOn pkKey q a.toNat n.toNat) : Like pkKey l q 0 l.length ∧ (((20 : Int) = 20 ∧ SoOn pkKey q 0 (min 20 l.length) ∧ SoOn pkKey q 20 l.length) ∨ (n ≤ 20 ∧ (20 : Int) = 40 ∧ SoOn pkKey q 0 l.length)) := by
  have hL2 : Like pkKey l q 0 l.length := hL.trans (hp.1.wide (by omega) (by omega))
  have hn2 : n.toNat = l.length := by omega
  rw [hn2] at hp
  refine ⟨hL2, .inl ⟨rfl, ?_, ?_⟩⟩
  · rcases ha with rfl | rfl | rfl
    · exact hp.2.sub (Nat.le_refl _) (by omega)
    · exact (like_so hp.1 (s1 (by omega)) (by left; decide)).sub (Nat.le_refl _) (by omega)
    · exact (like_so hp.1 (s1 (by omega)) (by left; decide)).sub (Nat.le_refl _) (by omega)
  · rcases ha with rfl | rfl | rfl
    · exact hp.2.sub (by omega) (by omega)
    · exact hp.2
    · exact (like_so hp.1 (s2 (by omega)) (by left; decide)).sub (Nat.le_refl _) (by omega)
abbrev stC (l ll2 ll3 : List Pk) (bs a2 b2 n : Int) : Prop := (bs = 20 ∧ n = (l.length : Int) ∧ n ≤ 40 ∧ 20 < n) ∧ ll2.length = l.length ∧ Like pkKey ll2 ll3 0 l.length ∧ SoOn pkKey ll2 0 20 ∧ SoOn pkKey ll2 20 l.length ∧ ((a2 = 0 ∧ b2 = 40 ∧ ll3 = ll2) ∨ (a2 = 40 ∧ b2 = 80 ∧ n = 40 ∧ SoOn pkKey ll3 0 l.length))
theorem stC_0 {l ll2 : List Pk} {bs n : Int} (hn : n = (l.length : Int)) (bl : l.length ≤ 40) (hL : Like pkKey l ll2 0 l.length) (hc : bs < n) (h : (bs = 20 ∧ SoOn pkKey ll2 0 (min 20 l.length) ∧ SoOn pkKey ll2 20 l.length) ∨ (n ≤ bs ∧ bs = 40 ∧ SoOn pkKey ll2 0 l.length)) : stC l ll2 ll2 bs 0 (2 * bs) n := by
  rcases h with ⟨rfl, h1, h2⟩ | ⟨h1, h2, _⟩
  · exact ⟨⟨rfl, hn, by omega, hc⟩, hL.len, Like.refl _ _ _, h1.sub (Nat.le_refl _) (by omega), h2, .inl ⟨rfl, rfl, rfl⟩⟩
  · omega
theorem stC_A {l ll2 ll3 : List Pk} {bs a2 b2 n e : Int} (C : stC l ll2 ll3 bs a2 b2 n) (h : a2 + bs < n) : SoOn pkKey ll3 a2.toNat (a2 + bs).toNat := by
  obtain ⟨⟨rfl, hn, h4, h2⟩, _, hL, s1, s2, ⟨rfl, rfl, rfl⟩ | ⟨rfl, rfl, h5, s3⟩⟩ := C
  · exact s1
  · omega
theorem stC_B {l ll2 ll3 : List Pk} {bs a2 b2 n e : Int} (C : stC l ll2 ll3 bs a2 b2 n) (h : a2 + bs < n) (he : e ≤ n) : SoOn pkKey ll3 (a2 + bs).toNat e.toNat := by
  obtain ⟨⟨rfl, hn, h4, h2⟩, _, hL, s1, s2, ⟨rfl, rfl, rfl⟩ | ⟨rfl, rfl, h5, s3⟩⟩ := C
  · exact s2.sub (Nat.le_refl _) (by omega)
  · omega
theorem stC_in {l ll2 ll3 q : List Pk} {bs a2 b2 n : Int} (C : stC l ll2 ll3 bs a2 b2 n) (hc : b2 ≤ n) (hp : Like pkKey ll3 q a2.toNat b2.toNat ∧ SoOn pkKey q a2.toNat b2.toNat) : stC l ll2 q bs b2 (b2 + 2 * bs) n := by
  obtain ⟨⟨rfl, hn, h4, h2⟩, h6, hL, s1, s2, ⟨rfl, rfl, rfl⟩ | ⟨rfl, rfl, h5, s3⟩⟩ := C
  · have e : l.length = 40 := by omega
    rw [e] at hL s2
    exact ⟨⟨rfl, hn, h4, h2⟩, by omega, by rw [e]; exact hL.trans hp.1, s1, by rw [e]; exact s2, .inr ⟨rfl, rfl, by omega, by rw [e]; exact hp.2⟩⟩
  · omega
theorem stC_len {l ll2 ll3 : List Pk} {bs a2 b2 n : Int} (C : stC l ll2 ll3 bs a2 b2 n) : ll3.length = l.length ∧ bs = 20 ∧ n = (l.length : Int) ∧ n ≤ 40 ∧ ((a2 = 0 ∧ b2 = 40) ∨ (a2 = 40 ∧ b2 = 80)) := by
  obtain ⟨⟨rfl, hn, h4, h2⟩, h6, hL, s1, s2, ⟨rfl, rfl, rfl⟩ | ⟨rfl, rfl, h5, s3⟩⟩ := C
  · exact ⟨h6, rfl, hn, h4, .inl ⟨rfl, rfl⟩⟩
  · exact ⟨hL.len.trans h6, rfl, hn, h4, .inr ⟨rfl, rfl⟩⟩
theorem stB_y {l ll2 ll3 q : List Pk} {bs a2 b2 n : Int} (hL0 : Like pkKey l ll2 0 l.length) (C : stC l ll2 ll3 bs a2 b2 n) (hc : a2 + bs < n) (hp : Like pkKey ll3 q a2.toNat n.toNat ∧ SoOn pkKey q a2.toNat n.toNat) : Like pkKey l q 0 l.length ∧ ((bs * 2 = 20 ∧ SoOn pkKey q 0 (min 20 l.length) ∧ SoOn pkKey q 20 l.length) ∨ (n ≤ bs * 2 ∧ bs * 2 = 40 ∧ SoOn pkKey q 0 l.length)) := by
  obtain ⟨⟨rfl, hn, h4, h2⟩, h6, hL, s1, s2, ⟨rfl, rfl, rfl⟩ | ⟨rfl, rfl, h5, s3⟩⟩ := C
  · have e : n.toNat = l.length := by omega
    rw [e] at hp
    exact ⟨hL0.trans hp.1, .inr ⟨by omega, rfl, hp.2⟩⟩
  · omega
theorem stB_n {l ll2 ll3 : List Pk} {bs a2 b2 n : Int} (hL0 : Like pkKey l ll2 0 l.length) (C : stC l ll2 ll3 bs a2 b2 n) (hc : ¬ a2 + bs < n) : Like pkKey l ll3 0 l.length ∧ ((bs * 2 = 20 ∧ SoOn pkKey ll3 0 (min 20 l.length) ∧ SoOn pkKey ll3 20 l.length) ∨ (n ≤ bs * 2 ∧ bs * 2 = 40 ∧ SoOn pkKey ll3 0 l.length)) := by
  obtain ⟨⟨rfl, hn, h4, h2⟩, h6, hL, s1, s2, ⟨rfl, rfl, rfl⟩ | ⟨rfl, rfl, h5, s3⟩⟩ := C
  · omega
  · exact ⟨hL0.trans hL, .inr ⟨by omega, rfl, s3⟩⟩
theorem stB_end {l ll : List Pk} {bs n : Int} (hn : n = (l.length : Int)) (hc : ¬ bs < n) (h : (bs = 20 ∧ SoOn pkKey ll 0 (min 20 l.length) ∧ SoOn pkKey ll 20 l.length) ∨ (n ≤ bs ∧ bs = 40 ∧ SoOn pkKey ll 0 l.length)) : SoOn pkKey ll 0 l.length := by
  rcases h with ⟨rfl, h1, h2⟩ | ⟨h1, h2, h3⟩
  · exact h1.sub (Nat.le_refl _) (by omega)
  · exact h3

set_option maxRecDepth 10000 in
set_option maxHeartbeats 4000000 in
theorem slices_stableCmpFunc_impl_Packet_ok (v_l : Value) (l : List Pk) (n : Int) (h : Heap) (s_l : SlO h v_l l) (hn : n = (l.length : Int)) (bl : l.length ≤ 40) : Cn f_slices_stableCmpFunc_impl_Packet [v_l, .int .i64 n, .func (.func 66) #[] #[]] h fun v h' => v = .tuple #[] ∧ ∃ l_ : List Pk, SlO h' v_l l_ ∧ Mod (blks v_l) h h' ∧ (Like pkKey l l_ 0 l.length ∧ SoOn pkKey l_ 0 l.length) := by
 have lt_l := s_l.lt
 have l63_l := s_l.len63
 refine calls_of r_slices_stableCmpFunc_impl_Packet ?_
 refine v_seq ?_
 refine v_ops ?_
 refine s_pure (.int .i64 20) (fun _ q => q) ?_
 refine s_nil ?_
 refine p_seqN ?_
 refine v_seq ?_
 refine v_ops ?_
 refine s_pure (.int .i64 20) (fun _ q => q) ?_
 refine s_pure (.int .i64 0) (fun _ q => q) ?_
 refine s_pure (.int .i64 20) (fun _ q => q) ?_
 refine s_nil ?_
 refine p_seqN ?_
 refine v_seq ?_
 refine v_block ?_
 refine v_loop3 (α := Int) (β := Int) (γ := List Pk) (fun a b ll => [(0, v_l), (1, .int .i64 n), (2, .func (.func 66) #[] #[]), (6, .int .i64 20), (7, .int .i64 a), (8, .int .i64 b)]) (fun a b ll hh => Mod (blks v_l) h hh ∧ SlO hh v_l ll ∧ b = a + 20 ∧ (a = 0 ∨ a = 20 ∨ a = 40) ∧ a ≤ n ∧ Like pkKey l ll 0 l.length ∧ (20 ≤ a → SoOn pkKey ll 0 20) ∧ (40 ≤ a → SoOn pkKey ll 20 40)) (fun a b ll => (100 - b).toNat) 0 20 l ⟨rfl, rfl, rfl, rfl, rfl, rfl⟩ ⟨(Mod.refl (blks v_l) h), s_l, (by exact ⟨by omega, by omega, by omega, Like.refl _ _ _, fun hc => by omega, fun hc => by omega⟩)⟩ ?_
 rintro a b ll R2 h1 ⟨Eh, s_l, ⟨hb, ha, han, hL, s1, s2⟩⟩
 have zEh := Eh.size
 have lt_l := s_l.lt
 have hlen := hL.len
 refine v_seq ?_
 refine v_seq ?_
 refine v_ops ?_
 refine s_pure (.int .i64 b) (fun _ q => q) ?_
 refine s_pure (.int .i64 n) (fun _ q => q) ?_
 refine s_pure (.bool (decide (b ≤ n))) (fun _ q => q) ?_
 refine s_nil ?_
 refine p_seqN ?_
 refine v_cond rfl (fun c4 => ?_) (fun c4 => ?_)
 ·
  refine v_skip ?_
  refine p_seqN ?_
  refine v_block ?_
  refine v_seq ?_
  refine v_ops ?_
  refine s_pure v_l (fun _ q => q) ?_
  refine s_pure (.int .i64 a) (fun _ q => q) ?_
  refine s_pure (.int .i64 b) (fun _ q => q) ?_
  refine s_pure (.func (.func 66) #[] #[]) (fun _ q => q) ?_
  refine s_call [v_l, .int .i64 a, .int .i64 b, .func (.func 66) #[] #[]] rfl (slices_insertionSortCmpFunc_impl_Packet_ok v_l ll a b _ s_l (by omega) (by omega) (by omega) (by omega)) ?_
  rintro _ h5 ⟨rfl, q7, s6, mh5, hp8⟩
  have zh5 := mh5.size
  have hlq7 := hp8.1.len
  have E9 := Eh.new mh5 (fun b hb => Or.inl hb)
  refine s_nil ?_
  refine p_seqN ?_
  refine v_seq ?_
  refine v_ops ?_
  refine s_pure (.int .i64 b) (fun _ q => q) ?_
  refine s_pure (.int .i64 b) (fun _ q => q) ?_
  refine s_nil ?_
  refine p_seqN ?_
  refine v_ops ?_
  refine s_pure (.int .i64 b) (fun _ q => q) ?_
  refine s_pure (.int .i64 20) (fun _ q => q) ?_
  refine s_pure (.int .i64 (b + 20)) (fun _ q => ArithVC.mk (by omega) q) ?_
  refine s_pure (.int .i64 (b + 20)) (fun _ q => q) ?_
  refine s_nil ?_
  refine p_blkN ?_
  exact p_lpN ⟨b, (b + 20), q7, ⟨rfl, rfl, rfl, rfl, rfl, rfl⟩, ⟨E9, (sl_eq s6 rfl), (by (have hz := stA_in hn bl hb ha (by assumption) hL s1 s2 (by assumption)); exact ⟨by omega, hz.2⟩)⟩, by omega⟩
 ·
  refine v_exit ?_
  refine p_seqX ?_
  refine p_lpX ?_
  refine p_blkX ?_
  refine p_seqN ?_
  refine v_seq ?_
  refine v_ops ?_
  refine s_pure v_l (fun _ q => q) ?_
  refine s_pure (.int .i64 a) (fun _ q => q) ?_
  refine s_pure (.int .i64 n) (fun _ q => q) ?_
  refine s_pure (.func (.func 66) #[] #[]) (fun _ q => q) ?_
  refine s_call [v_l, .int .i64 a, .int .i64 n, .func (.func 66) #[] #[]] rfl (slices_insertionSortCmpFunc_impl_Packet_ok v_l ll a n _ s_l (by omega) (by omega) (by omega) (by omega)) ?_
  rintro _ h10 ⟨rfl, q12, s11, mh10, hp13⟩
  have zh10 := mh10.size
  have hlq12 := hp13.1.len
  have E14 := Eh.new mh10 (fun b hb => Or.inl hb)
  refine s_nil ?_
  refine p_seqN ?_
  refine v_block ?_
  refine v_loop2 (α := Int) (β := List Pk) (fun bs ll2 => [(0, v_l), (1, .int .i64 n), (2, .func (.func 66) #[] #[]), (6, .int .i64 bs)]) (fun bs ll2 hh => Mod (blks v_l) h hh ∧ SlO hh v_l ll2 ∧ Like pkKey l ll2 0 l.length ∧ ((bs = 20 ∧ SoOn pkKey ll2 0 (min 20 l.length) ∧ SoOn pkKey ll2 20 l.length) ∨ (n ≤ bs ∧ bs = 40 ∧ SoOn pkKey ll2 0 l.length))) (fun bs ll2 => (80 - bs).toNat) 20 q12 ⟨rfl, rfl, rfl, rfl⟩ ⟨E14, s11, (by exact stA_out hn bl hb ha han (by assumption) hL s1 s2 (by assumption))⟩ ?_
  rintro bs ll2 R16 h15 ⟨Eh, s_l, ⟨hL2, hB⟩⟩
  have zEh := Eh.size
  have lt_l := s_l.lt
  have hlen2 := hL2.len
  have hbs : bs = 20 ∨ bs = 40 := by (rcases hB with h | h); exact .inl h.1; exact .inr h.2.1
  refine v_seq ?_
  refine v_seq ?_
  refine v_ops ?_
  refine s_pure (.int .i64 bs) (fun _ q => q) ?_
  refine s_pure (.int .i64 n) (fun _ q => q) ?_
  refine s_pure (.bool (decide (bs < n))) (fun _ q => q) ?_
  refine s_nil ?_
  refine p_seqN ?_
  refine v_cond rfl (fun c18 => ?_) (fun c18 => ?_)
  ·
   refine v_skip ?_
   refine p_seqN ?_
   refine v_block ?_
   refine v_seq ?_
   refine v_ops ?_
   refine s_pure (.int .i64 bs) (fun _ q => q) ?_
   refine s_pure (.int .i64 (2 * bs)) (fun _ q => ArithVC.mk (by omega) q) ?_
   refine s_pure (.int .i64 0) (fun _ q => q) ?_
   refine s_pure (.int .i64 (2 * bs)) (fun _ q => q) ?_
   refine s_nil ?_
   refine p_seqN ?_
   refine v_seq ?_
   refine v_block ?_
   refine v_loop3 (α := Int) (β := Int) (γ := List Pk) (fun a2 b2 ll3 => [(0, v_l), (1, .int .i64 n), (2, .func (.func 66) #[] #[]), (6, .int .i64 bs), (7, .int .i64 a2), (8, .int .i64 b2)]) (fun a2 b2 ll3 hh => Mod (blks v_l) h hh ∧ SlO hh v_l ll3 ∧ stC l ll2 ll3 bs a2 b2 n) (fun a2 b2 ll3 => (200 - b2).toNat) 0 (2 * bs) ll2 ⟨rfl, rfl, rfl, rfl, rfl, rfl⟩ ⟨Eh, s_l, (by exact stC_0 hn bl hL2 (by assumption) hB)⟩ ?_
   rintro a2 b2 ll3 R20 h19 ⟨Eh, s_l, C⟩
   have zEh := Eh.size
   have lt_l := s_l.lt
   obtain ⟨hlen3, hbs2, hn3, hn4, hab⟩ := stC_len C
   refine v_seq ?_
   refine v_seq ?_
   refine v_ops ?_
   refine s_pure (.int .i64 b2) (fun _ q => q) ?_
   refine s_pure (.int .i64 n) (fun _ q => q) ?_
   refine s_pure (.bool (decide (b2 ≤ n))) (fun _ q => q) ?_
   refine s_nil ?_
   refine p_seqN ?_
   refine v_cond rfl (fun c22 => ?_) (fun c22 => ?_)
   ·
    refine v_skip ?_
    refine p_seqN ?_
    refine v_block ?_
    refine v_seq ?_
    refine v_ops ?_
    refine s_pure v_l (fun _ q => q) ?_
    refine s_pure (.int .i64 a2) (fun _ q => q) ?_
    refine s_pure (.int .i64 a2) (fun _ q => q) ?_
    refine s_pure (.int .i64 bs) (fun _ q => q) ?_
    refine s_pure (.int .i64 (a2 + bs)) (fun _ q => ArithVC.mk (by omega) q) ?_
    refine s_pure (.int .i64 b2) (fun _ q => q) ?_
    refine s_pure (.func (.func 66) #[] #[]) (fun _ q => q) ?_
    refine s_call [v_l, .int .i64 a2, .int .i64 (a2 + bs), .int .i64 b2, .func (.func 66) #[] #[]] rfl (symMerge_ok v_l ll3 a2 (a2 + bs) b2 _ s_l (by omega) (by omega) (by omega) (by omega) (by omega) (stC_A (e := 0) C (by omega)) (stC_B C (by omega) (by omega))) ?_
    rintro _ h23 ⟨rfl, q25, s24, mh23, hp26⟩
    have zh23 := mh23.size
    have hlq25 := hp26.1.len
    have E27 := Eh.new mh23 (fun b hb => Or.inl hb)
    refine s_nil ?_
    refine p_seqN ?_
    refine v_seq ?_
    refine v_ops ?_
    refine s_pure (.int .i64 b2) (fun _ q => q) ?_
    refine s_pure (.int .i64 b2) (fun _ q => q) ?_
    refine s_nil ?_
    refine p_seqN ?_
    refine v_ops ?_
    refine s_pure (.int .i64 b2) (fun _ q => q) ?_
    refine s_pure (.int .i64 bs) (fun _ q => q) ?_
    refine s_pure (.int .i64 (2 * bs)) (fun _ q => ArithVC.mk (by omega) q) ?_
    refine s_pure (.int .i64 (b2 + (2 * bs))) (fun _ q => ArithVC.mk (by omega) q) ?_
    refine s_pure (.int .i64 (b2 + (2 * bs))) (fun _ q => q) ?_
    refine s_nil ?_
    refine p_blkN ?_
    exact p_lpN ⟨b2, (b2 + (2 * bs)), q25, ⟨rfl, rfl, rfl, rfl, rfl, rfl⟩, ⟨E27, (sl_eq s24 rfl), (by exact stC_in C (by assumption) (by assumption))⟩, by omega⟩
   ·
    refine v_exit ?_
    refine p_seqX ?_
    refine p_lpX ?_
    refine p_blkX ?_
    refine p_seqN ?_
    refine v_seq ?_
    refine v_seq ?_
    refine v_ops ?_
    refine s_pure (.int .i64 a2) (fun _ q => q) ?_
    refine s_pure (.int .i64 bs) (fun _ q => q) ?_
    refine s_pure (.int .i64 (a2 + bs)) (fun _ q => ArithVC.mk (by omega) q) ?_
    refine s_pure (.int .i64 (a2 + bs)) (fun _ q => q) ?_
    refine s_nil ?_
    refine p_seqN ?_
    refine v_seq ?_
    refine v_ops ?_
    refine s_pure (.int .i64 (a2 + bs)) (fun _ q => q) ?_
    refine s_pure (.int .i64 n) (fun _ q => q) ?_
    refine s_pure (.bool (decide ((a2 + bs) < n))) (fun _ q => q) ?_
    refine s_nil ?_
    refine p_seqN ?_
    refine v_cond rfl (fun c28 => ?_) (fun c28 => ?_)
    ·
     refine v_ops ?_
     refine s_pure v_l (fun _ q => q) ?_
     refine s_pure (.int .i64 a2) (fun _ q => q) ?_
     refine s_pure (.int .i64 (a2 + bs)) (fun _ q => q) ?_
     refine s_pure (.int .i64 n) (fun _ q => q) ?_
     refine s_pure (.func (.func 66) #[] #[]) (fun _ q => q) ?_
     refine s_call [v_l, .int .i64 a2, .int .i64 (a2 + bs), .int .i64 n, .func (.func 66) #[] #[]] rfl (symMerge_ok v_l ll3 a2 (a2 + bs) n _ s_l (by omega) (by omega) (by omega) (by omega) (by omega) (stC_A (e := 0) C (by omega)) (stC_B C (by omega) (by omega))) ?_
     rintro _ h29 ⟨rfl, q31, s30, mh29, hp32⟩
     have zh29 := mh29.size
     have hlq31 := hp32.1.len
     have E33 := Eh.new mh29 (fun b hb => Or.inl hb)
     refine s_nil ?_
     refine p_seqN ?_
     refine v_ops ?_
     refine s_pure (.int .i64 bs) (fun _ q => q) ?_
     refine s_pure (.int .i64 (bs * 2)) (fun _ q => ArithVC.mk (by omega) q) ?_
     refine s_pure (.int .i64 (bs * 2)) (fun _ q => q) ?_
     refine s_nil ?_
     refine p_blkN ?_
     exact p_lpN ⟨(bs * 2), q31, ⟨rfl, rfl, rfl, rfl⟩, ⟨E33, (sl_eq s30 rfl), (by first | exact stB_y hL2 C (by assumption) (by assumption) | exact stB_n hL2 C (by assumption))⟩, by omega⟩
    ·
     refine v_skip ?_
     refine p_seqN ?_
     refine v_ops ?_
     refine s_pure (.int .i64 bs) (fun _ q => q) ?_
     refine s_pure (.int .i64 (bs * 2)) (fun _ q => ArithVC.mk (by omega) q) ?_
     refine s_pure (.int .i64 (bs * 2)) (fun _ q => q) ?_
     refine s_nil ?_
     refine p_blkN ?_
     exact p_lpN ⟨(bs * 2), ll3, ⟨rfl, rfl, rfl, rfl⟩, ⟨Eh, (sl_eq s_l rfl), (by first | exact stB_y hL2 C (by assumption) (by assumption) | exact stB_n hL2 C (by assumption))⟩, by omega⟩
  ·
   refine v_exit ?_
   refine p_seqX ?_
   refine p_lpX ?_
   refine p_blkX ?_
   refine p_end [] (.tuple #[]) (fun _ q => q) rfl ?_
   exact ⟨rfl, ll2, s_l, Eh, by exact ⟨hL2, stB_end hn (by assumption) hB⟩⟩

theorem slices_SortStableFunc_Limpl_Packet_impl_Packet_ok (v_l : Value) (l : List Pk) (h : Heap) (s_l : SlO h v_l l) (bl : l.length ≤ 40) : Cn f_slices_SortStableFunc_Limpl_Packet_impl_Packet [v_l, .func (.func 66) #[] #[]] h fun v h' => v = .tuple #[] ∧ ∃ l_ : List Pk, SlO h' v_l l_ ∧ Mod (blks v_l) h h' ∧ (Like pkKey l l_ 0 l.length ∧ SoOn pkKey l_ 0 l.length) := by
 have lt_l := s_l.lt
 have l63_l := s_l.len63
 refine calls_of r_slices_SortStableFunc_Limpl_Packet_impl_Packet ?_
 refine v_ops ?_
 refine s_pure v_l (fun _ q => q) ?_
 refine s_pure v_l (fun _ q => q) ?_
 refine s_pure (.int .i64 (l.length : Int)) (fun _ q => s_l.lenVC q) ?_
 refine s_pure (.func (.func 66) #[] #[]) (fun _ q => q) ?_
 refine s_call [v_l, .int .i64 (l.length : Int), .func (.func 66) #[] #[]] rfl (slices_stableCmpFunc_impl_Packet_ok v_l l (l.length : Int) _ s_l (by omega) (by omega)) ?_
 rintro _ h1 ⟨rfl, q3, s2, mh1, hp4⟩
 have zh1 := mh1.size
 have hlq3 := hp4.1.len
 have E5 := (Mod.refl (blks v_l) h).new mh1 (fun b hb => Or.inl hb)
 refine s_nil ?_
 refine p_end [] (.tuple #[]) (fun _ q => q) rfl ?_
 exact ⟨rfl, q3, s2, E5, by assumption⟩

end Go.Proofs.Ytjmcijcdncgaiaa

