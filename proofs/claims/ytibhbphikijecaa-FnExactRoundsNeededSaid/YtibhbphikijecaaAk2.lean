/- Bits, and rounds of acknowledgements. Condition: none. Printed in part by a program. -/
import Derived.Test.YtibhbphikijecaaAk1
import Derived.Test.YtibhbphikijecaaStep2
namespace Go.Proofs.Ytibhbphikijecaa
open Go.Vc
set_option linter.all false

def shrT (x y : Int) : Int := x.fdiv (2 ^ (min y.toNat 64))
theorem shr_vc {k : IntKind} {a b : Int} {K : Value → Prop} (h : 0 ≤ b) (hk : k.bits = 64) (q : K (.int k (shrT a b))) : ShiftVC false k a b K := by
  refine ⟨h, ?_⟩
  simp only [Bool.false_eq_true, if_false, hk]; exact q
theorem wrap_pow : ∀ p : Fin 10, IntKind.u64.wrap (1 * 2 ^ (min ((p.val : Nat) : Int).toNat 64)) = ((2 ^ p.val : Nat) : Int) := by decide +kernel
theorem shl_vc {p : Nat} {b : Int} {K : Value → Prop} (hb : b = (p : Int)) (hp : p < 10) (q : K (.int .u64 ((2 ^ p : Nat) : Int))) : ShiftVC true .u64 1 b K := by
  subst hb
  refine ⟨by omega, ?_⟩
  have := wrap_pow ⟨p, hp⟩
  simp only [if_true]
  show K (.int .u64 (IntKind.u64.wrap (1 * 2 ^ (min ((p : Nat) : Int).toNat 64))))
  rw [this]; exact q
theorem wrap_sub : ∀ p : Fin 10, IntKind.u64.wrap (((2 ^ p.val : Nat) : Int) - 1) = ((2 ^ p.val - 1 : Nat) : Int) := by decide +kernel
theorem sub_vc {p : Nat} {K : Value → Prop} (hp : p < 10) (q : K (.int .u64 ((2 ^ p - 1 : Nat) : Int))) : ArithVC .u64 .u64 (((2 ^ p : Nat) : Int) - 1) K := by
  refine ⟨rfl, ?_⟩
  rw [wrap_sub ⟨p, hp⟩]; exact q
theorem or_vc {a b : Nat} {K : Value → Prop} (ha : a < 512) (hb : b < 512) (q : K (.int .u64 ((a ||| b : Nat) : Int))) : BitsVC .or .u64 .u64 (a : Int) (b : Int) K := by
  refine ⟨rfl, ?_⟩
  rw [bits_or_u64_nat a b (by omega) (by omega)]; exact q
theorem two_lt {p : Nat} (hp : p < 9) : 2 ^ p < 512 := Nat.pow_lt_pow_right (a := 2) (by omega) hp
theorem tb_u : ∀ m : Fin 512, ∀ p : Fin 10, bits .and .u64 (shrT ((m.val : Nat) : Int) ((p.val : Nat) : Int)) 1 = if m.val.testBit p.val then 1 else 0 := by decide +kernel
theorem tb_i : ∀ m : Fin 1024, ∀ p : Fin 10, bits .and .i64 (shrT ((m.val : Nat) : Int) ((p.val : Nat) : Int)) 1 = if m.val.testBit p.val then 1 else 0 := by decide +kernel
theorem tb_512 : ∀ m : Fin 1024, bits .and .i64 ((m.val : Nat) : Int) 512 = 0 ↔ m.val < 512 := by decide +kernel
theorem tbu {m p : Nat} (hm : m < 512) (hp : p < 10) : bits .and .u64 (shrT (m : Int) (p : Int)) 1 = 1 ↔ m.testBit p = true := by
  rw [tb_u ⟨m, hm⟩ ⟨p, hp⟩]; simp only; split <;> simp_all
theorem tbi {m p : Nat} (hm : m < 1024) (hp : p < 10) : bits .and .i64 (shrT (m : Int) (p : Int)) 1 = 1 ↔ m.testBit p = true := by
  rw [tb_i ⟨m, hm⟩ ⟨p, hp⟩]; simp only; split <;> simp_all

/-- one part in a round: sent so far in it, doubles, what has arrived -/
def inStep (lost K A : Nat) (p : Nat) (s d : Int) (now : Nat) : Int × Int × Nat :=
  if K.testBit p then (s, d, now) else if lost.testBit p then (s + 1, d, now) else (s + 1, if A.testBit p then d + 1 else d, now ||| 2 ^ p)
/-- the rest of a round from part p on, f parts at most -/
def inRun (w : Int) (lost K A : Nat) : Nat → Nat → Int → Int → Nat → Int × Int × Nat
  | 0, _, s, d, now => (s, d, now)
  | f + 1, p, s, d, now => if s < w then inRun w lost K A f (p + 1) (inStep lost K A p s d now).1 (inStep lost K A p s d now).2.1 (inStep lost K A p s d now).2.2 else (s, d, now)
theorem inRun_stop {w : Int} {lost K A f p : Nat} {s d : Int} {now : Nat} (h : f = 0 ∨ ¬ s < w) : inRun w lost K A f p s d now = (s, d, now) := by
  cases f with
  | zero => rfl
  | succ f => rw [inRun, if_neg (h.resolve_left (by omega))]
theorem inRun_go {w : Int} {lost K A f p : Nat} {s d : Int} {now : Nat} (hf : 0 < f) (h : s < w) : inRun w lost K A f p s d now = inRun w lost K A (f - 1) (p + 1) (inStep lost K A p s d now).1 (inStep lost K A p s d now).2.1 (inStep lost K A p s d now).2.2 := by
  cases f with
  | zero => omega
  | succ f => rw [inRun, if_pos h]; rfl
theorem inStep_lt {lost K A p : Nat} {s d : Int} {now : Nat} (hn : now < 512) (hp : p < 9) : (inStep lost K A p s d now).2.2 < 512 := by
  unfold inStep
  split
  · exact hn
  · split
    · exact hn
    · exact Nat.or_lt_two_pow (n := 9) hn (two_lt hp)
theorem inRun_lt {w : Int} {lost K A : Nat} (f : Nat) {p : Nat} {s d : Int} {now : Nat} (hn : now < 512) (hp : p + f ≤ 9) : (inRun w lost K A f p s d now).2.2 < 512 := by
  induction f generalizing p s d now with
  | zero => exact hn
  | succ f ih =>
    rw [inRun]
    split
    · exact ih (inStep_lt hn (by omega)) (by omega)
    · exact hn
theorem inRun_bd {w : Int} {lost K A : Nat} (f : Nat) {p : Nat} {s d : Int} {now : Nat} : s ≤ (inRun w lost K A f p s d now).1 ∧ (inRun w lost K A f p s d now).1 ≤ s + f ∧ d ≤ (inRun w lost K A f p s d now).2.1 ∧ (inRun w lost K A f p s d now).2.1 ≤ d + f := by
  induction f generalizing p s d now with
  | zero => simp [inRun]
  | succ f ih =>
    rw [inRun]
    split
    · have := ih (p := p + 1) (s := (inStep lost K A p s d now).1) (d := (inStep lost K A p s d now).2.1) (now := (inStep lost K A p s d now).2.2)
      have h1 : s ≤ (inStep lost K A p s d now).1 ∧ (inStep lost K A p s d now).1 ≤ s + 1 ∧ d ≤ (inStep lost K A p s d now).2.1 ∧ (inStep lost K A p s d now).2.1 ≤ d + 1 := by
        unfold inStep; split
        · simp only; omega
        · split
          · simp only; omega
          · simp only; split <;> omega
      omega
    · simp only; omega
structure AckS where
  arr : Nat
  kn : Nat
  rounds : Int
  sent : Int
  dbl : Int
def lostAt (sc : List Int) (r : Int) : Nat := (sc.getD r.toNat 0).toNat
def ackStep (n w : Int) (sc : List Int) (x : AckS) : AckS :=
  let r := inRun w (lostAt sc x.rounds) x.kn x.arr n.toNat 0 0 x.dbl x.arr
  ⟨r.2.2, if lostAt sc x.rounds < 512 then r.2.2 else x.kn, x.rounds + 1, x.sent + r.1, r.2.1⟩
def ackRun (n w : Int) (sc : List Int) : Nat → AckS → AckS
  | 0, x => x
  | f + 1, x => if x.kn = 2 ^ n.toNat - 1 then x else ackRun n w sc f (ackStep n w sc x)
theorem ackRun_stop {n w : Int} {sc : List Int} {f : Nat} {x : AckS} (h : f = 0 ∨ x.kn = 2 ^ n.toNat - 1) : ackRun n w sc f x = x := by
  cases f with
  | zero => rfl
  | succ f => rw [ackRun, if_pos (h.resolve_left (by omega))]
theorem ackRun_go {n w : Int} {sc : List Int} {f : Nat} {x : AckS} (hf : 0 < f) (h : x.kn ≠ 2 ^ n.toNat - 1) : ackRun n w sc f x = ackRun n w sc (f - 1) (ackStep n w sc x) := by
  cases f with
  | zero => omega
  | succ f => rw [ackRun, if_neg h]; rfl
theorem lost_lt {sc : List Int} (h : AckOk sc) (r : Int) : lostAt sc r < 1024 := by
  unfold lostAt
  rw [List.getD_eq_getElem?_getD]
  cases he : sc[r.toNat]? with
  | none => decide
  | some x => have := h.2 x (List.mem_of_getElem? he); simp only [Option.getD_some]; omega
theorem lost_some {sc : List Int} (h : AckOk sc) {r x : Int} {k : Nat} (hk : k = r.toNat) (hx : sc[k]? = some x) : x = (lostAt sc r : Int) := by
  unfold lostAt
  subst hk
  have := h.2 x (List.mem_of_getElem? hx)
  rw [List.getD_eq_getElem?_getD, hx, Option.getD_some]; omega
theorem lost_none {sc : List Int} {r : Int} (h0 : 0 ≤ r) (h : ¬ r < (sc.length : Int)) : (0 : Int) = (lostAt sc r : Int) := by
  unfold lostAt
  rw [List.getD_eq_getElem?_getD, List.getElem?_eq_none (by omega)]; rfl
abbrev ackZ : AckS := ⟨0, 0, 0, 0, 0⟩


theorem tbi2 {m p : Nat} {x : Int} (hx : x = (m : Int)) (hm : m < 1024) (hp : p < 10) : bits .and .i64 (shrT x (p : Int)) 1 = 1 ↔ m.testBit p = true := by
  subst hx; exact tbi hm hp
theorem in_known {lost K A p : Nat} {s d : Int} {now : Nat} (hK : K.testBit p = true) : inStep lost K A p s d now = (s, d, now) := by rw [inStep, if_pos hK]
theorem in_lost {lost K A p : Nat} {s d : Int} {now : Nat} (hK : ¬ K.testBit p = true) (hl : lost.testBit p = true) : inStep lost K A p s d now = (s + 1, d, now) := by rw [inStep, if_neg hK, if_pos hl]
theorem in_new {lost K A p : Nat} {s d : Int} {now : Nat} (hK : ¬ K.testBit p = true) (hl : ¬ lost.testBit p = true) (ha : A.testBit p = true) : inStep lost K A p s d now = (s + 1, d + 1, now ||| 2 ^ p) := by rw [inStep, if_neg hK, if_neg hl, if_pos ha]
theorem in_first {lost K A p : Nat} {s d : Int} {now : Nat} (hK : ¬ K.testBit p = true) (hl : ¬ lost.testBit p = true) (ha : ¬ A.testBit p = true) : inStep lost K A p s d now = (s + 1, d, now ||| 2 ^ p) := by rw [inStep, if_neg hK, if_neg hl, if_neg ha]
/-- one part more -/
theorem in_next {w : Int} {lost K A n p : Nat} {s d s' d' : Int} {now now' : Nat} {R : Int × Int × Nat} (hr : inRun w lost K A (n - p) p s d now = R) (hp : p < n) (hs : s < w) (e : inStep lost K A p s d now = (s', d', now')) : inRun w lost K A (n - (p + 1)) (p + 1) s' d' now' = R := by
  rw [inRun_go (by omega) hs, e] at hr
  rw [← hr]; congr 1
theorem in_done {w : Int} {lost K A n p : Nat} {s d : Int} {now : Nat} {R : Int × Int × Nat} (hr : inRun w lost K A (n - p) p s d now = R) (h : ¬ p < n ∨ ¬ s < w) : R = (s, d, now) := by
  rw [← hr]
  exact inRun_stop (h.imp (by omega) id)
/-- one round more -/
theorem ack_next {n w : Int} {sc : List Int} {f : Nat} {x y R : AckS} (hr : ackRun n w sc f x = R) (hf : 0 < f) (hk : x.kn ≠ 2 ^ n.toNat - 1) (e : ackStep n w sc x = y) : ackRun n w sc (f - 1) y = R := by
  rw [ackRun_go hf hk, e] at hr; exact hr


theorem tb_lt {m : Nat} {x : Int} (hx : x = (m : Int)) (hm : m < 1024) : bits .and .i64 x 512 = 0 ↔ m < 512 := by
  subst hx; exact tb_512 ⟨m, hm⟩

set_option maxRecDepth 10000 in
set_option maxHeartbeats 4000000 in
theorem impl_runRounds_ok (n : Int) (w : Int) (v_script : Value) (script : List Int) (k : Int) (h : Heap) (s_script : Sl h v_script script) (hn : 1 ≤ n ∧ n ≤ 9) (hw : 1 ≤ w ∧ w ≤ 9) (hack : AckOk script) (hk : 0 ≤ k ∧ k ≤ 1000) : Cn f_impl_runRounds [.int .i64 n, .int .i64 w, v_script, .int .i64 k] h fun v h' => v = .agg #[.int .u64 ((ackRun n w script k.toNat ackZ).arr : Int), .int .u64 ((ackRun n w script k.toNat ackZ).kn : Int), .int .i64 (ackRun n w script k.toNat ackZ).rounds, .int .i64 (ackRun n w script k.toNat ackZ).sent, .int .i64 (ackRun n w script k.toNat ackZ).dbl] ∧ Ext h h' := by
  have lt_script := s_script.lt
  have l63_script := s_script.len63
  refine calls_of r_impl_runRounds ?_
  refine v_seq ?_
  refine v_ops ?_
  refine s_new (fun h2 b1 hbb1 hzb1 eh2 bxb1 => ?_)
  have E3 := (Ext.refl h).trans eh2
  have z4 := eh2.size
  have lbb1 := bxb1.lt
  refine s_nil ?_
  refine p_seqN ?_
  refine v_seq ?_
  refine v_ops ?_
  refine s_new (fun h6 b5 hbb5 hzb5 eh6 bxb5 => ?_)
  have E7 := E3.trans eh6
  have z8 := eh6.size
  have lbb5 := bxb5.lt
  refine s_nil ?_
  refine p_seqN ?_
  refine v_seq ?_
  refine v_seq ?_
  refine v_ops ?_
  refine s_pure (.int .i64 n) (fun _ q => q) ?_
  refine s_pure (.int .u64 ((2 ^ n.toNat : Nat) : Int)) (fun _ q => shl_vc (p := n.toNat) (by omega) (by omega) q) ?_
  refine s_pure (.int .u64 ((2 ^ n.toNat - 1 : Nat) : Int)) (fun _ q => sub_vc (by omega) q) ?_
  refine s_pure (.int .u64 ((2 ^ n.toNat - 1 : Nat) : Int)) (fun _ q => q) ?_
  refine s_nil ?_
  refine p_seqN ?_
  refine v_block ?_
  have f10 := (bxb1.ext eh6)
  refine v_loop5 (α := Nat) (β := Nat) (γ := Int) (δ := Int) (ε := Int) (fun arr kn rd sent dbl => [(0, .int .i64 n), (1, .int .i64 w), (2, v_script), (3, .int .i64 k), (8, .pointer (some ⟨b1, 0, none⟩)), (9, .pointer (some ⟨b5, 0, none⟩)), (10, .int .u64 ((2 ^ n.toNat - 1 : Nat) : Int))]) (fun arr kn rd sent dbl hh => Ext h hh ∧ Bx hh b1 [.int .u64 0, .int .u64 0, .int .i64 0, .int .i64 0, .int .i64 0] 37 ∧ Bx hh b5 [.int .u64 (arr : Int), .int .u64 (kn : Int), .int .i64 rd, .int .i64 sent, .int .i64 dbl] 37 ∧ ackRun n w script (k - rd).toNat ⟨arr, kn, rd, sent, dbl⟩ = ackRun n w script k.toNat ackZ ∧ 0 ≤ rd ∧ rd ≤ k ∧ arr < 512 ∧ kn < 512 ∧ (0 ≤ sent ∧ sent ≤ 9 * rd) ∧ 0 ≤ dbl ∧ dbl ≤ 9 * rd) (fun arr kn rd sent dbl => (k - rd).toNat) 0 0 0 0 0 ⟨rfl, rfl, rfl, rfl, rfl, rfl, rfl⟩ ⟨E7, f10, bxb5, (by exact ⟨by simp, by omega, by omega, by omega, by omega, by omega, by omega, by omega⟩)⟩ ?_
  rintro arr kn rd sent dbl R11 h9 ⟨Eh, bxb1, bxb5, ⟨hrun, hr0, hrk, harr, hkn, hsent, hdbl⟩⟩
  have zEh := Eh.size
  have f12 := s_script.ext Eh
  have lbb1 := bxb1.lt
  have lbb5 := bxb5.lt
  refine v_seq ?_
  refine v_seq ?_
  refine v_ops ?_
  refine s_pure (.pointer (some ⟨b5, 1, none⟩)) (fun _ q => q) ?_
  refine s_load (.int .u64 (kn : Int)) (fun _ q => bxb5.load rfl q) ?_
  refine s_pure (.int .u64 ((2 ^ n.toNat - 1 : Nat) : Int)) (fun _ q => q) ?_
  refine s_pure (.bool ((kn : Int) != ((2 ^ n.toNat - 1 : Nat) : Int))) (fun _ q => CmpVC.mk q) ?_
  refine s_pure (.bool ((kn : Int) != ((2 ^ n.toNat - 1 : Nat) : Int))) (fun _ q => q) ?_
  refine s_splitT rfl (fun c13 => ?_) (fun c13 => ?_)
  ·
    refine s_run rfl ?_
    refine s_pure (.pointer (some ⟨b5, 2, none⟩)) (fun _ q => q) ?_
    refine s_run rfl ?_
    refine s_load (.int .i64 rd) (fun _ q => bxb5.load rfl q) ?_
    refine s_run rfl ?_
    refine s_pure (.int .i64 k) (fun _ q => q) ?_
    refine s_run rfl ?_
    refine s_pure (.bool (decide (rd < k))) (fun _ q => q) ?_
    refine s_pure (.bool (decide (rd < k))) (fun _ q => q) ?_
    refine s_nil ?_
    refine p_seqN ?_
    refine v_cond rfl (fun c14 => ?_) (fun c14 => ?_)
    ·
      refine v_skip ?_
      refine p_seqN ?_
      refine v_seq ?_
      refine v_block ?_
      refine v_seq ?_
      refine v_ops ?_
      refine s_pure (.int .i64 0) (fun _ q => q) ?_
      refine s_nil ?_
      refine p_seqN ?_
      refine v_seq ?_
      refine v_seq ?_
      refine v_ops ?_
      refine s_pure (.pointer (some ⟨b5, 2, none⟩)) (fun _ q => q) ?_
      refine s_load (.int .i64 rd) (fun _ q => bxb5.load rfl q) ?_
      refine s_pure v_script (fun _ q => q) ?_
      refine s_pure (.int .i64 (script.length : Int)) (fun _ q => f12.lenVC q) ?_
      refine s_pure (.bool (decide (rd < (script.length : Int)))) (fun _ q => q) ?_
      refine s_nil ?_
      refine p_seqN ?_
      refine v_cond rfl (fun c15 => ?_) (fun c15 => ?_)
      ·
        refine v_ops ?_
        refine s_pure v_script (fun _ q => q) ?_
        refine s_pure (.pointer (some ⟨b5, 2, none⟩)) (fun _ q => q) ?_
        refine s_load (.int .i64 rd) (fun _ q => bxb5.load rfl q) ?_
        have hk16 : (rd).toNat < script.length := (by first | omega | (simp; omega))
        obtain ⟨x17, hx17⟩ : ∃ x, script[(rd).toNat]? = some x := ⟨_, List.getElem?_eq_getElem hk16⟩
        refine s_pure (.pointer (some ⟨sblk v_script, soff v_script + ((rd).toNat) * 1, none⟩)) (fun _ q => f12.idx (k := (rd).toNat) (by omega) hk16 q) ?_
        refine s_load (.int .i64 x17) (fun _ q => f12.load1 hx17 rfl q) ?_
        refine s_pure (.int .i64 x17) (fun _ q => q) ?_
        refine s_nil ?_
        refine p_seqN ?_
        refine v_seq ?_
        refine v_ops ?_
        refine s_pure (.pointer (some ⟨b5, 0, none⟩)) (fun _ q => q) ?_
        refine s_load (.int .u64 (arr : Int)) (fun _ q => bxb5.load rfl q) ?_
        refine s_pure (.int .u64 (arr : Int)) (fun _ q => q) ?_
        refine s_nil ?_
        refine p_seqN ?_
        refine v_seq ?_
        refine v_seq ?_
        refine v_ops ?_
        refine s_pure (.int .i64 w) (fun _ q => q) ?_
        refine s_pure (.int .i64 0) (fun _ q => q) ?_
        refine s_pure (.int .i64 w) (fun _ q => q) ?_
        refine s_nil ?_
        refine p_seqN ?_
        refine v_block ?_
        have hL : x17 = (lostAt script rd : Int) := by first | exact lost_some hack rfl (by assumption) | exact lost_none hr0 (by omega)
        have hL2 := lost_lt hack rd
        refine v_loop5 (α := Nat) (β := Int) (γ := Int) (δ := Int) (ε := Nat) (fun p lf sn d now => [(0, .int .i64 n), (1, .int .i64 w), (2, v_script), (3, .int .i64 k), (8, .pointer (some ⟨b1, 0, none⟩)), (9, .pointer (some ⟨b5, 0, none⟩)), (10, .int .u64 ((2 ^ n.toNat - 1 : Nat) : Int)), (11, .int .i64 x17), (12, .int .u64 (now : Int)), (13, .int .i64 (p : Int)), (14, .int .i64 lf), (23, .pointer (some ⟨b5, 2, none⟩)), (24, .int .i64 rd), (25, .int .i64 k), (26, .bool (decide (rd < k)))]) (fun p lf sn d now hh => Ext h hh ∧ Bx hh b1 [.int .u64 0, .int .u64 0, .int .i64 0, .int .i64 0, .int .i64 0] 37 ∧ Bx hh b5 [.int .u64 (arr : Int), .int .u64 (kn : Int), .int .i64 rd, .int .i64 sn, .int .i64 d] 37 ∧ p ≤ n.toNat ∧ inRun w (lostAt script rd) kn arr (n.toNat - p) p (w - lf) d now = inRun w (lostAt script rd) kn arr n.toNat 0 0 dbl arr ∧ sn = sent + (w - lf) ∧ (0 ≤ lf ∧ lf ≤ w) ∧ now < 512 ∧ dbl ≤ d ∧ d ≤ dbl + p) (fun p lf sn d now => n.toNat - p) 0 w sent dbl arr ⟨rfl, rfl, rfl, rfl, rfl, rfl, rfl, rfl, rfl, rfl, rfl, rfl, rfl, rfl, rfl⟩ ⟨Eh, bxb1, bxb5, (by refine ⟨by omega, by simp, by omega, by omega, harr, by omega, by omega⟩)⟩ ?_
        rintro p lf sn d now R19 h18 ⟨Eh, bxb1, bxb5, ⟨hp, hin, hsn, hlf, hnow, hd0, hd1⟩⟩
        have zEh := Eh.size
        have f20 := s_script.ext Eh
        have lbb1 := bxb1.lt
        have lbb5 := bxb5.lt
        have hp9 : p ≤ 9 := by omega
        have hbK := tbu (p := p) hkn (by omega)
        have hbA := tbu (p := p) harr (by omega)
        have hbL := tbi2 (p := p) hL hL2 (by omega)
        refine v_seq ?_
        refine v_seq ?_
        refine v_ops ?_
        refine s_pure (.int .i64 (p : Int)) (fun _ q => q) ?_
        refine s_pure (.int .i64 n) (fun _ q => q) ?_
        refine s_pure (.bool (decide ((p : Int) < n))) (fun _ q => q) ?_
        refine s_pure (.bool (decide ((p : Int) < n))) (fun _ q => q) ?_
        refine s_splitT rfl (fun c21 => ?_) (fun c21 => ?_)
        ·
          refine s_run rfl ?_
          refine s_pure (.int .i64 lf) (fun _ q => q) ?_
          refine s_run rfl ?_
          refine s_pure (.bool (decide (lf > 0))) (fun _ q => q) ?_
          refine s_pure (.bool (decide (lf > 0))) (fun _ q => q) ?_
          refine s_nil ?_
          refine p_seqN ?_
          refine v_cond rfl (fun c22 => ?_) (fun c22 => ?_)
          ·
            refine v_skip ?_
            refine p_seqN ?_
            refine v_seq ?_
            refine v_block ?_
            refine v_seq ?_
            refine v_seq ?_
            refine v_ops ?_
            refine s_pure (.pointer (some ⟨b5, 1, none⟩)) (fun _ q => q) ?_
            refine s_load (.int .u64 (kn : Int)) (fun _ q => bxb5.load rfl q) ?_
            refine s_pure (.int .i64 (p : Int)) (fun _ q => q) ?_
            refine s_pure (.int .u64 (shrT (kn : Int) (p : Int))) (fun _ q => shr_vc (by omega) rfl q) ?_
            refine s_pure (.int .u64 (bits .and .u64 (shrT (kn : Int) (p : Int)) 1)) (fun _ q => BitsVC.mk q) ?_
            refine s_pure (.bool ((bits .and .u64 (shrT (kn : Int) (p : Int)) 1) == 1)) (fun _ q => CmpVC.mk q) ?_
            refine s_nil ?_
            refine p_seqN ?_
            refine v_cond rfl (fun c23 => ?_) (fun c23 => ?_)
            ·
              refine v_exit ?_
              refine p_seqX ?_
              refine p_blkX ?_
              refine p_seqN ?_
              refine v_ops ?_
              refine s_pure (.int .i64 (p : Int)) (fun _ q => q) ?_
              refine s_pure (.int .i64 ((p : Int) + 1)) (fun _ q => ArithVC.mk (by omega) q) ?_
              refine s_pure (.int .i64 ((p : Int) + 1)) (fun _ q => q) ?_
              refine s_nil ?_
              exact p_lpN ⟨p + 1, lf, sn, d, now, ⟨rfl, rfl, rfl, rfl, rfl, rfl, rfl, rfl, rfl, rfl, rfl, rfl, rfl, rfl, rfl⟩, ⟨Eh, bxb1, bxb5, (by first | ((have e3 := in_next hin (by omega) (by omega) (in_known (hbK.1 (by assumption)))); refine ⟨by omega, ?_, by omega, by omega, ?_, by omega, by omega⟩; all_goals first | omega | exact Nat.or_lt_two_pow (n := 9) hnow (two_lt (by omega)) | exact e3 | (rw [← e3]; congr 1; omega)) | ((have e3 := in_next hin (by omega) (by omega) (in_lost (fun hc => absurd (hbK.2 hc) (by assumption)) (hbL.1 (by assumption)))); refine ⟨by omega, ?_, by omega, by omega, ?_, by omega, by omega⟩; all_goals first | omega | exact Nat.or_lt_two_pow (n := 9) hnow (two_lt (by omega)) | exact e3 | (rw [← e3]; congr 1; omega)) | ((have e3 := in_next hin (by omega) (by omega) (in_new (fun hc => absurd (hbK.2 hc) (by assumption)) (fun hc => absurd (hbL.2 hc) (by assumption)) (hbA.1 (by assumption)))); refine ⟨by omega, ?_, by omega, by omega, ?_, by omega, by omega⟩; all_goals first | omega | exact Nat.or_lt_two_pow (n := 9) hnow (two_lt (by omega)) | exact e3 | (rw [← e3]; congr 1; omega)) | ((have e3 := in_next hin (by omega) (by omega) (in_first (fun hc => absurd (hbK.2 hc) (by assumption)) (fun hc => absurd (hbL.2 hc) (by assumption)) (fun hc => absurd (hbA.2 hc) (by assumption)))); refine ⟨by omega, ?_, by omega, by omega, ?_, by omega, by omega⟩; all_goals first | omega | exact Nat.or_lt_two_pow (n := 9) hnow (two_lt (by omega)) | exact e3 | (rw [← e3]; congr 1; omega)))⟩, by omega⟩
            ·
              refine v_skip ?_
              refine p_seqN ?_
              refine v_seq ?_
              refine v_ops ?_
              refine s_pure (.int .i64 lf) (fun _ q => q) ?_
              refine s_pure (.int .i64 (lf - 1)) (fun _ q => ArithVC.mk (by omega) q) ?_
              refine s_pure (.int .i64 (lf - 1)) (fun _ q => q) ?_
              refine s_nil ?_
              refine p_seqN ?_
              refine v_seq ?_
              refine v_ops ?_
              refine s_pure (.pointer (some ⟨b5, 3, none⟩)) (fun _ q => q) ?_
              refine s_load (.int .i64 sn) (fun _ q => bxb5.load rfl q) ?_
              refine s_pure (.int .i64 (sn + 1)) (fun _ q => ArithVC.mk (by omega) q) ?_
              refine s_pure (.pointer (some ⟨b5, 3, none⟩)) (fun _ q => q) ?_
              refine s_stBx (.int .i64 (sn + 1)) [.int .i64 (sn + 1)] [.int .u64 (arr : Int), .int .u64 (kn : Int), .int .i64 rd, .int .i64 (sn + 1), .int .i64 d] bxb5 rfl rfl rfl rfl (by simp) (all_cons rfl all_nil) rfl (fun h24 mh24 sh24 bxx25 => ?_)
              have E26 := Eh.mod mh24 (fun b hb => by simp at hb; omega)
              refine s_nil ?_
              refine p_seqN ?_
              refine v_seq ?_
              refine v_seq ?_
              refine v_ops ?_
              refine s_pure (.int .i64 x17) (fun _ q => q) ?_
              refine s_pure (.int .i64 (p : Int)) (fun _ q => q) ?_
              refine s_pure (.int .i64 (shrT x17 (p : Int))) (fun _ q => shr_vc (by omega) rfl q) ?_
              refine s_pure (.int .i64 (bits .and .i64 (shrT x17 (p : Int)) 1)) (fun _ q => BitsVC.mk q) ?_
              refine s_pure (.bool ((bits .and .i64 (shrT x17 (p : Int)) 1) == 1)) (fun _ q => q) ?_
              refine s_nil ?_
              refine p_seqN ?_
              refine v_cond rfl (fun c27 => ?_) (fun c27 => ?_)
              ·
                refine v_exit ?_
                refine p_seqX ?_
                refine p_blkX ?_
                refine p_seqN ?_
                refine v_ops ?_
                refine s_pure (.int .i64 (p : Int)) (fun _ q => q) ?_
                refine s_pure (.int .i64 ((p : Int) + 1)) (fun _ q => ArithVC.mk (by omega) q) ?_
                refine s_pure (.int .i64 ((p : Int) + 1)) (fun _ q => q) ?_
                refine s_nil ?_
                have f28 := (bxb1.mod mh24 (by simp; omega))
                exact p_lpN ⟨p + 1, (lf - 1), (sn + 1), d, now, ⟨rfl, rfl, rfl, rfl, rfl, rfl, rfl, rfl, rfl, rfl, rfl, rfl, rfl, rfl, rfl⟩, ⟨E26, f28, bxx25, (by first | ((have e3 := in_next hin (by omega) (by omega) (in_known (hbK.1 (by assumption)))); refine ⟨by omega, ?_, by omega, by omega, ?_, by omega, by omega⟩; all_goals first | omega | exact Nat.or_lt_two_pow (n := 9) hnow (two_lt (by omega)) | exact e3 | (rw [← e3]; congr 1; omega)) | ((have e3 := in_next hin (by omega) (by omega) (in_lost (fun hc => absurd (hbK.2 hc) (by assumption)) (hbL.1 (by assumption)))); refine ⟨by omega, ?_, by omega, by omega, ?_, by omega, by omega⟩; all_goals first | omega | exact Nat.or_lt_two_pow (n := 9) hnow (two_lt (by omega)) | exact e3 | (rw [← e3]; congr 1; omega)) | ((have e3 := in_next hin (by omega) (by omega) (in_new (fun hc => absurd (hbK.2 hc) (by assumption)) (fun hc => absurd (hbL.2 hc) (by assumption)) (hbA.1 (by assumption)))); refine ⟨by omega, ?_, by omega, by omega, ?_, by omega, by omega⟩; all_goals first | omega | exact Nat.or_lt_two_pow (n := 9) hnow (two_lt (by omega)) | exact e3 | (rw [← e3]; congr 1; omega)) | ((have e3 := in_next hin (by omega) (by omega) (in_first (fun hc => absurd (hbK.2 hc) (by assumption)) (fun hc => absurd (hbL.2 hc) (by assumption)) (fun hc => absurd (hbA.2 hc) (by assumption)))); refine ⟨by omega, ?_, by omega, by omega, ?_, by omega, by omega⟩; all_goals first | omega | exact Nat.or_lt_two_pow (n := 9) hnow (two_lt (by omega)) | exact e3 | (rw [← e3]; congr 1; omega)))⟩, by omega⟩
              ·
                refine v_skip ?_
                refine p_seqN ?_
                refine v_seq ?_
                refine v_seq ?_
                refine v_ops ?_
                refine s_pure (.pointer (some ⟨b5, 0, none⟩)) (fun _ q => q) ?_
                refine s_load (.int .u64 (arr : Int)) (fun _ q => bxx25.load rfl q) ?_
                refine s_pure (.int .i64 (p : Int)) (fun _ q => q) ?_
                refine s_pure (.int .u64 (shrT (arr : Int) (p : Int))) (fun _ q => shr_vc (by omega) rfl q) ?_
                refine s_pure (.int .u64 (bits .and .u64 (shrT (arr : Int) (p : Int)) 1)) (fun _ q => BitsVC.mk q) ?_
                refine s_pure (.bool ((bits .and .u64 (shrT (arr : Int) (p : Int)) 1) == 1)) (fun _ q => CmpVC.mk q) ?_
                refine s_nil ?_
                refine p_seqN ?_
                refine v_cond rfl (fun c29 => ?_) (fun c29 => ?_)
                ·
                  refine v_ops ?_
                  refine s_pure (.pointer (some ⟨b5, 4, none⟩)) (fun _ q => q) ?_
                  refine s_load (.int .i64 d) (fun _ q => bxx25.load rfl q) ?_
                  refine s_pure (.int .i64 (d + 1)) (fun _ q => ArithVC.mk (by omega) q) ?_
                  refine s_pure (.pointer (some ⟨b5, 4, none⟩)) (fun _ q => q) ?_
                  refine s_stBx (.int .i64 (d + 1)) [.int .i64 (d + 1)] [.int .u64 (arr : Int), .int .u64 (kn : Int), .int .i64 rd, .int .i64 (sn + 1), .int .i64 (d + 1)] bxx25 rfl rfl rfl rfl (by simp) (all_cons rfl all_nil) rfl (fun h30 mh30 sh30 bxx31 => ?_)
                  have E32 := E26.mod mh30 (fun b hb => by simp at hb; omega)
                  refine s_nil ?_
                  refine p_seqN ?_
                  refine v_ops ?_
                  refine s_pure (.int .u64 (now : Int)) (fun _ q => q) ?_
                  refine s_pure (.int .i64 (p : Int)) (fun _ q => q) ?_
                  refine s_pure (.int .u64 ((2 ^ p : Nat) : Int)) (fun _ q => shl_vc (p := p) rfl (by omega) q) ?_
                  refine s_pure (.int .u64 (((now) ||| (2 ^ p) : Nat) : Int)) (fun _ q => or_vc (by omega) (two_lt (by omega)) q) ?_
                  refine s_pure (.int .u64 (((now) ||| (2 ^ p) : Nat) : Int)) (fun _ q => q) ?_
                  refine s_nil ?_
                  refine p_blkN ?_
                  refine p_seqN ?_
                  refine v_ops ?_
                  refine s_pure (.int .i64 (p : Int)) (fun _ q => q) ?_
                  refine s_pure (.int .i64 ((p : Int) + 1)) (fun _ q => ArithVC.mk (by omega) q) ?_
                  refine s_pure (.int .i64 ((p : Int) + 1)) (fun _ q => q) ?_
                  refine s_nil ?_
                  have f33 := ((bxb1.mod mh24 (by simp; omega)).mod mh30 (by simp; omega))
                  exact p_lpN ⟨p + 1, (lf - 1), (sn + 1), (d + 1), ((now) ||| (2 ^ p)), ⟨rfl, rfl, rfl, rfl, rfl, rfl, rfl, rfl, rfl, rfl, rfl, rfl, rfl, rfl, rfl⟩, ⟨E32, f33, bxx31, (by first | ((have e3 := in_next hin (by omega) (by omega) (in_known (hbK.1 (by assumption)))); refine ⟨by omega, ?_, by omega, by omega, ?_, by omega, by omega⟩; all_goals first | omega | exact Nat.or_lt_two_pow (n := 9) hnow (two_lt (by omega)) | exact e3 | (rw [← e3]; congr 1; omega)) | ((have e3 := in_next hin (by omega) (by omega) (in_lost (fun hc => absurd (hbK.2 hc) (by assumption)) (hbL.1 (by assumption)))); refine ⟨by omega, ?_, by omega, by omega, ?_, by omega, by omega⟩; all_goals first | omega | exact Nat.or_lt_two_pow (n := 9) hnow (two_lt (by omega)) | exact e3 | (rw [← e3]; congr 1; omega)) | ((have e3 := in_next hin (by omega) (by omega) (in_new (fun hc => absurd (hbK.2 hc) (by assumption)) (fun hc => absurd (hbL.2 hc) (by assumption)) (hbA.1 (by assumption)))); refine ⟨by omega, ?_, by omega, by omega, ?_, by omega, by omega⟩; all_goals first | omega | exact Nat.or_lt_two_pow (n := 9) hnow (two_lt (by omega)) | exact e3 | (rw [← e3]; congr 1; omega)) | ((have e3 := in_next hin (by omega) (by omega) (in_first (fun hc => absurd (hbK.2 hc) (by assumption)) (fun hc => absurd (hbL.2 hc) (by assumption)) (fun hc => absurd (hbA.2 hc) (by assumption)))); refine ⟨by omega, ?_, by omega, by omega, ?_, by omega, by omega⟩; all_goals first | omega | exact Nat.or_lt_two_pow (n := 9) hnow (two_lt (by omega)) | exact e3 | (rw [← e3]; congr 1; omega)))⟩, by omega⟩
                ·
                  refine v_skip ?_
                  refine p_seqN ?_
                  refine v_ops ?_
                  refine s_pure (.int .u64 (now : Int)) (fun _ q => q) ?_
                  refine s_pure (.int .i64 (p : Int)) (fun _ q => q) ?_
                  refine s_pure (.int .u64 ((2 ^ p : Nat) : Int)) (fun _ q => shl_vc (p := p) rfl (by omega) q) ?_
                  refine s_pure (.int .u64 (((now) ||| (2 ^ p) : Nat) : Int)) (fun _ q => or_vc (by omega) (two_lt (by omega)) q) ?_
                  refine s_pure (.int .u64 (((now) ||| (2 ^ p) : Nat) : Int)) (fun _ q => q) ?_
                  refine s_nil ?_
                  refine p_blkN ?_
                  refine p_seqN ?_
                  refine v_ops ?_
                  refine s_pure (.int .i64 (p : Int)) (fun _ q => q) ?_
                  refine s_pure (.int .i64 ((p : Int) + 1)) (fun _ q => ArithVC.mk (by omega) q) ?_
                  refine s_pure (.int .i64 ((p : Int) + 1)) (fun _ q => q) ?_
                  refine s_nil ?_
                  have f34 := (bxb1.mod mh24 (by simp; omega))
                  exact p_lpN ⟨p + 1, (lf - 1), (sn + 1), d, ((now) ||| (2 ^ p)), ⟨rfl, rfl, rfl, rfl, rfl, rfl, rfl, rfl, rfl, rfl, rfl, rfl, rfl, rfl, rfl⟩, ⟨E26, f34, bxx25, (by first | ((have e3 := in_next hin (by omega) (by omega) (in_known (hbK.1 (by assumption)))); refine ⟨by omega, ?_, by omega, by omega, ?_, by omega, by omega⟩; all_goals first | omega | exact Nat.or_lt_two_pow (n := 9) hnow (two_lt (by omega)) | exact e3 | (rw [← e3]; congr 1; omega)) | ((have e3 := in_next hin (by omega) (by omega) (in_lost (fun hc => absurd (hbK.2 hc) (by assumption)) (hbL.1 (by assumption)))); refine ⟨by omega, ?_, by omega, by omega, ?_, by omega, by omega⟩; all_goals first | omega | exact Nat.or_lt_two_pow (n := 9) hnow (two_lt (by omega)) | exact e3 | (rw [← e3]; congr 1; omega)) | ((have e3 := in_next hin (by omega) (by omega) (in_new (fun hc => absurd (hbK.2 hc) (by assumption)) (fun hc => absurd (hbL.2 hc) (by assumption)) (hbA.1 (by assumption)))); refine ⟨by omega, ?_, by omega, by omega, ?_, by omega, by omega⟩; all_goals first | omega | exact Nat.or_lt_two_pow (n := 9) hnow (two_lt (by omega)) | exact e3 | (rw [← e3]; congr 1; omega)) | ((have e3 := in_next hin (by omega) (by omega) (in_first (fun hc => absurd (hbK.2 hc) (by assumption)) (fun hc => absurd (hbL.2 hc) (by assumption)) (fun hc => absurd (hbA.2 hc) (by assumption)))); refine ⟨by omega, ?_, by omega, by omega, ?_, by omega, by omega⟩; all_goals first | omega | exact Nat.or_lt_two_pow (n := 9) hnow (two_lt (by omega)) | exact e3 | (rw [← e3]; congr 1; omega)))⟩, by omega⟩
          ·
            refine v_exit ?_
            refine p_seqX ?_
            refine p_lpX ?_
            refine p_blkX ?_
            refine p_seqN ?_
            refine v_seq ?_
            refine v_ops ?_
            refine s_pure (.int .u64 (now : Int)) (fun _ q => q) ?_
            refine s_pure (.pointer (some ⟨b5, 0, none⟩)) (fun _ q => q) ?_
            refine s_stBx (.int .u64 (now : Int)) [.int .u64 (now : Int)] [.int .u64 (now : Int), .int .u64 (kn : Int), .int .i64 rd, .int .i64 sn, .int .i64 d] bxb5 rfl rfl rfl rfl (by simp) (all_cons rfl all_nil) rfl (fun h35 mh35 sh35 bxx36 => ?_)
            have E37 := Eh.mod mh35 (fun b hb => by simp at hb; omega)
            refine s_nil ?_
            refine p_seqN ?_
            refine v_seq ?_
            refine v_ops ?_
            refine s_pure (.int .i64 x17) (fun _ q => q) ?_
            refine s_pure (.int .i64 (bits .and .i64 x17 512)) (fun _ q => BitsVC.mk q) ?_
            refine s_pure (.bool ((bits .and .i64 x17 512) == 0)) (fun _ q => q) ?_
            refine s_nil ?_
            refine p_seqN ?_
            refine v_cond rfl (fun c38 => ?_) (fun c38 => ?_)
            ·
              refine v_ops ?_
              refine s_pure (.pointer (some ⟨b5, 0, none⟩)) (fun _ q => q) ?_
              refine s_load (.int .u64 (now : Int)) (fun _ q => bxx36.load rfl q) ?_
              refine s_pure (.pointer (some ⟨b5, 1, none⟩)) (fun _ q => q) ?_
              refine s_stBx (.int .u64 (now : Int)) [.int .u64 (now : Int)] [.int .u64 (now : Int), .int .u64 (now : Int), .int .i64 rd, .int .i64 sn, .int .i64 d] bxx36 rfl rfl rfl rfl (by simp) (all_cons rfl all_nil) rfl (fun h39 mh39 sh39 bxx40 => ?_)
              have E41 := E37.mod mh39 (fun b hb => by simp at hb; omega)
              refine s_nil ?_
              refine p_blkN ?_
              refine p_seqN ?_
              refine v_ops ?_
              refine s_pure (.pointer (some ⟨b5, 2, none⟩)) (fun _ q => q) ?_
              refine s_load (.int .i64 rd) (fun _ q => bxx40.load rfl q) ?_
              refine s_pure (.int .i64 (rd + 1)) (fun _ q => ArithVC.mk (by omega) q) ?_
              refine s_pure (.pointer (some ⟨b5, 2, none⟩)) (fun _ q => q) ?_
              refine s_stBx (.int .i64 (rd + 1)) [.int .i64 (rd + 1)] [.int .u64 (now : Int), .int .u64 (now : Int), .int .i64 (rd + 1), .int .i64 sn, .int .i64 d] bxx40 rfl rfl rfl rfl (by simp) (all_cons rfl all_nil) rfl (fun h42 mh42 sh42 bxx43 => ?_)
              have E44 := E41.mod mh42 (fun b hb => by simp at hb; omega)
              refine s_nil ?_
              have f45 := (((bxb1.mod mh35 (by simp; omega)).mod mh39 (by simp; omega)).mod mh42 (by simp; omega))
              exact p_lpN ⟨now, now, (rd + 1), sn, d, ⟨rfl, rfl, rfl, rfl, rfl, rfl, rfl⟩, ⟨E44, f45, bxx43, (by (have hres := in_done hin (by first | (left; omega) | (right; omega))); (have e2 : (k - (rd + 1)).toNat = (k - rd).toNat - 1 := by omega); first | ((have e : ackStep n w script ⟨arr, kn, rd, sent, dbl⟩ = ⟨now, now, rd + 1, sn, d⟩ := by (unfold ackStep; simp only; rw [hres]; simp only [hsn]; rw [if_pos ((tb_lt hL hL2).1 (by assumption))])); exact ⟨by (rw [e2]; exact ack_next hrun (by omega) (fun hc => absurd (congrArg (fun (q : Nat) => (q : Int)) hc) (by assumption)) e), by omega, by omega, by omega, by omega, by omega, by omega, by omega⟩) | ((have e : ackStep n w script ⟨arr, kn, rd, sent, dbl⟩ = ⟨now, kn, rd + 1, sn, d⟩ := by (unfold ackStep; simp only; rw [hres]; simp only [hsn]; rw [if_neg (fun hc => absurd ((tb_lt hL hL2).2 hc) (by assumption))])); exact ⟨by (rw [e2]; exact ack_next hrun (by omega) (fun hc => absurd (congrArg (fun (q : Nat) => (q : Int)) hc) (by assumption)) e), by omega, by omega, by omega, by omega, by omega, by omega, by omega⟩))⟩, by omega⟩
            ·
              refine v_skip ?_
              refine p_blkN ?_
              refine p_seqN ?_
              refine v_ops ?_
              refine s_pure (.pointer (some ⟨b5, 2, none⟩)) (fun _ q => q) ?_
              refine s_load (.int .i64 rd) (fun _ q => bxx36.load rfl q) ?_
              refine s_pure (.int .i64 (rd + 1)) (fun _ q => ArithVC.mk (by omega) q) ?_
              refine s_pure (.pointer (some ⟨b5, 2, none⟩)) (fun _ q => q) ?_
              refine s_stBx (.int .i64 (rd + 1)) [.int .i64 (rd + 1)] [.int .u64 (now : Int), .int .u64 (kn : Int), .int .i64 (rd + 1), .int .i64 sn, .int .i64 d] bxx36 rfl rfl rfl rfl (by simp) (all_cons rfl all_nil) rfl (fun h46 mh46 sh46 bxx47 => ?_)
              have E48 := E37.mod mh46 (fun b hb => by simp at hb; omega)
              refine s_nil ?_
              have f49 := ((bxb1.mod mh35 (by simp; omega)).mod mh46 (by simp; omega))
              exact p_lpN ⟨now, kn, (rd + 1), sn, d, ⟨rfl, rfl, rfl, rfl, rfl, rfl, rfl⟩, ⟨E48, f49, bxx47, (by (have hres := in_done hin (by first | (left; omega) | (right; omega))); (have e2 : (k - (rd + 1)).toNat = (k - rd).toNat - 1 := by omega); first | ((have e : ackStep n w script ⟨arr, kn, rd, sent, dbl⟩ = ⟨now, now, rd + 1, sn, d⟩ := by (unfold ackStep; simp only; rw [hres]; simp only [hsn]; rw [if_pos ((tb_lt hL hL2).1 (by assumption))])); exact ⟨by (rw [e2]; exact ack_next hrun (by omega) (fun hc => absurd (congrArg (fun (q : Nat) => (q : Int)) hc) (by assumption)) e), by omega, by omega, by omega, by omega, by omega, by omega, by omega⟩) | ((have e : ackStep n w script ⟨arr, kn, rd, sent, dbl⟩ = ⟨now, kn, rd + 1, sn, d⟩ := by (unfold ackStep; simp only; rw [hres]; simp only [hsn]; rw [if_neg (fun hc => absurd ((tb_lt hL hL2).2 hc) (by assumption))])); exact ⟨by (rw [e2]; exact ack_next hrun (by omega) (fun hc => absurd (congrArg (fun (q : Nat) => (q : Int)) hc) (by assumption)) e), by omega, by omega, by omega, by omega, by omega, by omega, by omega⟩))⟩, by omega⟩
        ·
          refine s_pass rfl ?_
          refine s_pass rfl ?_
          refine s_pure (.bool false) (fun _ q => q) ?_
          refine s_nil ?_
          refine p_seqN ?_
          refine v_condN rfl (by simp) ?_
          refine v_exit ?_
          refine p_seqX ?_
          refine p_lpX ?_
          refine p_blkX ?_
          refine p_seqN ?_
          refine v_seq ?_
          refine v_ops ?_
          refine s_pure (.int .u64 (now : Int)) (fun _ q => q) ?_
          refine s_pure (.pointer (some ⟨b5, 0, none⟩)) (fun _ q => q) ?_
          refine s_stBx (.int .u64 (now : Int)) [.int .u64 (now : Int)] [.int .u64 (now : Int), .int .u64 (kn : Int), .int .i64 rd, .int .i64 sn, .int .i64 d] bxb5 rfl rfl rfl rfl (by simp) (all_cons rfl all_nil) rfl (fun h50 mh50 sh50 bxx51 => ?_)
          have E52 := Eh.mod mh50 (fun b hb => by simp at hb; omega)
          refine s_nil ?_
          refine p_seqN ?_
          refine v_seq ?_
          refine v_ops ?_
          refine s_pure (.int .i64 x17) (fun _ q => q) ?_
          refine s_pure (.int .i64 (bits .and .i64 x17 512)) (fun _ q => BitsVC.mk q) ?_
          refine s_pure (.bool ((bits .and .i64 x17 512) == 0)) (fun _ q => q) ?_
          refine s_nil ?_
          refine p_seqN ?_
          refine v_cond rfl (fun c53 => ?_) (fun c53 => ?_)
          ·
            refine v_ops ?_
            refine s_pure (.pointer (some ⟨b5, 0, none⟩)) (fun _ q => q) ?_
            refine s_load (.int .u64 (now : Int)) (fun _ q => bxx51.load rfl q) ?_
            refine s_pure (.pointer (some ⟨b5, 1, none⟩)) (fun _ q => q) ?_
            refine s_stBx (.int .u64 (now : Int)) [.int .u64 (now : Int)] [.int .u64 (now : Int), .int .u64 (now : Int), .int .i64 rd, .int .i64 sn, .int .i64 d] bxx51 rfl rfl rfl rfl (by simp) (all_cons rfl all_nil) rfl (fun h54 mh54 sh54 bxx55 => ?_)
            have E56 := E52.mod mh54 (fun b hb => by simp at hb; omega)
            refine s_nil ?_
            refine p_blkN ?_
            refine p_seqN ?_
            refine v_ops ?_
            refine s_pure (.pointer (some ⟨b5, 2, none⟩)) (fun _ q => q) ?_
            refine s_load (.int .i64 rd) (fun _ q => bxx55.load rfl q) ?_
            refine s_pure (.int .i64 (rd + 1)) (fun _ q => ArithVC.mk (by omega) q) ?_
            refine s_pure (.pointer (some ⟨b5, 2, none⟩)) (fun _ q => q) ?_
            refine s_stBx (.int .i64 (rd + 1)) [.int .i64 (rd + 1)] [.int .u64 (now : Int), .int .u64 (now : Int), .int .i64 (rd + 1), .int .i64 sn, .int .i64 d] bxx55 rfl rfl rfl rfl (by simp) (all_cons rfl all_nil) rfl (fun h57 mh57 sh57 bxx58 => ?_)
            have E59 := E56.mod mh57 (fun b hb => by simp at hb; omega)
            refine s_nil ?_
            have f60 := (((bxb1.mod mh50 (by simp; omega)).mod mh54 (by simp; omega)).mod mh57 (by simp; omega))
            exact p_lpN ⟨now, now, (rd + 1), sn, d, ⟨rfl, rfl, rfl, rfl, rfl, rfl, rfl⟩, ⟨E59, f60, bxx58, (by (have hres := in_done hin (by first | (left; omega) | (right; omega))); (have e2 : (k - (rd + 1)).toNat = (k - rd).toNat - 1 := by omega); first | ((have e : ackStep n w script ⟨arr, kn, rd, sent, dbl⟩ = ⟨now, now, rd + 1, sn, d⟩ := by (unfold ackStep; simp only; rw [hres]; simp only [hsn]; rw [if_pos ((tb_lt hL hL2).1 (by assumption))])); exact ⟨by (rw [e2]; exact ack_next hrun (by omega) (fun hc => absurd (congrArg (fun (q : Nat) => (q : Int)) hc) (by assumption)) e), by omega, by omega, by omega, by omega, by omega, by omega, by omega⟩) | ((have e : ackStep n w script ⟨arr, kn, rd, sent, dbl⟩ = ⟨now, kn, rd + 1, sn, d⟩ := by (unfold ackStep; simp only; rw [hres]; simp only [hsn]; rw [if_neg (fun hc => absurd ((tb_lt hL hL2).2 hc) (by assumption))])); exact ⟨by (rw [e2]; exact ack_next hrun (by omega) (fun hc => absurd (congrArg (fun (q : Nat) => (q : Int)) hc) (by assumption)) e), by omega, by omega, by omega, by omega, by omega, by omega, by omega⟩))⟩, by omega⟩
          ·
            refine v_skip ?_
            refine p_blkN ?_
            refine p_seqN ?_
            refine v_ops ?_
            refine s_pure (.pointer (some ⟨b5, 2, none⟩)) (fun _ q => q) ?_
            refine s_load (.int .i64 rd) (fun _ q => bxx51.load rfl q) ?_
            refine s_pure (.int .i64 (rd + 1)) (fun _ q => ArithVC.mk (by omega) q) ?_
            refine s_pure (.pointer (some ⟨b5, 2, none⟩)) (fun _ q => q) ?_
            refine s_stBx (.int .i64 (rd + 1)) [.int .i64 (rd + 1)] [.int .u64 (now : Int), .int .u64 (kn : Int), .int .i64 (rd + 1), .int .i64 sn, .int .i64 d] bxx51 rfl rfl rfl rfl (by simp) (all_cons rfl all_nil) rfl (fun h61 mh61 sh61 bxx62 => ?_)
            have E63 := E52.mod mh61 (fun b hb => by simp at hb; omega)
            refine s_nil ?_
            have f64 := ((bxb1.mod mh50 (by simp; omega)).mod mh61 (by simp; omega))
            exact p_lpN ⟨now, kn, (rd + 1), sn, d, ⟨rfl, rfl, rfl, rfl, rfl, rfl, rfl⟩, ⟨E63, f64, bxx62, (by (have hres := in_done hin (by first | (left; omega) | (right; omega))); (have e2 : (k - (rd + 1)).toNat = (k - rd).toNat - 1 := by omega); first | ((have e : ackStep n w script ⟨arr, kn, rd, sent, dbl⟩ = ⟨now, now, rd + 1, sn, d⟩ := by (unfold ackStep; simp only; rw [hres]; simp only [hsn]; rw [if_pos ((tb_lt hL hL2).1 (by assumption))])); exact ⟨by (rw [e2]; exact ack_next hrun (by omega) (fun hc => absurd (congrArg (fun (q : Nat) => (q : Int)) hc) (by assumption)) e), by omega, by omega, by omega, by omega, by omega, by omega, by omega⟩) | ((have e : ackStep n w script ⟨arr, kn, rd, sent, dbl⟩ = ⟨now, kn, rd + 1, sn, d⟩ := by (unfold ackStep; simp only; rw [hres]; simp only [hsn]; rw [if_neg (fun hc => absurd ((tb_lt hL hL2).2 hc) (by assumption))])); exact ⟨by (rw [e2]; exact ack_next hrun (by omega) (fun hc => absurd (congrArg (fun (q : Nat) => (q : Int)) hc) (by assumption)) e), by omega, by omega, by omega, by omega, by omega, by omega, by omega⟩))⟩, by omega⟩
      ·
        refine v_skip ?_
        refine p_seqN ?_
        refine v_seq ?_
        refine v_ops ?_
        refine s_pure (.pointer (some ⟨b5, 0, none⟩)) (fun _ q => q) ?_
        refine s_load (.int .u64 (arr : Int)) (fun _ q => bxb5.load rfl q) ?_
        refine s_pure (.int .u64 (arr : Int)) (fun _ q => q) ?_
        refine s_nil ?_
        refine p_seqN ?_
        refine v_seq ?_
        refine v_seq ?_
        refine v_ops ?_
        refine s_pure (.int .i64 w) (fun _ q => q) ?_
        refine s_pure (.int .i64 0) (fun _ q => q) ?_
        refine s_pure (.int .i64 w) (fun _ q => q) ?_
        refine s_nil ?_
        refine p_seqN ?_
        refine v_block ?_
        have hL : 0 = (lostAt script rd : Int) := by first | exact lost_some hack rfl (by assumption) | exact lost_none hr0 (by omega)
        have hL2 := lost_lt hack rd
        refine v_loop5 (α := Nat) (β := Int) (γ := Int) (δ := Int) (ε := Nat) (fun p lf sn d now => [(0, .int .i64 n), (1, .int .i64 w), (2, v_script), (3, .int .i64 k), (8, .pointer (some ⟨b1, 0, none⟩)), (9, .pointer (some ⟨b5, 0, none⟩)), (10, .int .u64 ((2 ^ n.toNat - 1 : Nat) : Int)), (11, .int .i64 0), (12, .int .u64 (now : Int)), (13, .int .i64 (p : Int)), (14, .int .i64 lf), (23, .pointer (some ⟨b5, 2, none⟩)), (24, .int .i64 rd), (25, .int .i64 k), (26, .bool (decide (rd < k)))]) (fun p lf sn d now hh => Ext h hh ∧ Bx hh b1 [.int .u64 0, .int .u64 0, .int .i64 0, .int .i64 0, .int .i64 0] 37 ∧ Bx hh b5 [.int .u64 (arr : Int), .int .u64 (kn : Int), .int .i64 rd, .int .i64 sn, .int .i64 d] 37 ∧ p ≤ n.toNat ∧ inRun w (lostAt script rd) kn arr (n.toNat - p) p (w - lf) d now = inRun w (lostAt script rd) kn arr n.toNat 0 0 dbl arr ∧ sn = sent + (w - lf) ∧ (0 ≤ lf ∧ lf ≤ w) ∧ now < 512 ∧ dbl ≤ d ∧ d ≤ dbl + p) (fun p lf sn d now => n.toNat - p) 0 w sent dbl arr ⟨rfl, rfl, rfl, rfl, rfl, rfl, rfl, rfl, rfl, rfl, rfl, rfl, rfl, rfl, rfl⟩ ⟨Eh, bxb1, bxb5, (by refine ⟨by omega, by simp, by omega, by omega, harr, by omega, by omega⟩)⟩ ?_
        rintro p lf sn d now R66 h65 ⟨Eh, bxb1, bxb5, ⟨hp, hin, hsn, hlf, hnow, hd0, hd1⟩⟩
        have zEh := Eh.size
        have f67 := s_script.ext Eh
        have lbb1 := bxb1.lt
        have lbb5 := bxb5.lt
        have hp9 : p ≤ 9 := by omega
        have hbK := tbu (p := p) hkn (by omega)
        have hbA := tbu (p := p) harr (by omega)
        have hbL := tbi2 (p := p) hL hL2 (by omega)
        refine v_seq ?_
        refine v_seq ?_
        refine v_ops ?_
        refine s_pure (.int .i64 (p : Int)) (fun _ q => q) ?_
        refine s_pure (.int .i64 n) (fun _ q => q) ?_
        refine s_pure (.bool (decide ((p : Int) < n))) (fun _ q => q) ?_
        refine s_pure (.bool (decide ((p : Int) < n))) (fun _ q => q) ?_
        refine s_splitT rfl (fun c68 => ?_) (fun c68 => ?_)
        ·
          refine s_run rfl ?_
          refine s_pure (.int .i64 lf) (fun _ q => q) ?_
          refine s_run rfl ?_
          refine s_pure (.bool (decide (lf > 0))) (fun _ q => q) ?_
          refine s_pure (.bool (decide (lf > 0))) (fun _ q => q) ?_
          refine s_nil ?_
          refine p_seqN ?_
          refine v_cond rfl (fun c69 => ?_) (fun c69 => ?_)
          ·
            refine v_skip ?_
            refine p_seqN ?_
            refine v_seq ?_
            refine v_block ?_
            refine v_seq ?_
            refine v_seq ?_
            refine v_ops ?_
            refine s_pure (.pointer (some ⟨b5, 1, none⟩)) (fun _ q => q) ?_
            refine s_load (.int .u64 (kn : Int)) (fun _ q => bxb5.load rfl q) ?_
            refine s_pure (.int .i64 (p : Int)) (fun _ q => q) ?_
            refine s_pure (.int .u64 (shrT (kn : Int) (p : Int))) (fun _ q => shr_vc (by omega) rfl q) ?_
            refine s_pure (.int .u64 (bits .and .u64 (shrT (kn : Int) (p : Int)) 1)) (fun _ q => BitsVC.mk q) ?_
            refine s_pure (.bool ((bits .and .u64 (shrT (kn : Int) (p : Int)) 1) == 1)) (fun _ q => CmpVC.mk q) ?_
            refine s_nil ?_
            refine p_seqN ?_
            refine v_cond rfl (fun c70 => ?_) (fun c70 => ?_)
            ·
              refine v_exit ?_
              refine p_seqX ?_
              refine p_blkX ?_
              refine p_seqN ?_
              refine v_ops ?_
              refine s_pure (.int .i64 (p : Int)) (fun _ q => q) ?_
              refine s_pure (.int .i64 ((p : Int) + 1)) (fun _ q => ArithVC.mk (by omega) q) ?_
              refine s_pure (.int .i64 ((p : Int) + 1)) (fun _ q => q) ?_
              refine s_nil ?_
              exact p_lpN ⟨p + 1, lf, sn, d, now, ⟨rfl, rfl, rfl, rfl, rfl, rfl, rfl, rfl, rfl, rfl, rfl, rfl, rfl, rfl, rfl⟩, ⟨Eh, bxb1, bxb5, (by first | ((have e3 := in_next hin (by omega) (by omega) (in_known (hbK.1 (by assumption)))); refine ⟨by omega, ?_, by omega, by omega, ?_, by omega, by omega⟩; all_goals first | omega | exact Nat.or_lt_two_pow (n := 9) hnow (two_lt (by omega)) | exact e3 | (rw [← e3]; congr 1; omega)) | ((have e3 := in_next hin (by omega) (by omega) (in_lost (fun hc => absurd (hbK.2 hc) (by assumption)) (hbL.1 (by assumption)))); refine ⟨by omega, ?_, by omega, by omega, ?_, by omega, by omega⟩; all_goals first | omega | exact Nat.or_lt_two_pow (n := 9) hnow (two_lt (by omega)) | exact e3 | (rw [← e3]; congr 1; omega)) | ((have e3 := in_next hin (by omega) (by omega) (in_new (fun hc => absurd (hbK.2 hc) (by assumption)) (fun hc => absurd (hbL.2 hc) (by assumption)) (hbA.1 (by assumption)))); refine ⟨by omega, ?_, by omega, by omega, ?_, by omega, by omega⟩; all_goals first | omega | exact Nat.or_lt_two_pow (n := 9) hnow (two_lt (by omega)) | exact e3 | (rw [← e3]; congr 1; omega)) | ((have e3 := in_next hin (by omega) (by omega) (in_first (fun hc => absurd (hbK.2 hc) (by assumption)) (fun hc => absurd (hbL.2 hc) (by assumption)) (fun hc => absurd (hbA.2 hc) (by assumption)))); refine ⟨by omega, ?_, by omega, by omega, ?_, by omega, by omega⟩; all_goals first | omega | exact Nat.or_lt_two_pow (n := 9) hnow (two_lt (by omega)) | exact e3 | (rw [← e3]; congr 1; omega)))⟩, by omega⟩
            ·
              refine v_skip ?_
              refine p_seqN ?_
              refine v_seq ?_
              refine v_ops ?_
              refine s_pure (.int .i64 lf) (fun _ q => q) ?_
              refine s_pure (.int .i64 (lf - 1)) (fun _ q => ArithVC.mk (by omega) q) ?_
              refine s_pure (.int .i64 (lf - 1)) (fun _ q => q) ?_
              refine s_nil ?_
              refine p_seqN ?_
              refine v_seq ?_
              refine v_ops ?_
              refine s_pure (.pointer (some ⟨b5, 3, none⟩)) (fun _ q => q) ?_
              refine s_load (.int .i64 sn) (fun _ q => bxb5.load rfl q) ?_
              refine s_pure (.int .i64 (sn + 1)) (fun _ q => ArithVC.mk (by omega) q) ?_
              refine s_pure (.pointer (some ⟨b5, 3, none⟩)) (fun _ q => q) ?_
              refine s_stBx (.int .i64 (sn + 1)) [.int .i64 (sn + 1)] [.int .u64 (arr : Int), .int .u64 (kn : Int), .int .i64 rd, .int .i64 (sn + 1), .int .i64 d] bxb5 rfl rfl rfl rfl (by simp) (all_cons rfl all_nil) rfl (fun h71 mh71 sh71 bxx72 => ?_)
              have E73 := Eh.mod mh71 (fun b hb => by simp at hb; omega)
              refine s_nil ?_
              refine p_seqN ?_
              refine v_seq ?_
              refine v_seq ?_
              refine v_ops ?_
              refine s_pure (.int .i64 0) (fun _ q => q) ?_
              refine s_pure (.int .i64 (p : Int)) (fun _ q => q) ?_
              refine s_pure (.int .i64 (shrT 0 (p : Int))) (fun _ q => shr_vc (by omega) rfl q) ?_
              refine s_pure (.int .i64 (bits .and .i64 (shrT 0 (p : Int)) 1)) (fun _ q => BitsVC.mk q) ?_
              refine s_pure (.bool ((bits .and .i64 (shrT 0 (p : Int)) 1) == 1)) (fun _ q => q) ?_
              refine s_nil ?_
              refine p_seqN ?_
              refine v_cond rfl (fun c74 => ?_) (fun c74 => ?_)
              ·
                refine v_exit ?_
                refine p_seqX ?_
                refine p_blkX ?_
                refine p_seqN ?_
                refine v_ops ?_
                refine s_pure (.int .i64 (p : Int)) (fun _ q => q) ?_
                refine s_pure (.int .i64 ((p : Int) + 1)) (fun _ q => ArithVC.mk (by omega) q) ?_
                refine s_pure (.int .i64 ((p : Int) + 1)) (fun _ q => q) ?_
                refine s_nil ?_
                have f75 := (bxb1.mod mh71 (by simp; omega))
                exact p_lpN ⟨p + 1, (lf - 1), (sn + 1), d, now, ⟨rfl, rfl, rfl, rfl, rfl, rfl, rfl, rfl, rfl, rfl, rfl, rfl, rfl, rfl, rfl⟩, ⟨E73, f75, bxx72, (by first | ((have e3 := in_next hin (by omega) (by omega) (in_known (hbK.1 (by assumption)))); refine ⟨by omega, ?_, by omega, by omega, ?_, by omega, by omega⟩; all_goals first | omega | exact Nat.or_lt_two_pow (n := 9) hnow (two_lt (by omega)) | exact e3 | (rw [← e3]; congr 1; omega)) | ((have e3 := in_next hin (by omega) (by omega) (in_lost (fun hc => absurd (hbK.2 hc) (by assumption)) (hbL.1 (by assumption)))); refine ⟨by omega, ?_, by omega, by omega, ?_, by omega, by omega⟩; all_goals first | omega | exact Nat.or_lt_two_pow (n := 9) hnow (two_lt (by omega)) | exact e3 | (rw [← e3]; congr 1; omega)) | ((have e3 := in_next hin (by omega) (by omega) (in_new (fun hc => absurd (hbK.2 hc) (by assumption)) (fun hc => absurd (hbL.2 hc) (by assumption)) (hbA.1 (by assumption)))); refine ⟨by omega, ?_, by omega, by omega, ?_, by omega, by omega⟩; all_goals first | omega | exact Nat.or_lt_two_pow (n := 9) hnow (two_lt (by omega)) | exact e3 | (rw [← e3]; congr 1; omega)) | ((have e3 := in_next hin (by omega) (by omega) (in_first (fun hc => absurd (hbK.2 hc) (by assumption)) (fun hc => absurd (hbL.2 hc) (by assumption)) (fun hc => absurd (hbA.2 hc) (by assumption)))); refine ⟨by omega, ?_, by omega, by omega, ?_, by omega, by omega⟩; all_goals first | omega | exact Nat.or_lt_two_pow (n := 9) hnow (two_lt (by omega)) | exact e3 | (rw [← e3]; congr 1; omega)))⟩, by omega⟩
              ·
                refine v_skip ?_
                refine p_seqN ?_
                refine v_seq ?_
                refine v_seq ?_
                refine v_ops ?_
                refine s_pure (.pointer (some ⟨b5, 0, none⟩)) (fun _ q => q) ?_
                refine s_load (.int .u64 (arr : Int)) (fun _ q => bxx72.load rfl q) ?_
                refine s_pure (.int .i64 (p : Int)) (fun _ q => q) ?_
                refine s_pure (.int .u64 (shrT (arr : Int) (p : Int))) (fun _ q => shr_vc (by omega) rfl q) ?_
                refine s_pure (.int .u64 (bits .and .u64 (shrT (arr : Int) (p : Int)) 1)) (fun _ q => BitsVC.mk q) ?_
                refine s_pure (.bool ((bits .and .u64 (shrT (arr : Int) (p : Int)) 1) == 1)) (fun _ q => CmpVC.mk q) ?_
                refine s_nil ?_
                refine p_seqN ?_
                refine v_cond rfl (fun c76 => ?_) (fun c76 => ?_)
                ·
                  refine v_ops ?_
                  refine s_pure (.pointer (some ⟨b5, 4, none⟩)) (fun _ q => q) ?_
                  refine s_load (.int .i64 d) (fun _ q => bxx72.load rfl q) ?_
                  refine s_pure (.int .i64 (d + 1)) (fun _ q => ArithVC.mk (by omega) q) ?_
                  refine s_pure (.pointer (some ⟨b5, 4, none⟩)) (fun _ q => q) ?_
                  refine s_stBx (.int .i64 (d + 1)) [.int .i64 (d + 1)] [.int .u64 (arr : Int), .int .u64 (kn : Int), .int .i64 rd, .int .i64 (sn + 1), .int .i64 (d + 1)] bxx72 rfl rfl rfl rfl (by simp) (all_cons rfl all_nil) rfl (fun h77 mh77 sh77 bxx78 => ?_)
                  have E79 := E73.mod mh77 (fun b hb => by simp at hb; omega)
                  refine s_nil ?_
                  refine p_seqN ?_
                  refine v_ops ?_
                  refine s_pure (.int .u64 (now : Int)) (fun _ q => q) ?_
                  refine s_pure (.int .i64 (p : Int)) (fun _ q => q) ?_
                  refine s_pure (.int .u64 ((2 ^ p : Nat) : Int)) (fun _ q => shl_vc (p := p) rfl (by omega) q) ?_
                  refine s_pure (.int .u64 (((now) ||| (2 ^ p) : Nat) : Int)) (fun _ q => or_vc (by omega) (two_lt (by omega)) q) ?_
                  refine s_pure (.int .u64 (((now) ||| (2 ^ p) : Nat) : Int)) (fun _ q => q) ?_
                  refine s_nil ?_
                  refine p_blkN ?_
                  refine p_seqN ?_
                  refine v_ops ?_
                  refine s_pure (.int .i64 (p : Int)) (fun _ q => q) ?_
                  refine s_pure (.int .i64 ((p : Int) + 1)) (fun _ q => ArithVC.mk (by omega) q) ?_
                  refine s_pure (.int .i64 ((p : Int) + 1)) (fun _ q => q) ?_
                  refine s_nil ?_
                  have f80 := ((bxb1.mod mh71 (by simp; omega)).mod mh77 (by simp; omega))
                  exact p_lpN ⟨p + 1, (lf - 1), (sn + 1), (d + 1), ((now) ||| (2 ^ p)), ⟨rfl, rfl, rfl, rfl, rfl, rfl, rfl, rfl, rfl, rfl, rfl, rfl, rfl, rfl, rfl⟩, ⟨E79, f80, bxx78, (by first | ((have e3 := in_next hin (by omega) (by omega) (in_known (hbK.1 (by assumption)))); refine ⟨by omega, ?_, by omega, by omega, ?_, by omega, by omega⟩; all_goals first | omega | exact Nat.or_lt_two_pow (n := 9) hnow (two_lt (by omega)) | exact e3 | (rw [← e3]; congr 1; omega)) | ((have e3 := in_next hin (by omega) (by omega) (in_lost (fun hc => absurd (hbK.2 hc) (by assumption)) (hbL.1 (by assumption)))); refine ⟨by omega, ?_, by omega, by omega, ?_, by omega, by omega⟩; all_goals first | omega | exact Nat.or_lt_two_pow (n := 9) hnow (two_lt (by omega)) | exact e3 | (rw [← e3]; congr 1; omega)) | ((have e3 := in_next hin (by omega) (by omega) (in_new (fun hc => absurd (hbK.2 hc) (by assumption)) (fun hc => absurd (hbL.2 hc) (by assumption)) (hbA.1 (by assumption)))); refine ⟨by omega, ?_, by omega, by omega, ?_, by omega, by omega⟩; all_goals first | omega | exact Nat.or_lt_two_pow (n := 9) hnow (two_lt (by omega)) | exact e3 | (rw [← e3]; congr 1; omega)) | ((have e3 := in_next hin (by omega) (by omega) (in_first (fun hc => absurd (hbK.2 hc) (by assumption)) (fun hc => absurd (hbL.2 hc) (by assumption)) (fun hc => absurd (hbA.2 hc) (by assumption)))); refine ⟨by omega, ?_, by omega, by omega, ?_, by omega, by omega⟩; all_goals first | omega | exact Nat.or_lt_two_pow (n := 9) hnow (two_lt (by omega)) | exact e3 | (rw [← e3]; congr 1; omega)))⟩, by omega⟩
                ·
                  refine v_skip ?_
                  refine p_seqN ?_
                  refine v_ops ?_
                  refine s_pure (.int .u64 (now : Int)) (fun _ q => q) ?_
                  refine s_pure (.int .i64 (p : Int)) (fun _ q => q) ?_
                  refine s_pure (.int .u64 ((2 ^ p : Nat) : Int)) (fun _ q => shl_vc (p := p) rfl (by omega) q) ?_
                  refine s_pure (.int .u64 (((now) ||| (2 ^ p) : Nat) : Int)) (fun _ q => or_vc (by omega) (two_lt (by omega)) q) ?_
                  refine s_pure (.int .u64 (((now) ||| (2 ^ p) : Nat) : Int)) (fun _ q => q) ?_
                  refine s_nil ?_
                  refine p_blkN ?_
                  refine p_seqN ?_
                  refine v_ops ?_
                  refine s_pure (.int .i64 (p : Int)) (fun _ q => q) ?_
                  refine s_pure (.int .i64 ((p : Int) + 1)) (fun _ q => ArithVC.mk (by omega) q) ?_
                  refine s_pure (.int .i64 ((p : Int) + 1)) (fun _ q => q) ?_
                  refine s_nil ?_
                  have f81 := (bxb1.mod mh71 (by simp; omega))
                  exact p_lpN ⟨p + 1, (lf - 1), (sn + 1), d, ((now) ||| (2 ^ p)), ⟨rfl, rfl, rfl, rfl, rfl, rfl, rfl, rfl, rfl, rfl, rfl, rfl, rfl, rfl, rfl⟩, ⟨E73, f81, bxx72, (by first | ((have e3 := in_next hin (by omega) (by omega) (in_known (hbK.1 (by assumption)))); refine ⟨by omega, ?_, by omega, by omega, ?_, by omega, by omega⟩; all_goals first | omega | exact Nat.or_lt_two_pow (n := 9) hnow (two_lt (by omega)) | exact e3 | (rw [← e3]; congr 1; omega)) | ((have e3 := in_next hin (by omega) (by omega) (in_lost (fun hc => absurd (hbK.2 hc) (by assumption)) (hbL.1 (by assumption)))); refine ⟨by omega, ?_, by omega, by omega, ?_, by omega, by omega⟩; all_goals first | omega | exact Nat.or_lt_two_pow (n := 9) hnow (two_lt (by omega)) | exact e3 | (rw [← e3]; congr 1; omega)) | ((have e3 := in_next hin (by omega) (by omega) (in_new (fun hc => absurd (hbK.2 hc) (by assumption)) (fun hc => absurd (hbL.2 hc) (by assumption)) (hbA.1 (by assumption)))); refine ⟨by omega, ?_, by omega, by omega, ?_, by omega, by omega⟩; all_goals first | omega | exact Nat.or_lt_two_pow (n := 9) hnow (two_lt (by omega)) | exact e3 | (rw [← e3]; congr 1; omega)) | ((have e3 := in_next hin (by omega) (by omega) (in_first (fun hc => absurd (hbK.2 hc) (by assumption)) (fun hc => absurd (hbL.2 hc) (by assumption)) (fun hc => absurd (hbA.2 hc) (by assumption)))); refine ⟨by omega, ?_, by omega, by omega, ?_, by omega, by omega⟩; all_goals first | omega | exact Nat.or_lt_two_pow (n := 9) hnow (two_lt (by omega)) | exact e3 | (rw [← e3]; congr 1; omega)))⟩, by omega⟩
          ·
            refine v_exit ?_
            refine p_seqX ?_
            refine p_lpX ?_
            refine p_blkX ?_
            refine p_seqN ?_
            refine v_seq ?_
            refine v_ops ?_
            refine s_pure (.int .u64 (now : Int)) (fun _ q => q) ?_
            refine s_pure (.pointer (some ⟨b5, 0, none⟩)) (fun _ q => q) ?_
            refine s_stBx (.int .u64 (now : Int)) [.int .u64 (now : Int)] [.int .u64 (now : Int), .int .u64 (kn : Int), .int .i64 rd, .int .i64 sn, .int .i64 d] bxb5 rfl rfl rfl rfl (by simp) (all_cons rfl all_nil) rfl (fun h82 mh82 sh82 bxx83 => ?_)
            have E84 := Eh.mod mh82 (fun b hb => by simp at hb; omega)
            refine s_nil ?_
            refine p_seqN ?_
            refine v_seq ?_
            refine v_ops ?_
            refine s_pure (.int .i64 0) (fun _ q => q) ?_
            refine s_pure (.int .i64 (bits .and .i64 0 512)) (fun _ q => BitsVC.mk q) ?_
            refine s_pure (.bool ((bits .and .i64 0 512) == 0)) (fun _ q => q) ?_
            refine s_nil ?_
            refine p_seqN ?_
            refine v_cond rfl (fun c85 => ?_) (fun c85 => ?_)
            ·
              refine v_ops ?_
              refine s_pure (.pointer (some ⟨b5, 0, none⟩)) (fun _ q => q) ?_
              refine s_load (.int .u64 (now : Int)) (fun _ q => bxx83.load rfl q) ?_
              refine s_pure (.pointer (some ⟨b5, 1, none⟩)) (fun _ q => q) ?_
              refine s_stBx (.int .u64 (now : Int)) [.int .u64 (now : Int)] [.int .u64 (now : Int), .int .u64 (now : Int), .int .i64 rd, .int .i64 sn, .int .i64 d] bxx83 rfl rfl rfl rfl (by simp) (all_cons rfl all_nil) rfl (fun h86 mh86 sh86 bxx87 => ?_)
              have E88 := E84.mod mh86 (fun b hb => by simp at hb; omega)
              refine s_nil ?_
              refine p_blkN ?_
              refine p_seqN ?_
              refine v_ops ?_
              refine s_pure (.pointer (some ⟨b5, 2, none⟩)) (fun _ q => q) ?_
              refine s_load (.int .i64 rd) (fun _ q => bxx87.load rfl q) ?_
              refine s_pure (.int .i64 (rd + 1)) (fun _ q => ArithVC.mk (by omega) q) ?_
              refine s_pure (.pointer (some ⟨b5, 2, none⟩)) (fun _ q => q) ?_
              refine s_stBx (.int .i64 (rd + 1)) [.int .i64 (rd + 1)] [.int .u64 (now : Int), .int .u64 (now : Int), .int .i64 (rd + 1), .int .i64 sn, .int .i64 d] bxx87 rfl rfl rfl rfl (by simp) (all_cons rfl all_nil) rfl (fun h89 mh89 sh89 bxx90 => ?_)
              have E91 := E88.mod mh89 (fun b hb => by simp at hb; omega)
              refine s_nil ?_
              have f92 := (((bxb1.mod mh82 (by simp; omega)).mod mh86 (by simp; omega)).mod mh89 (by simp; omega))
              exact p_lpN ⟨now, now, (rd + 1), sn, d, ⟨rfl, rfl, rfl, rfl, rfl, rfl, rfl⟩, ⟨E91, f92, bxx90, (by (have hres := in_done hin (by first | (left; omega) | (right; omega))); (have e2 : (k - (rd + 1)).toNat = (k - rd).toNat - 1 := by omega); first | ((have e : ackStep n w script ⟨arr, kn, rd, sent, dbl⟩ = ⟨now, now, rd + 1, sn, d⟩ := by (unfold ackStep; simp only; rw [hres]; simp only [hsn]; rw [if_pos ((tb_lt hL hL2).1 (by assumption))])); exact ⟨by (rw [e2]; exact ack_next hrun (by omega) (fun hc => absurd (congrArg (fun (q : Nat) => (q : Int)) hc) (by assumption)) e), by omega, by omega, by omega, by omega, by omega, by omega, by omega⟩) | ((have e : ackStep n w script ⟨arr, kn, rd, sent, dbl⟩ = ⟨now, kn, rd + 1, sn, d⟩ := by (unfold ackStep; simp only; rw [hres]; simp only [hsn]; rw [if_neg (fun hc => absurd ((tb_lt hL hL2).2 hc) (by assumption))])); exact ⟨by (rw [e2]; exact ack_next hrun (by omega) (fun hc => absurd (congrArg (fun (q : Nat) => (q : Int)) hc) (by assumption)) e), by omega, by omega, by omega, by omega, by omega, by omega, by omega⟩))⟩, by omega⟩
            ·
              refine v_skip ?_
              refine p_blkN ?_
              refine p_seqN ?_
              refine v_ops ?_
              refine s_pure (.pointer (some ⟨b5, 2, none⟩)) (fun _ q => q) ?_
              refine s_load (.int .i64 rd) (fun _ q => bxx83.load rfl q) ?_
              refine s_pure (.int .i64 (rd + 1)) (fun _ q => ArithVC.mk (by omega) q) ?_
              refine s_pure (.pointer (some ⟨b5, 2, none⟩)) (fun _ q => q) ?_
              refine s_stBx (.int .i64 (rd + 1)) [.int .i64 (rd + 1)] [.int .u64 (now : Int), .int .u64 (kn : Int), .int .i64 (rd + 1), .int .i64 sn, .int .i64 d] bxx83 rfl rfl rfl rfl (by simp) (all_cons rfl all_nil) rfl (fun h93 mh93 sh93 bxx94 => ?_)
              have E95 := E84.mod mh93 (fun b hb => by simp at hb; omega)
              refine s_nil ?_
              have f96 := ((bxb1.mod mh82 (by simp; omega)).mod mh93 (by simp; omega))
              exact p_lpN ⟨now, kn, (rd + 1), sn, d, ⟨rfl, rfl, rfl, rfl, rfl, rfl, rfl⟩, ⟨E95, f96, bxx94, (by (have hres := in_done hin (by first | (left; omega) | (right; omega))); (have e2 : (k - (rd + 1)).toNat = (k - rd).toNat - 1 := by omega); first | ((have e : ackStep n w script ⟨arr, kn, rd, sent, dbl⟩ = ⟨now, now, rd + 1, sn, d⟩ := by (unfold ackStep; simp only; rw [hres]; simp only [hsn]; rw [if_pos ((tb_lt hL hL2).1 (by assumption))])); exact ⟨by (rw [e2]; exact ack_next hrun (by omega) (fun hc => absurd (congrArg (fun (q : Nat) => (q : Int)) hc) (by assumption)) e), by omega, by omega, by omega, by omega, by omega, by omega, by omega⟩) | ((have e : ackStep n w script ⟨arr, kn, rd, sent, dbl⟩ = ⟨now, kn, rd + 1, sn, d⟩ := by (unfold ackStep; simp only; rw [hres]; simp only [hsn]; rw [if_neg (fun hc => absurd ((tb_lt hL hL2).2 hc) (by assumption))])); exact ⟨by (rw [e2]; exact ack_next hrun (by omega) (fun hc => absurd (congrArg (fun (q : Nat) => (q : Int)) hc) (by assumption)) e), by omega, by omega, by omega, by omega, by omega, by omega, by omega⟩))⟩, by omega⟩
        ·
          refine s_pass rfl ?_
          refine s_pass rfl ?_
          refine s_pure (.bool false) (fun _ q => q) ?_
          refine s_nil ?_
          refine p_seqN ?_
          refine v_condN rfl (by simp) ?_
          refine v_exit ?_
          refine p_seqX ?_
          refine p_lpX ?_
          refine p_blkX ?_
          refine p_seqN ?_
          refine v_seq ?_
          refine v_ops ?_
          refine s_pure (.int .u64 (now : Int)) (fun _ q => q) ?_
          refine s_pure (.pointer (some ⟨b5, 0, none⟩)) (fun _ q => q) ?_
          refine s_stBx (.int .u64 (now : Int)) [.int .u64 (now : Int)] [.int .u64 (now : Int), .int .u64 (kn : Int), .int .i64 rd, .int .i64 sn, .int .i64 d] bxb5 rfl rfl rfl rfl (by simp) (all_cons rfl all_nil) rfl (fun h97 mh97 sh97 bxx98 => ?_)
          have E99 := Eh.mod mh97 (fun b hb => by simp at hb; omega)
          refine s_nil ?_
          refine p_seqN ?_
          refine v_seq ?_
          refine v_ops ?_
          refine s_pure (.int .i64 0) (fun _ q => q) ?_
          refine s_pure (.int .i64 (bits .and .i64 0 512)) (fun _ q => BitsVC.mk q) ?_
          refine s_pure (.bool ((bits .and .i64 0 512) == 0)) (fun _ q => q) ?_
          refine s_nil ?_
          refine p_seqN ?_
          refine v_cond rfl (fun c100 => ?_) (fun c100 => ?_)
          ·
            refine v_ops ?_
            refine s_pure (.pointer (some ⟨b5, 0, none⟩)) (fun _ q => q) ?_
            refine s_load (.int .u64 (now : Int)) (fun _ q => bxx98.load rfl q) ?_
            refine s_pure (.pointer (some ⟨b5, 1, none⟩)) (fun _ q => q) ?_
            refine s_stBx (.int .u64 (now : Int)) [.int .u64 (now : Int)] [.int .u64 (now : Int), .int .u64 (now : Int), .int .i64 rd, .int .i64 sn, .int .i64 d] bxx98 rfl rfl rfl rfl (by simp) (all_cons rfl all_nil) rfl (fun h101 mh101 sh101 bxx102 => ?_)
            have E103 := E99.mod mh101 (fun b hb => by simp at hb; omega)
            refine s_nil ?_
            refine p_blkN ?_
            refine p_seqN ?_
            refine v_ops ?_
            refine s_pure (.pointer (some ⟨b5, 2, none⟩)) (fun _ q => q) ?_
            refine s_load (.int .i64 rd) (fun _ q => bxx102.load rfl q) ?_
            refine s_pure (.int .i64 (rd + 1)) (fun _ q => ArithVC.mk (by omega) q) ?_
            refine s_pure (.pointer (some ⟨b5, 2, none⟩)) (fun _ q => q) ?_
            refine s_stBx (.int .i64 (rd + 1)) [.int .i64 (rd + 1)] [.int .u64 (now : Int), .int .u64 (now : Int), .int .i64 (rd + 1), .int .i64 sn, .int .i64 d] bxx102 rfl rfl rfl rfl (by simp) (all_cons rfl all_nil) rfl (fun h104 mh104 sh104 bxx105 => ?_)
            have E106 := E103.mod mh104 (fun b hb => by simp at hb; omega)
            refine s_nil ?_
            have f107 := (((bxb1.mod mh97 (by simp; omega)).mod mh101 (by simp; omega)).mod mh104 (by simp; omega))
            exact p_lpN ⟨now, now, (rd + 1), sn, d, ⟨rfl, rfl, rfl, rfl, rfl, rfl, rfl⟩, ⟨E106, f107, bxx105, (by (have hres := in_done hin (by first | (left; omega) | (right; omega))); (have e2 : (k - (rd + 1)).toNat = (k - rd).toNat - 1 := by omega); first | ((have e : ackStep n w script ⟨arr, kn, rd, sent, dbl⟩ = ⟨now, now, rd + 1, sn, d⟩ := by (unfold ackStep; simp only; rw [hres]; simp only [hsn]; rw [if_pos ((tb_lt hL hL2).1 (by assumption))])); exact ⟨by (rw [e2]; exact ack_next hrun (by omega) (fun hc => absurd (congrArg (fun (q : Nat) => (q : Int)) hc) (by assumption)) e), by omega, by omega, by omega, by omega, by omega, by omega, by omega⟩) | ((have e : ackStep n w script ⟨arr, kn, rd, sent, dbl⟩ = ⟨now, kn, rd + 1, sn, d⟩ := by (unfold ackStep; simp only; rw [hres]; simp only [hsn]; rw [if_neg (fun hc => absurd ((tb_lt hL hL2).2 hc) (by assumption))])); exact ⟨by (rw [e2]; exact ack_next hrun (by omega) (fun hc => absurd (congrArg (fun (q : Nat) => (q : Int)) hc) (by assumption)) e), by omega, by omega, by omega, by omega, by omega, by omega, by omega⟩))⟩, by omega⟩
          ·
            refine v_skip ?_
            refine p_blkN ?_
            refine p_seqN ?_
            refine v_ops ?_
            refine s_pure (.pointer (some ⟨b5, 2, none⟩)) (fun _ q => q) ?_
            refine s_load (.int .i64 rd) (fun _ q => bxx98.load rfl q) ?_
            refine s_pure (.int .i64 (rd + 1)) (fun _ q => ArithVC.mk (by omega) q) ?_
            refine s_pure (.pointer (some ⟨b5, 2, none⟩)) (fun _ q => q) ?_
            refine s_stBx (.int .i64 (rd + 1)) [.int .i64 (rd + 1)] [.int .u64 (now : Int), .int .u64 (kn : Int), .int .i64 (rd + 1), .int .i64 sn, .int .i64 d] bxx98 rfl rfl rfl rfl (by simp) (all_cons rfl all_nil) rfl (fun h108 mh108 sh108 bxx109 => ?_)
            have E110 := E99.mod mh108 (fun b hb => by simp at hb; omega)
            refine s_nil ?_
            have f111 := ((bxb1.mod mh97 (by simp; omega)).mod mh108 (by simp; omega))
            exact p_lpN ⟨now, kn, (rd + 1), sn, d, ⟨rfl, rfl, rfl, rfl, rfl, rfl, rfl⟩, ⟨E110, f111, bxx109, (by (have hres := in_done hin (by first | (left; omega) | (right; omega))); (have e2 : (k - (rd + 1)).toNat = (k - rd).toNat - 1 := by omega); first | ((have e : ackStep n w script ⟨arr, kn, rd, sent, dbl⟩ = ⟨now, now, rd + 1, sn, d⟩ := by (unfold ackStep; simp only; rw [hres]; simp only [hsn]; rw [if_pos ((tb_lt hL hL2).1 (by assumption))])); exact ⟨by (rw [e2]; exact ack_next hrun (by omega) (fun hc => absurd (congrArg (fun (q : Nat) => (q : Int)) hc) (by assumption)) e), by omega, by omega, by omega, by omega, by omega, by omega, by omega⟩) | ((have e : ackStep n w script ⟨arr, kn, rd, sent, dbl⟩ = ⟨now, kn, rd + 1, sn, d⟩ := by (unfold ackStep; simp only; rw [hres]; simp only [hsn]; rw [if_neg (fun hc => absurd ((tb_lt hL hL2).2 hc) (by assumption))])); exact ⟨by (rw [e2]; exact ack_next hrun (by omega) (fun hc => absurd (congrArg (fun (q : Nat) => (q : Int)) hc) (by assumption)) e), by omega, by omega, by omega, by omega, by omega, by omega, by omega⟩))⟩, by omega⟩
    ·
      refine v_exit ?_
      refine p_seqX ?_
      refine p_lpX ?_
      refine p_blkX ?_
      refine p_seqN ?_
      refine v_seq ?_
      refine v_ops ?_
      refine s_load (.agg #[.int .u64 (arr : Int), .int .u64 (kn : Int), .int .i64 rd, .int .i64 sent, .int .i64 dbl]) (fun _ q => bxb5.loadA rfl q) ?_
      refine s_stBx (.agg #[.int .u64 (arr : Int), .int .u64 (kn : Int), .int .i64 rd, .int .i64 sent, .int .i64 dbl]) [.int .u64 (arr : Int), .int .u64 (kn : Int), .int .i64 rd, .int .i64 sent, .int .i64 dbl] [.int .u64 (arr : Int), .int .u64 (kn : Int), .int .i64 rd, .int .i64 sent, .int .i64 dbl] bxb1 rfl rfl rfl rfl (by simp) (all_cons rfl (all_cons rfl (all_cons rfl (all_cons rfl (all_cons rfl all_nil))))) rfl (fun h112 mh112 sh112 bxx113 => ?_)
      have E114 := Eh.mod mh112 (fun b hb => by simp at hb; omega)
      refine s_nil ?_
      refine p_seqN ?_
      refine v_ret ?_
      refine p_ret [.agg #[.int .u64 (arr : Int), .int .u64 (kn : Int), .int .i64 rd, .int .i64 sent, .int .i64 dbl]] (.agg #[.int .u64 (arr : Int), .int .u64 (kn : Int), .int .i64 rd, .int .i64 sent, .int .i64 dbl]) (fun _ q => (bxx113.loadA rfl q)) rfl ?_
      have hq := ackRun_stop (n := n) (w := w) (sc := script) (f := (k - rd).toNat) (x := ⟨arr, kn, rd, sent, dbl⟩) (by first | (left; omega) | (right; exact Int.ofNat.inj (by assumption)))
      rw [hrun] at hq
      exact ⟨by rw [hq], E114⟩
  ·
    have c13 := Classical.not_not.1 c13
    refine s_pass rfl ?_
    refine s_pass rfl ?_
    refine s_pass rfl ?_
    refine s_pass rfl ?_
    refine s_pure (.bool false) (fun _ q => q) ?_
    refine s_nil ?_
    refine p_seqN ?_
    refine v_condN rfl (by simp) ?_
    refine v_exit ?_
    refine p_seqX ?_
    refine p_lpX ?_
    refine p_blkX ?_
    refine p_seqN ?_
    refine v_seq ?_
    refine v_ops ?_
    refine s_load (.agg #[.int .u64 (arr : Int), .int .u64 (kn : Int), .int .i64 rd, .int .i64 sent, .int .i64 dbl]) (fun _ q => bxb5.loadA rfl q) ?_
    refine s_stBx (.agg #[.int .u64 (arr : Int), .int .u64 (kn : Int), .int .i64 rd, .int .i64 sent, .int .i64 dbl]) [.int .u64 (arr : Int), .int .u64 (kn : Int), .int .i64 rd, .int .i64 sent, .int .i64 dbl] [.int .u64 (arr : Int), .int .u64 (kn : Int), .int .i64 rd, .int .i64 sent, .int .i64 dbl] bxb1 rfl rfl rfl rfl (by simp) (all_cons rfl (all_cons rfl (all_cons rfl (all_cons rfl (all_cons rfl all_nil))))) rfl (fun h115 mh115 sh115 bxx116 => ?_)
    have E117 := Eh.mod mh115 (fun b hb => by simp at hb; omega)
    refine s_nil ?_
    refine p_seqN ?_
    refine v_ret ?_
    refine p_ret [.agg #[.int .u64 (arr : Int), .int .u64 (kn : Int), .int .i64 rd, .int .i64 sent, .int .i64 dbl]] (.agg #[.int .u64 (arr : Int), .int .u64 (kn : Int), .int .i64 rd, .int .i64 sent, .int .i64 dbl]) (fun _ q => (bxx116.loadA rfl q)) rfl ?_
    have hq := ackRun_stop (n := n) (w := w) (sc := script) (f := (k - rd).toNat) (x := ⟨arr, kn, rd, sent, dbl⟩) (by first | (left; omega) | (right; exact Int.ofNat.inj (by assumption)))
    rw [hrun] at hq
    exact ⟨by rw [hq], E117⟩

end Go.Proofs.Ytibhbphikijecaa
