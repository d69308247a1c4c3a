/- The laws' helpers on Glance: what they return. Condition: none. Printed by a program. -/
import Derived.Test.YtgfokmjnfaopaaaFlat0
namespace Go.Proofs.Ytgfokmjnfaopaaa
open Go.Vc

theorem toGlance_ok (a0 : Bool) (a1 : Int) (h : Heap) : Cn f_laws_toGlance [.agg #[.bool a0, .int .i64 a1]] h fun v h' => v = .agg #[.bool a0, .int .i64 a1] ∧ Ext h h' := by
  refine calls_of r_laws_toGlance ?_
  refine AllocVC.mk [.bool a0, .int .i64 a1] rfl (fun h1 p1 hp1 hz1 e1 bx1 => ?_)
  refine AllocVC.mk [.bool false, .int .i64 0] rfl (fun h2 p2 hp2 hz2 e2 bx2 => ?_)
  refine AllocVC.mk [.bool false, .int .i64 0] rfl (fun h3 p3 hp3 hz3 e3 bx3 => ?_)
  have bx1 := (bx1.ext e2).ext e3
  have bx2 := bx2.ext e3
  have E := (e1.trans e2).trans e3
  have Z := hz3
  refine bx1.load rfl ?_
  refine bx3.store (us := [.bool a0]) rfl rfl (by simp) (by simp [Value.oneCell']) (fun h4 m4 s4 bx3 => ?_)
  have bx1 := bx1.mod m4 (by simp; omega)
  have bx2 := bx2.mod m4 (by simp; omega)
  have E := E.mod m4 (by simp; omega)
  have Z := s4.trans Z
  refine bx1.load rfl ?_
  refine bx3.store (us := [.int .i64 a1]) rfl rfl (by simp [spl]) (by simp [Value.oneCell']) (fun h4 m4 s4 bx3 => ?_)
  have bx1 := bx1.mod m4 (by simp; omega)
  have bx2 := bx2.mod m4 (by simp; omega)
  have E := E.mod m4 (by simp; omega)
  have Z := s4.trans Z
  refine bx3.loadA rfl ?_
  refine bx2.store (us := [.bool a0, .int .i64 a1]) rfl rfl (by simp) (by simp [Value.oneCell']) (fun h4 m4 s4 bx2 => ?_)
  refine bx2.loadA rfl ?_
  exact ⟨rfl, E.mod m4 (by simp; omega)⟩

theorem eqGlance_ok (a0 : Bool) (a1 : Int) (b0 : Bool) (b1 : Int) (h : Heap) : Cn f_laws_eqGlance [.agg #[.bool a0, .int .i64 a1], .agg #[.bool b0, .int .i64 b1]] h fun v h' => v = .bool (decide (a0 = b0 ∧ a1 = b1)) ∧ Ext h h' := by
  refine calls_of r_laws_eqGlance ?_
  refine AllocVC.mk [.bool a0, .int .i64 a1] rfl (fun h1 p1 hp1 hz1 e1 bx1 => ?_)
  refine AllocVC.mk [.bool b0, .int .i64 b1] rfl (fun h2 p2 hp2 hz2 e2 bx2 => ?_)
  have bx1 := bx1.ext e2
  have E := e1.trans e2
  refine bx1.load rfl (bx2.load rfl ?_)
  refine CondVC.mk (fun c0 => ⟨bool_f (fun hh => c0 (by obtain ⟨rfl, rfl⟩ := hh; rfl)), E⟩) (fun c0 => ?_)
  have c0 := Classical.not_not.1 c0
  refine bx1.load rfl (bx2.load rfl ?_)
  refine CondVC.mk (fun c1 => ⟨bool_f (fun hh => c1 (by obtain ⟨rfl, rfl⟩ := hh; rfl)), E⟩) (fun c1 => ?_)
  have c1 := Classical.not_not.1 c1
  exact ⟨bool_t ⟨c0, c1⟩, E⟩

theorem toGlanceS_ok (v : Value) (xs : List GlanceD) (h : Heap) (hs : Sl h v xs) (hb : xs.length ≤ 1048576) :
    Cn f_laws_toGlanceS [v] h fun r h' => SlO h' r xs ∧ Ext h h' ∧ Fr h.size r := by
  refine calls_of r_laws_toGlanceS ?_
  refine hs.lenVC ?_
  refine SlX.make xs.length (⟨false, 0⟩ : GlanceD) rfl rfl hs.len_le (by omega) (fun o h1 he hsz ho hfr => ?_)
  refine LoopVC.mk (α := Nat) (fun k => [(0, v), (3, o), (4, .int .i64 (k : Int))]) (fun k h2 => k ≤ xs.length ∧ Ext h h2 ∧ SlO h2 o (xs.take k ++ List.replicate (xs.length - k) ⟨false, 0⟩)) (fun k => xs.length - k) 0 ⟨rfl, rfl, rfl⟩ ⟨by omega, he, by simpa using ho⟩ ?_
  rintro k R h2 ⟨hk, he2, ho2⟩
  have hs2 := hs.ext he2
  refine hs2.lenVC ?_
  refine CondVC.mk (fun hlt => ?_) (fun hlt => ?_)
  · have hk' : k < xs.length := by omega
    refine hs2.idx rfl hk' ?_
    refine hs2.loadN (x := xs[k]) (by simp [hk']) rfl ?_
    refine (toGlance_ok _ _ _).mono ?_
    rintro _ h3 ⟨rfl, e3⟩
    refine (ho2.ext e3).idx rfl (by simp; omega) ?_
    refine (ho2.ext e3).store (k := k) (j := 0) (x' := xs[k]) (us := Enc.cells xs[k]) (List.getElem?_eq_getElem (by simp; omega)) rfl rfl rfl (by simp [Enc.cells, Enc.sz]) (by simp [spl, Enc.cells]) (fun u hu => Enc.one _ u hu) (fun h4 hm hsz4 ho4 => ?_)
    refine ArithVC.mk (by omega) ?_
    exact ⟨k + 1, ⟨⟨rfl, rfl, rfl⟩, by omega, (he2.trans e3).mod hm hfr, by rw [← fill_step xs _ k hk']; exact ho4⟩, by omega⟩
  · have hk' : k = xs.length := by omega
    subst hk'
    rw [fill_done] at ho2
    exact ⟨ho2, he2, hfr⟩

theorem eqGlanceS_ok (v u : Value) (xs ys : List GlanceD) (h : Heap) (hx : Sl h v xs) (hy : Sl h u ys) :
    Cn f_laws_eqGlanceS [v, u] h fun r h' => r = .bool (decide (xs = ys)) ∧ Ext h h' := by
  refine calls_of r_laws_eqGlanceS ?_
  refine hx.lenVC (hy.lenVC ?_)
  refine CondVC.mk (fun hlen => ?_) (fun hlen => ?_)
  · exact ⟨bool_f (fun e => hlen (by rw [e])), Ext.refl h⟩
  have hl : xs.length = ys.length := by omega
  refine LoopVC.mk (α := Nat) (fun k => [(0, v), (1, u), (5, .int .i64 (k : Int))]) (fun k h2 => Ext h h2 ∧ k ≤ xs.length ∧ xs.take k = ys.take k) (fun k => xs.length - k) 0 ⟨rfl, rfl, rfl⟩ ⟨Ext.refl h, by omega, by simp⟩ ?_
  rintro k R h2 ⟨e2, hk, heq⟩
  have hx2 := hx.ext e2
  have hy2 := hy.ext e2
  refine hx2.lenVC ?_
  refine CondVC.mk (fun hlt => ?_) (fun hlt => ?_)
  · have hk' : k < xs.length := by omega
    have hk2 : k < ys.length := by omega
    refine DrawVC.hold (blks v) ?_
    refine hx2.idx rfl hk' (hy2.idx rfl hk2 ?_)
    refine hx2.takeN (fun b hb => hb) (x := xs[k]) (by simp [hk']) rfl (hy2.loadN (x := ys[k]) (by simp [hk2]) rfl ?_)
    refine (eqGlance_ok _ _ _ _ _).mono ?_
    rintro _ h3 ⟨rfl, e3⟩
    refine CondVC.mk (fun hne => ?_) (fun hne => ?_)
    · refine ⟨bool_f (fun e => hne ?_), e2.trans e3⟩
      subst e; exact ⟨rfl, rfl⟩
    · have hne := Classical.not_not.1 hne
      have he : xs[k] = ys[k] := by
        revert hne
        cases xs[k]; cases ys[k]
        rintro ⟨rfl, rfl⟩; rfl
      have hx63 := hx.len63
      refine ArithVC.mk (by omega) ?_
      refine ⟨k + 1, ⟨⟨rfl, rfl, rfl⟩, e2.trans e3, by omega, ?_⟩, by omega⟩
      rw [List.take_succ_eq_append_getElem hk', List.take_succ_eq_append_getElem hk2, heq, he]
  · have hk' : k = xs.length := by omega
    subst hk'
    rw [List.take_length, hl, List.take_length] at heq
    exact ⟨bool_t heq, e2⟩

/-- the marks from k on, n of them -/
def glanceMk (k : Int) : Nat → List GlanceD
  | 0 => []
  | n + 1 => ⟨(k % 3 == 0), (k + 1)⟩ :: glanceMk (k + 2) n
theorem glanceMk_length (k : Int) (n : Nat) : (glanceMk k n).length = n := by
  induction n generalizing k with
  | zero => rfl
  | succ n ih => simp [glanceMk, ih]
theorem glanceMk_get (k : Int) (n i : Nat) (h : i < n) : (glanceMk k n)[i]? = some ⟨((k + 2 * (i : Int)) % 3 == 0), ((k + 2 * (i : Int)) + 1)⟩ := by
  induction n generalizing k i with
  | zero => omega
  | succ n ih =>
    cases i with
    | zero => simp [glanceMk]
    | succ i =>
      simp only [glanceMk, List.getElem?_cons_succ]
      rw [ih (k + 2) i (by omega)]
      have e : k + 2 + 2 * (i : Int) = k + 2 * ((i + 1 : Nat) : Int) := by omega
      rw [e]
theorem glanceMk_succ (k : Int) (n : Nat) : glanceMk k (n + 1) = glanceMk k n ++ [⟨((k + 2 * (n : Int)) % 3 == 0), ((k + 2 * (n : Int)) + 1)⟩] := by
  induction n generalizing k with
  | zero => simp [glanceMk]
  | succ n ih =>
    rw [glanceMk, ih (k + 2), glanceMk]
    have e : k + 2 + 2 * (n : Int) = k + 2 * ((n + 1 : Nat) : Int) := by omega
    rw [e]
    rfl

theorem markGlanceS_ok (v : Value) (xs : List GlanceD) (k : Int) (h : Heap) (hs : SlO h v xs) (h0 : 0 ≤ k) (h1 : k ≤ 1152921504606846976) (hb : xs.length ≤ 1152921504606846) :
    Cn f_laws_markGlanceS [v, .int .i64 k] h fun r h' => r = .int .i64 (k + 2 * (xs.length : Int)) ∧ SlO h' v (glanceMk k xs.length) ∧ Mod (blks v) h h' ∧ h'.size = h.size := by
  refine calls_of r_laws_markGlanceS ?_
  refine LoopVC.mk (α := Nat) (fun j => [(0, v), (1, .int .i64 (k + 2 * (j : Int))), (5, .int .i64 (j : Int))]) (fun j h2 => j ≤ xs.length ∧ Mod (blks v) h h2 ∧ h2.size = h.size ∧ SlO h2 v (glanceMk k j ++ xs.drop j)) (fun j => xs.length - j) 0 ⟨rfl, (by show Value.int .i64 k = Value.int .i64 (k + 2 * ((0 : Nat) : Int)); simp), rfl⟩ ⟨by omega, Mod.refl _ h, rfl, by simpa [glanceMk] using hs⟩ ?_
  rintro j R h2 ⟨hj, hm2, hsz2, ho2⟩
  have hl2 : (glanceMk k j ++ xs.drop j).length = xs.length := by simp [glanceMk_length]; omega
  refine ho2.lenVC ?_
  rw [hl2]
  refine CondVC.mk (fun hlt => ?_) (fun hlt => ?_)
  · have hj' : j < xs.length := by omega
    have hx : (glanceMk k j ++ xs.drop j)[j]? = some xs[j] := by
      rw [List.getElem?_append_right (by rw [glanceMk_length]; omega), glanceMk_length, Nat.sub_self, List.drop_eq_getElem_cons hj']; rfl
    obtain ⟨y0, y1, hxj⟩ : ∃ y0 y1, xs[j] = ⟨y0, y1⟩ := ⟨xs[j].next, xs[j].signal, rfl⟩
    rw [hxj] at hx
    refine RemVC.mk (by omega) (by omega) ?_
    refine ho2.idx rfl (by (try simp only [List.length_set]); omega) ?_
    dsimp only [vcOps, MOp.wp, EOp.wp, POp.wp, runG, ev, Env.putO, Env.put, Env.puts]
    refine ho2.store (k := j) (j := 0) (x' := ⟨((k + 2 * (j : Int)) % 3 == 0), y1⟩) (us := [.bool ((k + 2 * (j : Int)) % 3 == 0)]) hx rfl rfl rfl (by simp [Enc.sz]) (by simp [spl, Enc.cells]) (by simp [Value.oneCell']) (fun g0 mm0 sz0 oo0 => ?_)
    refine ArithVC.mk (by omega) ?_
    refine oo0.idx rfl (by (try simp only [List.length_set]); omega) ?_
    dsimp only [vcOps, MOp.wp, EOp.wp, POp.wp, runG, ev, Env.putO, Env.put, Env.puts]
    refine oo0.store (k := j) (j := 1) (x' := ⟨((k + 2 * (j : Int)) % 3 == 0), (k + 2 * (j : Int) + 1)⟩) (us := [.int .i64 (k + 2 * (j : Int) + 1)]) (by rw [List.getElem?_set_self (by (try simp only [List.length_set]); omega)]) rfl rfl rfl (by simp [Enc.sz]) (by simp [spl, Enc.cells]) (by simp [Value.oneCell']) (fun g1 mm1 sz1 oo1 => ?_)
    refine ArithVC.mk (by omega) ?_
    rw [List.set_set] at oo1
    refine ArithVC.mk (by omega) ?_
    refine ⟨j + 1, ⟨⟨rfl, ?_, rfl⟩, by omega, ((hm2.trans mm0).trans mm1), by omega, ?_⟩, by omega⟩
    · show Value.int .i64 (k + 2 * (j : Int) + 1 + 1) = Value.int .i64 (k + 2 * ((j + 1 : Nat) : Int))
      congr 1; omega
    · have e : (glanceMk k j ++ xs.drop j).set j ⟨((k + 2 * (j : Int)) % 3 == 0), ((k + 2 * (j : Int)) + 1)⟩ = glanceMk k (j + 1) ++ xs.drop (j + 1) := by
        rw [List.set_append_right _ _ (by rw [glanceMk_length]; omega), glanceMk_length, Nat.sub_self, List.drop_eq_getElem_cons hj', List.set_cons_zero, glanceMk_succ, List.append_assoc]
        rfl
      rw [← e]
      exact oo1
  · have hj' : j = xs.length := by omega
    subst hj'
    simp only [List.drop_length, List.append_nil] at ho2
    exact ⟨rfl, ho2, hm2, hsz2⟩

theorem heldGlanceS_ok (v : Value) (n : Nat) (k : Int) (h : Heap) (hs : Sl h v (glanceMk k n)) (h0 : 0 ≤ k) (h1 : k ≤ 1152921504606846976) (hb : n ≤ 1152921504606846) :
    Cn f_laws_heldGlanceS [v, .int .i64 k] h fun r h' => r = .int .i64 (k + 2 * (n : Int)) ∧ h' = h := by
  refine calls_of r_laws_heldGlanceS ?_
  refine LoopVC.mk (α := Nat) (fun j => [(0, v), (1, .int .i64 (k + 2 * (j : Int))), (5, .int .i64 (j : Int))]) (fun j h2 => h2 = h ∧ j ≤ n) (fun j => n - j) 0 ⟨rfl, (by show Value.int .i64 k = Value.int .i64 (k + 2 * ((0 : Nat) : Int)); simp), rfl⟩ ⟨rfl, by omega⟩ ?_
  rintro j R h2 ⟨rfl, hj⟩
  refine hs.lenVC ?_
  rw [glanceMk_length]
  refine CondVC.mk (fun hlt => ?_) (fun hlt => ?_)
  · have hj' : j < n := by omega
    have hx := glanceMk_get k n j hj'
    refine hs.idx rfl (by rw [glanceMk_length]; omega) ?_
    refine hs.load (j := 0) hx rfl rfl ?_
    refine RemVC.mk (by omega) (by omega) ?_
    refine CondVC.no (by simp) ?_
    refine ArithVC.mk (by omega) ?_
    refine hs.idx rfl (by rw [glanceMk_length]; omega) ?_
    refine hs.load (j := 1) hx rfl rfl ?_
    refine CondVC.no (by simp) ?_
    refine ArithVC.mk (by omega) ?_
    refine ArithVC.mk (by omega) ?_
    refine ⟨j + 1, ⟨⟨rfl, ?_, rfl⟩, rfl, by omega⟩, by omega⟩
    show Value.int .i64 (k + 2 * (j : Int) + 1 + 1) = Value.int .i64 (k + 2 * ((j + 1 : Nat) : Int))
    congr 1; omega
  · have hj' : j = n := by omega
    subst hj'
    exact ⟨rfl, rfl⟩

theorem szGlanceS_ok (v : Value) (xs : List GlanceD) (k : Int) (h : Heap) (hs : Sl h v xs) (h0 : 0 ≤ k) (h1 : k ≤ 1048576) :
    Cn f_laws_szGlanceS [v, .int .i64 k] h fun r h' => ∃ m : Int, r = .int .i64 m ∧ Ext h h' ∧ (0 ≤ m → m = k - (xs.length : Int)) ∧ m ≤ k := by
  refine calls_of r_laws_szGlanceS ?_
  refine hs.lenVC ?_
  have := hs.len63
  refine ArithVC.mk (by omega) ?_
  refine CondVC.mk (fun c => ?_) (fun c => ?_)
  · exact ⟨-1, rfl, Ext.refl h, by omega, by omega⟩
  · exact ⟨_, rfl, Ext.refl h, fun _ => rfl, by omega⟩
end Go.Proofs.Ytgfokmjnfaopaaa
