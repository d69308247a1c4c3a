/- Lines: what the functions return (without those of wrong signals). Condition: none. -/
import Derived.Test.YtckkablifoblbaaLn7
namespace Go.Proofs.Ytckkablifoblbaa
open Go.Vc
set_option linter.all false

def glOut (t r : Int) (sg sc : List Int) : Int × Bool := if Asked t r sg sc then (((runOf t r sg sc).2.1 : Int), true) else (0, false)
def stOut (t r : Int) (sg sc : List Int) : Int × Int × Bool := if Asked t r sg sc then ((runOf t r sg sc).sig, (runOf t r sg sc).tow, (runOf t r sg sc).2.2.isSome) else (0, 0, false)
def haOut (t r : Int) (sg sc : List Int) (w : Int) : List Int × Bool := if Asked t r sg sc ∧ 0 ≤ w ∧ w ≤ t - 1 then ((runOf t r sg sc).1.getD w.toNat [], true) else ([], false)
def plOut (t r : Int) (sg sc : List Int) : List Int × Bool × Bool := if Asked t r sg sc then ((runOf t r sg sc).1.getD (t.toNat - 1) [], !(runOf t r sg sc).2.2.isSome, true) else ([], false, false)
/-- the indices of what differs -/
def wrongF (sg : List Int) : List Int → Nat → List Int
  | [], _ => []
  | n :: r, i => if n ≠ sg.getD i 0 then (i : Int) :: wrongF sg r (i + 1) else wrongF sg r (i + 1)
def wsOut (t r : Int) (sg sc : List Int) : List Int × Bool := if Asked t r sg sc then (wrongF sg ((runOf t r sg sc).1.getD (t.toNat - 1) []) 0, true) else ([], false)
/-- the least number of tries, k of them from 6 - k on -/
def leastF (t : Int) (sg sc : List Int) : Nat → Int × Bool
  | 0 => (0, false)
  | k + 1 => if (runOf t (5 - k) sg sc).2.2.isSome then leastF t sg sc k else (5 - k, true)
def ltOut (t r : Int) (sg sc : List Int) : Int × Bool := if Asked t r sg sc then leastF t sg sc 5 else (0, false)

theorem rowlen (t r : Int) (sg sc : List Int) (i : Nat) : ((runOf t r sg sc).1.getD i []).length ≤ sg.length := by
  have := runF_len (sc := sc) (tries := r.toNat) (gaps := t.toNat - 1) sg 0 0 (List.replicate t.toNat []) 0 (fun j => getD_rep _ _) i
  simpa [runOf] using this
theorem wrongF_len (sg : List Int) : ∀ (l : List Int) (i : Nat), (wrongF sg l i).length ≤ l.length
  | [], _ => by simp [wrongF]
  | n :: r, i => by
    have := wrongF_len sg r (i + 1)
    simp only [wrongF]
    split <;> simp only [List.length_cons] <;> omega
theorem haOut_len (t r : Int) (sg sc : List Int) (w : Int) : (haOut t r sg sc w).1.length ≤ 1048576 := by
  unfold haOut
  split
  · rename_i c; have := rowlen t r sg sc w.toNat; have := c.1.2.1.1; simp only; omega
  · simp
theorem plOut_len (t r : Int) (sg sc : List Int) : (plOut t r sg sc).1.length ≤ 1048576 := by
  unfold plOut
  split
  · rename_i c; have := rowlen t r sg sc (t.toNat - 1); have := c.2.1.1; simp only; omega
  · simp
theorem wsOut_len (t r : Int) (sg sc : List Int) : (wsOut t r sg sc).1.length ≤ 1048576 := by
  unfold wsOut
  split
  · rename_i c; have := rowlen t r sg sc (t.toNat - 1); have := c.2.1.1; have := wrongF_len sg ((runOf t r sg sc).1.getD (t.toNat - 1) []) 0; simp only; omega
  · simp

/-- two numbers and a bool -/
def IB (h h' : Heap) (v : Value) (o : Int × Bool) : Prop := v = .tuple #[.int .i64 o.1, .bool o.2] ∧ Ext h h'
def IIB (h h' : Heap) (v : Value) (o : Int × Int × Bool) : Prop := v = .tuple #[.int .i64 o.1, .int .i64 o.2.1, .bool o.2.2] ∧ Ext h h'
def SlBB (h h' : Heap) (v : Value) (o : List Int × Bool × Bool) : Prop := ∃ r, v = .tuple #[r, .bool o.2.1, .bool o.2.2] ∧ SlO h' r o.1 ∧ Ext h h' ∧ Fr h.size r
theorem IB.mk {h h' : Heap} {o : Int × Bool} {a : Int} {b : Bool} (ho : o = (a, b)) (e : Ext h h') : IB h h' (.tuple #[.int .i64 a, .bool b]) o := by subst ho; exact ⟨rfl, e⟩
theorem IIB.mk {h h' : Heap} {o : Int × Int × Bool} {a c : Int} {b : Bool} (ho : o = (a, c, b)) (e : Ext h h') : IIB h h' (.tuple #[.int .i64 a, .int .i64 c, .bool b]) o := by subst ho; exact ⟨rfl, e⟩
theorem SlBB.mk {h h' : Heap} {r : Value} {o : List Int × Bool × Bool} {ys : List Int} {b c : Bool} (ho : o = (ys, b, c)) (hs : SlO h' r ys) (e : Ext h h') (f : Fr h.size r) : SlBB h h' (.tuple #[r, .bool b, .bool c]) o := by
  subst ho; exact ⟨r, rfl, hs, e, f⟩

theorem Held.rowD {β : Type} [Enc β] {h : Heap} {H : Value} {svs : List SV} {LL : List (List β)} {lo : Nat} {av : List Nat} (hh : Held h H svs LL lo av) {i : Nat} (hi : i < LL.length) : ∃ s, svs[i]? = some s ∧ SlO h s.v (LL.getD i []) ∧ Fr lo s.v := by
  obtain ⟨s, h1, h2, h3, _⟩ := hh.one hi
  refine ⟨s, h1, ?_, h3⟩
  rw [List.getD_eq_getElem?_getD, List.getElem?_eq_getElem hi, Option.getD_some]; exact h2
theorem runOf_rows (t r : Int) (sg sc : List Int) : (runOf t r sg sc).1.length = t.toNat := by
  rw [runOf, runF_rows]; simp
theorem stuck_neg (x : Run) : x.stuck < 0 ↔ x.2.2.isSome = false := by
  unfold Run.stuck
  cases x.2.2 <;> simp


theorem specLineGlances_ok (t r : Int) (sgv : Value) (sg : List Int) (scv : Value) (sc : List Int) (h : Heap) (hg : Sl h sgv sg) (hs : Sl h scv sc) :
    Cn f_spec_LineGlances [lineV t r, sgv, scv] h fun v h' => IB h h' v (glOut t r sg sc) := by
  refine calls_of r_spec_LineGlances ?_
  refine AllocVC.mk [.int .i64 t, .int .i64 r] rfl (fun h1 b hb hsz he hbx => ?_)
  refine hbx.loadA rfl ?_
  refine (liAsked_ok _ _ _ _ _ _ _ (hg.ext he) (hs.ext he)).mono ?_
  rintro _ h2 ⟨rfl, e2⟩
  have e02 := he.trans e2
  have hbx2 := hbx.ext e2
  refine CondVC.mk (fun c => ?_) (fun c => ?_)
  · exact IB.mk (by rw [glOut, if_neg c]) e02
  have c := Classical.not_not.1 c
  have ht := c.1.1
  have hr := c.1.2
  refine hbx2.loadA rfl ?_
  refine (liRun_ok t r sgv scv sg sc h2 ht hr (hg.ext e02) (hs.ext e02) c.2.1.1 c.2.1.2 c.2.2.2).mono ?_
  rintro _ h3 ⟨X, H, svs, rfl, bX, hh, e3, hX⟩
  have e03 := e02.trans e3
  have hz := e02.size
  refine bX.load rfl ?_
  exact IB.mk (by rw [glOut, if_pos c]) e03

theorem specStuckAt_ok (t r : Int) (sgv : Value) (sg : List Int) (scv : Value) (sc : List Int) (h : Heap) (hg : Sl h sgv sg) (hs : Sl h scv sc) :
    Cn f_spec_StuckAt [lineV t r, sgv, scv] h fun v h' => IIB h h' v (stOut t r sg sc) := by
  refine calls_of r_spec_StuckAt ?_
  refine AllocVC.mk [.int .i64 t, .int .i64 r] rfl (fun h1 b hb hsz he hbx => ?_)
  refine hbx.loadA rfl ?_
  refine (liAsked_ok _ _ _ _ _ _ _ (hg.ext he) (hs.ext he)).mono ?_
  rintro _ h2 ⟨rfl, e2⟩
  have e02 := he.trans e2
  have hbx2 := hbx.ext e2
  refine CondVC.mk (fun c => ?_) (fun c => ?_)
  · exact IIB.mk (by rw [stOut, if_neg c]) e02
  have c := Classical.not_not.1 c
  have ht := c.1.1
  have hr := c.1.2
  refine hbx2.loadA rfl ?_
  refine (liRun_ok t r sgv scv sg sc h2 ht hr (hg.ext e02) (hs.ext e02) c.2.1.1 c.2.1.2 c.2.2.2).mono ?_
  rintro _ h3 ⟨X, H, svs, rfl, bX, hh, e3, hX⟩
  have e03 := e02.trans e3
  have hz := e02.size
  refine bX.load rfl (bX.load rfl (bX.load rfl ?_))
  exact IIB.mk (by rw [stOut, if_pos c]) e03

theorem specLeastLineTries_ok (t r : Int) (sgv : Value) (sg : List Int) (scv : Value) (sc : List Int) (h : Heap) (hg : Sl h sgv sg) (hs : Sl h scv sc) :
    Cn f_spec_LeastLineTries [lineV t r, sgv, scv] h fun v h' => IB h h' v (ltOut t r sg sc) := by
  refine calls_of r_spec_LeastLineTries ?_
  refine AllocVC.mk [.int .i64 t, .int .i64 r] rfl (fun h1 b hb hsz he hbx => ?_)
  refine hbx.loadA rfl ?_
  refine (liAsked_ok _ _ _ _ _ _ _ (hg.ext he) (hs.ext he)).mono ?_
  rintro _ h2 ⟨rfl, e2⟩
  have e02 := he.trans e2
  have hbx2 := hbx.ext e2
  refine CondVC.mk (fun c => ?_) (fun c => ?_)
  · exact IB.mk (by rw [ltOut, if_neg c]) e02
  have c := Classical.not_not.1 c
  have ht := c.1.1
  have hr := c.1.2
  refine LoopVC.mk (α := Nat × Int) (fun s => [(1, sgv), (2, scv), (3, ptr b), (8, .int .i64 (6 - (s.1 : Int)))]) (fun s h3 => s.1 ≤ 5 ∧ Ext h h3 ∧ Bx h3 b [.int .i64 t, .int .i64 s.2] 25 ∧ b < h3.size ∧ leastF t sg sc s.1 = ltOut t r sg sc) (fun s => s.1) (5, r) ⟨rfl, rfl, rfl, (by show Value.int .i64 1 = Value.int .i64 (6 - ((5 : Nat) : Int)); rfl)⟩ ⟨by simp, e02, hbx2, hbx2.lt, by rw [ltOut, if_pos c]⟩ ?_
  rintro ⟨k, r'⟩ R h3 ⟨hk, e3, hbx3, hlt3, hl⟩
  simp only at hk hbx3 hl
  refine CondVC.mk (fun c2 => ?_) (fun c2 => ?_)
  · simp only at c2
    cases k with
    | zero => exact absurd c2 (by simp)
    | succ k =>
    have ek : (6 : Int) - ((k + 1 : Nat) : Int) = 5 - (k : Int) := by omega
    simp only [ek]
    refine hbx3.store (us := [.int .i64 (5 - (k : Int))]) rfl rfl (by simp) (by simp [Value.oneCell']) (fun h4 m4 s4 hbx4 => ?_)
    have e4 := e3.mod m4 (by simp; omega)
    have hbx4 : Bx h4 b [.int .i64 t, .int .i64 (5 - (k : Int))] 25 := hbx4
    refine hbx4.loadA rfl ?_
    refine (liRun_ok t (5 - (k : Int)) sgv scv sg sc h4 ht (by omega) (hg.ext e4) (hs.ext e4) c.2.1.1 c.2.1.2 c.2.2.2).mono ?_
    rintro _ h5 ⟨X, H, svs, rfl, bX, hh, e5, hX⟩
    have e05 := e4.trans e5
    have hbx5 := hbx4.ext e5
    refine bX.load rfl ?_
    refine CondVC.mk (fun c3 => ?_) (fun c3 => ?_)
    · refine IB.mk ?_ e05
      rw [← hl, leastF, if_neg (by simpa using c3)]
    · have c3 := Classical.not_not.1 c3
      rw [leastF, if_pos c3] at hl
      refine ArithVC.mk (by omega) ?_
      refine ⟨(k, 5 - (k : Int)), ⟨⟨rfl, rfl, rfl, ?_⟩, by simp only; omega, e05, hbx5, hbx5.lt, hl⟩, by simp⟩
      show Value.int .i64 (5 - (k : Int) + 1) = .int .i64 (6 - (k : Int))
      congr 1; omega
  · simp only at c2
    have hk0 : k = 0 := by omega
    subst hk0
    exact IB.mk (by rw [← hl, leastF]) e3

theorem specHeldAtTower_ok (t r : Int) (sgv : Value) (sg : List Int) (scv : Value) (sc : List Int) (w : Int) (h : Heap) (hg : Sl h sgv sg) (hs : Sl h scv sc) :
    Cn f_spec_HeldAtTower [lineV t r, sgv, scv, .int .i64 w] h fun v h' => SlB h h' v (haOut t r sg sc w) := by
  refine calls_of r_spec_HeldAtTower ?_
  refine AllocVC.mk [.int .i64 t, .int .i64 r] rfl (fun h1 b hb hsz he hbx => ?_)
  refine hbx.loadA rfl ?_
  refine (liAsked_ok _ _ _ _ _ _ _ (hg.ext he) (hs.ext he)).mono ?_
  rintro _ h2 ⟨rfl, e2⟩
  have e02 := he.trans e2
  have hbx2 := hbx.ext e2
  have bad : ¬ (Asked t r sg sc ∧ 0 ≤ w ∧ w ≤ t - 1) → SlB h h2 (.tuple #[.slice none 0 0, .bool false]) (haOut t r sg sc w) := by
    intro hn
    exact SlB.mk (by rw [haOut, if_neg hn]) (SlX.nil true h2) e02 (Fr.nil _)
  refine SplitVC.mk (fun c => ?_) (fun c => ?_)
  · exact CondVC.t (bad fun ha => c ha.1)
  have c := Classical.not_not.1 c
  have ht := c.1.1
  have hr := c.1.2
  refine hbx2.load rfl ?_
  refine ArithVC.mk (by omega) ?_
  refine (l1In_ok _ _ _ _).mono ?_
  rintro _ h2 ⟨rfl, rfl⟩
  refine CondVC.mk (fun c2 => ?_) (fun c2 => ?_)
  · exact bad fun ha => c2 ha.2
  have c2 := Classical.not_not.1 c2
  refine hbx2.loadA rfl ?_
  refine (liRun_ok t r sgv scv sg sc h2 ht hr (hg.ext e02) (hs.ext e02) c.2.1.1 c.2.1.2 c.2.2.2).mono ?_
  rintro _ h3 ⟨X, H, svs, rfl, bX, hh, e3, hX⟩
  have e03 := e02.trans e3
  have hz := e02.size
  have hrow : w.toNat < (runOf t r sg sc).1.length := by rw [runOf_rows]; omega
  obtain ⟨s, hs1, hs2, hs3⟩ := Held.rowD hh hrow
  refine bX.load rfl ?_
  refine hh.row.idx (k := w.toNat) (by omega) (by rw [hh.len]; exact hrow) ?_
  refine hh.row.load1 hs1 rfl ?_
  exact SlB.mk (by rw [haOut, if_pos ⟨c, c2⟩]) hs2 e03 (hs3.mono hz)

theorem specPassLine_ok (t r : Int) (sgv : Value) (sg : List Int) (scv : Value) (sc : List Int) (h : Heap) (hg : Sl h sgv sg) (hs : Sl h scv sc) :
    Cn f_spec_PassLine [lineV t r, sgv, scv] h fun v h' => SlBB h h' v (plOut t r sg sc) := by
  refine calls_of r_spec_PassLine ?_
  refine AllocVC.mk [.int .i64 t, .int .i64 r] rfl (fun h1 b hb hsz he hbx => ?_)
  refine hbx.loadA rfl ?_
  refine (liAsked_ok _ _ _ _ _ _ _ (hg.ext he) (hs.ext he)).mono ?_
  rintro _ h2 ⟨rfl, e2⟩
  have e02 := he.trans e2
  have hbx2 := hbx.ext e2
  refine CondVC.mk (fun c => ?_) (fun c => ?_)
  · exact SlBB.mk (by rw [plOut, if_neg c]) (SlX.nil true h2) e02 (Fr.nil _)
  have c := Classical.not_not.1 c
  have ht := c.1.1
  have hr := c.1.2
  refine hbx2.loadA rfl ?_
  refine (liRun_ok t r sgv scv sg sc h2 ht hr (hg.ext e02) (hs.ext e02) c.2.1.1 c.2.1.2 c.2.2.2).mono ?_
  rintro _ h3 ⟨X, H, svs, rfl, bX, hh, e3, hX⟩
  have e03 := e02.trans e3
  have hz := e02.size
  have hrow : t.toNat - 1 < (runOf t r sg sc).1.length := by rw [runOf_rows]; omega
  obtain ⟨s, hs1, hs2, hs3⟩ := Held.rowD hh hrow
  refine bX.load rfl ?_
  refine (hbx2.ext e3).load rfl ?_
  refine ArithVC.mk (by omega) ?_
  refine hh.row.idx (k := t.toNat - 1) (by omega) (by rw [hh.len]; exact hrow) ?_
  refine hh.row.load1 hs1 rfl ?_
  refine bX.load rfl ?_
  exact SlBB.mk (by rw [plOut, if_pos c]) hs2 e03 (hs3.mono hz)

theorem implLineGlances_ok (t r : Int) (sgv : Value) (sg : List Int) (scv : Value) (sc : List Int) (h : Heap) (hg : Sl h sgv sg) (hs : Sl h scv sc) :
    Cn f_impl_LineGlances [lineV t r, sgv, scv] h fun v h' => IB h h' v (glOut t r sg sc) := by
  refine calls_of r_impl_LineGlances ?_
  refine AllocVC.mk [.int .i64 t, .int .i64 r] rfl (fun h1 b hb hsz he hbx => ?_)
  refine hbx.loadA rfl ?_
  refine (lineAsked_ok _ _ _ _ _ _ _ (hg.ext he) (hs.ext he)).mono ?_
  rintro _ h2 ⟨rfl, e2⟩
  have e02 := he.trans e2
  have hbx2 := hbx.ext e2
  refine CondVC.mk (fun c => ?_) (fun c => ?_)
  · exact IB.mk (by rw [glOut, if_neg c]) e02
  have c := Classical.not_not.1 c
  have ht := c.1.1
  have hr := c.1.2
  refine hbx2.loadA rfl ?_
  refine (passLine_ok t r sgv scv sg sc h2 ht hr (hg.ext e02) (hs.ext e02) c.2.1.1 c.2.1.2 c.2.2.2).mono ?_
  rintro _ h3 ⟨H, svs, rfl, hh, e3⟩
  have e03 := e02.trans e3
  have hz := e02.size
  exact IB.mk (by rw [glOut, if_pos c]) e03

theorem implStuckAt_ok (t r : Int) (sgv : Value) (sg : List Int) (scv : Value) (sc : List Int) (h : Heap) (hg : Sl h sgv sg) (hs : Sl h scv sc) :
    Cn f_impl_StuckAt [lineV t r, sgv, scv] h fun v h' => IIB h h' v (stOut t r sg sc) := by
  refine calls_of r_impl_StuckAt ?_
  refine AllocVC.mk [.int .i64 t, .int .i64 r] rfl (fun h1 b hb hsz he hbx => ?_)
  refine hbx.loadA rfl ?_
  refine (lineAsked_ok _ _ _ _ _ _ _ (hg.ext he) (hs.ext he)).mono ?_
  rintro _ h2 ⟨rfl, e2⟩
  have e02 := he.trans e2
  have hbx2 := hbx.ext e2
  refine CondVC.mk (fun c => ?_) (fun c => ?_)
  · exact IIB.mk (by rw [stOut, if_neg c]) e02
  have c := Classical.not_not.1 c
  have ht := c.1.1
  have hr := c.1.2
  refine hbx2.loadA rfl ?_
  refine (passLine_ok t r sgv scv sg sc h2 ht hr (hg.ext e02) (hs.ext e02) c.2.1.1 c.2.1.2 c.2.2.2).mono ?_
  rintro _ h3 ⟨H, svs, rfl, hh, e3⟩
  have e03 := e02.trans e3
  have hz := e02.size
  obtain ⟨Ha, Hc, eH⟩ := hh.row.shape
  subst eH
  refine AllocVC.mk [.slice none 0 0, .int .i64 0, .int .i64 0, .int .i64 0] rfl (fun h4 X hX hsz4 he4 bX => ?_)
  refine bX.store (us := [.slice Ha svs.length Hc, .int .i64 ((runOf t r sg sc).2.1 : Int), .int .i64 (runOf t r sg sc).stuck, .int .i64 (runOf t r sg sc).tow]) rfl rfl (by simp) (by simp [Value.oneCell']) (fun h5 m5 s5 bX => ?_)
  have e05 := (e03.trans he4).mod m5 (by have := e3.size; simp; omega)
  refine bX.load rfl ?_
  have hsn := stuck_neg (runOf t r sg sc)
  refine CondVC.mk (fun c2 => ?_) (fun c2 => ?_)
  · refine IIB.mk ?_ e05
    rw [stOut, if_pos c]
    have h0 := hsn.1 c2
    unfold Run.sig Run.tow
    cases hx : (runOf t r sg sc).2.2 with
    | none => rfl
    | some p => rw [hx] at h0; cases h0
  · refine bX.load rfl (bX.load rfl ?_)
    refine IIB.mk ?_ e05
    rw [stOut, if_pos c]
    unfold Run.sig Run.stuck
    cases hx : (runOf t r sg sc).2.2 with
    | none => exact absurd (hsn.2 (by rw [hx]; rfl)) c2
    | some p => rfl

theorem implLeastLineTries_ok (t r : Int) (sgv : Value) (sg : List Int) (scv : Value) (sc : List Int) (h : Heap) (hg : Sl h sgv sg) (hs : Sl h scv sc) :
    Cn f_impl_LeastLineTries [lineV t r, sgv, scv] h fun v h' => IB h h' v (ltOut t r sg sc) := by
  refine calls_of r_impl_LeastLineTries ?_
  refine AllocVC.mk [.int .i64 t, .int .i64 r] rfl (fun h1 b hb hsz he hbx => ?_)
  refine hbx.loadA rfl ?_
  refine (lineAsked_ok _ _ _ _ _ _ _ (hg.ext he) (hs.ext he)).mono ?_
  rintro _ h2 ⟨rfl, e2⟩
  have e02 := he.trans e2
  have hbx2 := hbx.ext e2
  refine CondVC.mk (fun c => ?_) (fun c => ?_)
  · exact IB.mk (by rw [ltOut, if_neg c]) e02
  have c := Classical.not_not.1 c
  have ht := c.1.1
  have hr := c.1.2
  refine LoopVC.mk (α := Nat × Int) (fun s => [(1, sgv), (2, scv), (3, ptr b), (8, .int .i64 (6 - (s.1 : Int)))]) (fun s h3 => s.1 ≤ 5 ∧ Ext h h3 ∧ Bx h3 b [.int .i64 t, .int .i64 s.2] 25 ∧ b < h3.size ∧ leastF t sg sc s.1 = ltOut t r sg sc) (fun s => s.1) (5, r) ⟨rfl, rfl, rfl, (by show Value.int .i64 1 = Value.int .i64 (6 - ((5 : Nat) : Int)); rfl)⟩ ⟨by simp, e02, hbx2, hbx2.lt, by rw [ltOut, if_pos c]⟩ ?_
  rintro ⟨k, r'⟩ R h3 ⟨hk, e3, hbx3, hlt3, hl⟩
  simp only at hk hbx3 hl
  refine CondVC.mk (fun c2 => ?_) (fun c2 => ?_)
  · simp only at c2
    cases k with
    | zero => exact absurd c2 (by simp)
    | succ k =>
    have ek : (6 : Int) - ((k + 1 : Nat) : Int) = 5 - (k : Int) := by omega
    simp only [ek]
    refine hbx3.store (us := [.int .i64 (5 - (k : Int))]) rfl rfl (by simp) (by simp [Value.oneCell']) (fun h4 m4 s4 hbx4 => ?_)
    have e4 := e3.mod m4 (by simp; omega)
    have hbx4 : Bx h4 b [.int .i64 t, .int .i64 (5 - (k : Int))] 25 := hbx4
    refine hbx4.loadA rfl ?_
    refine (passLine_ok t (5 - (k : Int)) sgv scv sg sc h4 ht (by omega) (hg.ext e4) (hs.ext e4) c.2.1.1 c.2.1.2 c.2.2.2).mono ?_
    rintro _ h5 ⟨H, svs, rfl, hh, e5⟩
    have e05 := e4.trans e5
    have hbx5 := hbx4.ext e5
    have hsn := stuck_neg (runOf t (5 - (k : Int)) sg sc)
    refine CondVC.mk (fun c3 => ?_) (fun c3 => ?_)
    · refine IB.mk ?_ e05
      rw [← hl, leastF, if_neg (by rw [hsn.1 c3]; simp)]
    · have c3 : (runOf t (5 - (k : Int)) sg sc).2.2.isSome = true := by
        cases hx : (runOf t (5 - (k : Int)) sg sc).2.2.isSome with
        | true => rfl
        | false => exact absurd (hsn.2 hx) c3
      rw [leastF, if_pos c3] at hl
      refine ArithVC.mk (by omega) ?_
      refine ⟨(k, 5 - (k : Int)), ⟨⟨rfl, rfl, rfl, ?_⟩, by simp only; omega, e05, hbx5, hbx5.lt, hl⟩, by simp⟩
      show Value.int .i64 (5 - (k : Int) + 1) = .int .i64 (6 - (k : Int))
      congr 1; omega
  · simp only at c2
    have hk0 : k = 0 := by omega
    subst hk0
    exact IB.mk (by rw [← hl, leastF]) e3

theorem implHeldAtTower_ok (t r : Int) (sgv : Value) (sg : List Int) (scv : Value) (sc : List Int) (w : Int) (h : Heap) (hg : Sl h sgv sg) (hs : Sl h scv sc) :
    Cn f_impl_HeldAtTower [lineV t r, sgv, scv, .int .i64 w] h fun v h' => SlB h h' v (haOut t r sg sc w) := by
  refine calls_of r_impl_HeldAtTower ?_
  refine AllocVC.mk [.int .i64 t, .int .i64 r] rfl (fun h1 b hb hsz he hbx => ?_)
  refine hbx.loadA rfl ?_
  refine (lineAsked_ok _ _ _ _ _ _ _ (hg.ext he) (hs.ext he)).mono ?_
  rintro _ h2 ⟨rfl, e2⟩
  have e02 := he.trans e2
  have hbx2 := hbx.ext e2
  have bad : ¬ (Asked t r sg sc ∧ 0 ≤ w ∧ w ≤ t - 1) → SlB h h2 (.tuple #[.slice none 0 0, .bool false]) (haOut t r sg sc w) := by
    intro hn
    exact SlB.mk (by rw [haOut, if_neg hn]) (SlX.nil true h2) e02 (Fr.nil _)
  refine SplitVC.mk (fun c => ?_) (fun c => ?_)
  · exact CondVC.t (bad fun ha => c ha.1)
  have c := Classical.not_not.1 c
  have ht := c.1.1
  have hr := c.1.2
  refine hbx2.load rfl ?_
  refine ArithVC.mk (by omega) ?_
  refine (within_ok _ _ _ _).mono ?_
  rintro _ h2 ⟨rfl, rfl⟩
  refine CondVC.mk (fun c2 => ?_) (fun c2 => ?_)
  · exact bad fun ha => c2 ha.2
  have c2 := Classical.not_not.1 c2
  refine hbx2.loadA rfl ?_
  refine (passLine_ok t r sgv scv sg sc h2 ht hr (hg.ext e02) (hs.ext e02) c.2.1.1 c.2.1.2 c.2.2.2).mono ?_
  rintro _ h3 ⟨H, svs, rfl, hh, e3⟩
  have e03 := e02.trans e3
  have hz := e02.size
  have hrow : w.toNat < (runOf t r sg sc).1.length := by rw [runOf_rows]; omega
  obtain ⟨s, hs1, hs2, hs3⟩ := Held.rowD hh hrow
  refine hh.row.idx (k := w.toNat) (by omega) (by rw [hh.len]; exact hrow) ?_
  refine hh.row.load1 hs1 rfl ?_
  exact SlB.mk (by rw [haOut, if_pos ⟨c, c2⟩]) hs2 e03 (hs3.mono hz)

theorem implPassLine_ok (t r : Int) (sgv : Value) (sg : List Int) (scv : Value) (sc : List Int) (h : Heap) (hg : Sl h sgv sg) (hs : Sl h scv sc) :
    Cn f_impl_PassLine [lineV t r, sgv, scv] h fun v h' => SlBB h h' v (plOut t r sg sc) := by
  refine calls_of r_impl_PassLine ?_
  refine AllocVC.mk [.int .i64 t, .int .i64 r] rfl (fun h1 b hb hsz he hbx => ?_)
  refine hbx.loadA rfl ?_
  refine (lineAsked_ok _ _ _ _ _ _ _ (hg.ext he) (hs.ext he)).mono ?_
  rintro _ h2 ⟨rfl, e2⟩
  have e02 := he.trans e2
  have hbx2 := hbx.ext e2
  refine CondVC.mk (fun c => ?_) (fun c => ?_)
  · exact SlBB.mk (by rw [plOut, if_neg c]) (SlX.nil true h2) e02 (Fr.nil _)
  have c := Classical.not_not.1 c
  have ht := c.1.1
  have hr := c.1.2
  refine hbx2.loadA rfl ?_
  refine (passLine_ok t r sgv scv sg sc h2 ht hr (hg.ext e02) (hs.ext e02) c.2.1.1 c.2.1.2 c.2.2.2).mono ?_
  rintro _ h3 ⟨H, svs, rfl, hh, e3⟩
  have e03 := e02.trans e3
  have hz := e02.size
  have hrow : t.toNat - 1 < (runOf t r sg sc).1.length := by rw [runOf_rows]; omega
  obtain ⟨s, hs1, hs2, hs3⟩ := Held.rowD hh hrow
  obtain ⟨Ha, Hc, eH⟩ := hh.row.shape
  subst eH
  refine AllocVC.mk [.slice none 0 0, .int .i64 0, .int .i64 0, .int .i64 0] rfl (fun h4 X hX hsz4 he4 bX => ?_)
  refine bX.store (us := [.slice Ha svs.length Hc, .int .i64 ((runOf t r sg sc).2.1 : Int), .int .i64 (runOf t r sg sc).stuck, .int .i64 (runOf t r sg sc).tow]) rfl rfl (by simp) (by simp [Value.oneCell']) (fun h5 m5 s5 bX => ?_)
  have hz3 := e3.size
  have e05 := (e03.trans he4).mod m5 (by simp; omega)
  have row5 := (hh.row.ext he4).mod m5 (fun b hb hc => by have := hh.row.lt b hb; simp at hc; omega)
  have hs5 := (hs2.ext he4).mod m5 (fun b hb hc => by have := hs2.lt b hb; simp at hc; omega)
  refine bX.load rfl ?_
  refine (((hbx2.ext e3).ext he4).mod m5 (by have := hbx2.lt; simp; omega)).load rfl ?_
  refine ArithVC.mk (by omega) ?_
  refine row5.idx (k := t.toNat - 1) (by omega) (by rw [hh.len]; exact hrow) ?_
  refine row5.load1 hs1 rfl ?_
  refine bX.load rfl ?_
  refine SlBB.mk ?_ hs5 e05 (hs3.mono hz)
  rw [plOut, if_pos c]
  have hsn := stuck_neg (runOf t r sg sc)
  congr 2
  cases hx : (runOf t r sg sc).2.2.isSome with
  | true => simp only [Bool.not_true]; symm; exact decide_eq_false (fun hc => by have := hsn.1 hc; rw [hx] at this; cases this)
  | false => simp only [Bool.not_false]; symm; exact decide_eq_true (hsn.2 hx)

theorem liWrong_ok (sgv : Value) (sg : List Int) (v : Value) (xs : List Int) (h : Heap) (hg : Sl h sgv sg) (hv : Sl h v xs) (hl : xs.length ≤ sg.length) (hb : sg.length ≤ 1000000) :
    Cn f_spec_liWrong [sgv, v] h fun r h' => SlO h' r (wrongF sg xs 0) ∧ Ext h h' ∧ Fr h.size r := by
  refine calls_of r_spec_liWrong ?_
  refine hv.lenVC ?_
  refine LoopVC.mk (α := Nat × Value × List Int) (fun s => [(0, sgv), (5, s.2.1), (8, v), (9, .int .i64 (xs.length : Int)), (10, .int .i64 (s.1 : Int))]) (fun s h2 => s.1 ≤ xs.length ∧ Ext h h2 ∧ SlO h2 s.2.1 s.2.2 ∧ Fr h.size s.2.1 ∧ s.2.2.length ≤ s.1 ∧ s.2.2 ++ wrongF sg (xs.drop s.1) s.1 = wrongF sg xs 0)
    (fun s => xs.length - s.1) (0, .slice none 0 0, []) ⟨rfl, rfl, rfl, rfl, rfl⟩ ⟨by omega, Ext.refl h, SlX.nil true h, Fr.nil _, by simp, rfl⟩ ?_
  rintro ⟨k, o, ys⟩ R h2 ⟨hk, e2, ho, hf, hlen, hw⟩
  simp only at hk ho hf hlen hw
  refine CondVC.mk (fun c => ?_) (fun c => ?_)
  · simp only at c
    have hk' : k < xs.length := by omega
    rw [List.drop_eq_getElem_cons hk', wrongF] at hw
    have hgd : sg.getD k 0 = sg[k] := by rw [List.getD_eq_getElem?_getD, List.getElem?_eq_getElem (by omega), Option.getD_some]
    refine (hv.ext e2).idx rfl hk' ?_
    refine (hv.ext e2).load1 (x := xs[k]) (by simp [hk']) rfl ?_
    refine (hg.ext e2).idx rfl (by omega) ?_
    refine (hg.ext e2).load1 (x := sg[k]) (List.getElem?_eq_getElem (by omega)) rfl ?_
    refine CondVC.mk (fun c2 => ?_) (fun c2 => ?_)
    · refine And.intro rfl ?_
      refine SlX.row [(k : Int)] rfl rfl (by simp [maxLen]) (fun w3 h3 he3 hsz3 hr3 hfr3 => ?_)
      refine (ho.ext he3).append hr3 rfl (by simp [maxLen]; omega) (by simp; omega) (fun o4 h4 hm4 ho4 hb4 => ?_)
      rw [if_pos (by rw [hgd]; exact c2)] at hw
      refine ArithVC.mk (by simp only; omega) ?_
      exact ⟨(k + 1, o4, ys ++ [(k : Int)]), ⟨⟨rfl, rfl, rfl, rfl, rfl⟩, by simp only; omega, (e2.trans he3).mod hm4 hf, ho4, hf.app hb4 (by have := (e2.trans he3).size; omega), by simp; omega, by simpa using hw⟩, by simp only; omega⟩
    · rw [if_neg (by rw [hgd]; exact c2)] at hw
      refine ArithVC.mk (by simp only; omega) ?_
      exact ⟨(k + 1, o, ys), ⟨⟨rfl, rfl, rfl, rfl, rfl⟩, by simp only; omega, e2, ho, hf, by simp only; omega, hw⟩, by simp only; omega⟩
  · simp only at c
    have hk' : k = xs.length := by omega
    subst hk'
    rw [List.drop_length, wrongF, List.append_nil] at hw
    subst hw
    exact ⟨ho, e2, hf⟩

theorem wrongSignals_ok (v : Value) (xs : List Int) (sgv : Value) (sg : List Int) (h : Heap) (hg : Sl h sgv sg) (hv : Sl h v xs) (hl : xs.length ≤ sg.length) (hb : sg.length ≤ 1000000) :
    Cn f_impl_wrongSignals [v, sgv] h fun r h' => SlO h' r (wrongF sg xs 0) ∧ Ext h h' ∧ Fr h.size r := by
  refine calls_of r_impl_wrongSignals ?_
  refine hv.lenVC ?_
  refine LoopVC.mk (α := Nat × Value × List Int) (fun s => [(1, sgv), (5, s.2.1), (8, v), (9, .int .i64 (xs.length : Int)), (10, .int .i64 (s.1 : Int))]) (fun s h2 => s.1 ≤ xs.length ∧ Ext h h2 ∧ SlO h2 s.2.1 s.2.2 ∧ Fr h.size s.2.1 ∧ s.2.2.length ≤ s.1 ∧ s.2.2 ++ wrongF sg (xs.drop s.1) s.1 = wrongF sg xs 0)
    (fun s => xs.length - s.1) (0, .slice none 0 0, []) ⟨rfl, rfl, rfl, rfl, rfl⟩ ⟨by omega, Ext.refl h, SlX.nil true h, Fr.nil _, by simp, rfl⟩ ?_
  rintro ⟨k, o, ys⟩ R h2 ⟨hk, e2, ho, hf, hlen, hw⟩
  simp only at hk ho hf hlen hw
  refine CondVC.mk (fun c => ?_) (fun c => ?_)
  · simp only at c
    have hk' : k < xs.length := by omega
    rw [List.drop_eq_getElem_cons hk', wrongF] at hw
    have hgd : sg.getD k 0 = sg[k] := by rw [List.getD_eq_getElem?_getD, List.getElem?_eq_getElem (by omega), Option.getD_some]
    refine (hv.ext e2).idx rfl hk' ?_
    refine (hv.ext e2).load1 (x := xs[k]) (by simp [hk']) rfl ?_
    refine (hg.ext e2).idx rfl (by omega) ?_
    refine (hg.ext e2).load1 (x := sg[k]) (List.getElem?_eq_getElem (by omega)) rfl ?_
    refine CondVC.mk (fun c2 => ?_) (fun c2 => ?_)
    · refine And.intro rfl ?_
      refine SlX.row [(k : Int)] rfl rfl (by simp [maxLen]) (fun w3 h3 he3 hsz3 hr3 hfr3 => ?_)
      refine (ho.ext he3).append hr3 rfl (by simp [maxLen]; omega) (by simp; omega) (fun o4 h4 hm4 ho4 hb4 => ?_)
      rw [if_pos (by rw [hgd]; exact c2)] at hw
      refine ArithVC.mk (by simp only; omega) ?_
      exact ⟨(k + 1, o4, ys ++ [(k : Int)]), ⟨⟨rfl, rfl, rfl, rfl, rfl⟩, by simp only; omega, (e2.trans he3).mod hm4 hf, ho4, hf.app hb4 (by have := (e2.trans he3).size; omega), by simp; omega, by simpa using hw⟩, by simp only; omega⟩
    · rw [if_neg (by rw [hgd]; exact c2)] at hw
      refine ArithVC.mk (by simp only; omega) ?_
      exact ⟨(k + 1, o, ys), ⟨⟨rfl, rfl, rfl, rfl, rfl⟩, by simp only; omega, e2, ho, hf, by simp only; omega, hw⟩, by simp only; omega⟩
  · simp only at c
    have hk' : k = xs.length := by omega
    subst hk'
    rw [List.drop_length, wrongF, List.append_nil] at hw
    subst hw
    exact ⟨ho, e2, hf⟩

end Go.Proofs.Ytckkablifoblbaa
