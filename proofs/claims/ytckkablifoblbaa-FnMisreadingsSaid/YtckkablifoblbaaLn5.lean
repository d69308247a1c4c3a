/- Lines: what runs along them, spec. Condition: none. -/
import Derived.Test.YtckkablifoblbaaLn4
namespace Go.Proofs.Ytckkablifoblbaa
open Go.Vc
set_option linter.all false

/-- the state of a line -/
abbrev liBox (h : Heap) (X : Nat) (scv : Value) (g : Nat) (H : Value) (i t : Int) (b : Bool) : Prop := Bx h X [scv, .int .i64 (g : Int), H, .int .i64 i, .int .i64 t, .bool b] 71
abbrev ptr (X : Nat) : Value := .pointer (some ⟨X, 0, none⟩)

theorem cast1 (g : Nat) : ((g + 1 : Nat) : Int) = (g : Int) + 1 := by omega

theorem see_ok (X : Nat) (scv H : Value) (sc : List Int) (n i t : Int) (g : Nat) (b : Bool) (h : Heap) (hb : liBox h X scv g H i t b) (hs : Sl h scv sc) (hn : 0 ≤ n ∧ n ≤ 63) (hg : g ≤ 1000000) :
    Cn f_spec_liState_see [ptr X, .int .i64 n] h fun r h' => r = .int .i64 (look sc n g) ∧ liBox h' X scv (g + 1) H i t b ∧ Mod [X] h h' ∧ h'.size = h.size := by
  refine calls_of r_spec_liState_see ?_
  refine hb.load rfl (hb.load rfl ?_)
  refine hs.lenVC ?_
  refine CondVC.mk (fun c => ?_) (fun c => ?_)
  · have hg' : g < sc.length := by omega
    refine hb.load rfl (hb.load rfl ?_)
    refine hs.idx rfl hg' ?_
    refine hs.load1 (x := sc[g]) (by simp [hg']) rfl ?_
    refine hb.load rfl ?_
    refine ArithVC.mk (by omega) ?_
    refine hb.store (us := [.int .i64 ((g : Int) + 1)]) rfl rfl (by simp) (by simp [Value.oneCell']) (fun h2 m2 s2 hb2 => ?_)
    refine BitsVC.mk ?_
    exact ⟨congrArg (Value.int .i64) (look_near hg').symm, by unfold liBox; rw [cast1]; exact hb2, m2, s2⟩
  · have hg' : ¬ g < sc.length := by omega
    refine hb.load rfl ?_
    refine ArithVC.mk (by omega) ?_
    refine hb.store (us := [.int .i64 ((g : Int) + 1)]) rfl rfl (by simp) (by simp [Value.oneCell']) (fun h2 m2 s2 hb2 => ?_)
    refine BitsVC.mk ?_
    exact ⟨congrArg (Value.int .i64) ((xor_zero hn).trans (look_far hn hg').symm), by unfold liBox; rw [cast1]; exact hb2, m2, s2⟩

theorem hop_ok (X : Nat) (scv H : Value) (sc : List Int) (n i u : Int) (t g : Nat) (b : Bool) (h : Heap) (hb : liBox h X scv g H i u b) (hs : Sl h scv sc) (hX : X ∉ blks scv) (hsc : AllIn 0 63 sc) (hn : 0 ≤ n ∧ n ≤ 63) (hg : g + 2 * t ≤ 1000000)
    {o : Option Int} {g' : Nat} (hr : hopF sc t n g = (o, g')) :
    Cn f_spec_liState_hop [ptr X, .int .i64 n, .int .i64 (t : Int)] h fun r h' => r = .tuple #[.int .i64 (o.getD 0), .bool o.isSome] ∧ liBox h' X scv g' H i u b ∧ Mod [X] h h' ∧ h'.size = h.size := by
  refine calls_of r_spec_liState_hop ?_
  refine LoopVC.mk (α := Nat × Nat) (fun s => [(0, ptr X), (1, .int .i64 n), (2, .int .i64 (s.1 : Int))]) (fun s h2 => liBox h2 X scv s.2 H i u b ∧ Mod [X] h h2 ∧ h2.size = h.size ∧ s.2 + 2 * s.1 ≤ 1000000 ∧ hopF sc s.1 n s.2 = (o, g')) (fun s => s.1) (t, g) ⟨rfl, rfl, rfl⟩ ⟨hb, Mod.refl _ h, rfl, hg, hr⟩ ?_
  rintro ⟨k, g2⟩ R h2 ⟨hb2, m2, s2, hg2, hr2⟩
  refine CondVC.mk (fun c => ?_) (fun c => ?_)
  · cases k with
    | zero => simp at c
    | succ k =>
    have hs2 := hs.mod m2 (fun b hb' hc => hX (by simp at hc; rw [← hc]; exact hb'))
    refine (see_ok X scv H sc n i u g2 b h2 hb2 hs2 hn (by simp only at hg2; omega)).mono ?_
    rintro _ h3 ⟨rfl, hb3, m3, s3⟩
    have hs3 := hs2.mod m3 (fun b hb' hc => hX (by simp at hc; rw [← hc]; exact hb'))
    refine (see_ok X scv H sc _ i u (g2 + 1) b h3 hb3 hs3 (look_in hsc hn g2) (by simp only at hg2; omega)).mono ?_
    rintro _ h4 ⟨rfl, hb4, m4, s4⟩
    refine CondVC.mk (fun c2 => ?_) (fun c2 => ?_)
    · rw [hopF_yes c2] at hr2
      obtain ⟨rfl, rfl⟩ := Prod.mk.inj hr2
      exact ⟨rfl, hb4, (m2.trans m3).trans m4, by omega⟩
    · rw [hopF_no c2] at hr2
      refine ArithVC.mk (by simp only; omega) ?_
      refine ⟨(k, g2 + 2), ⟨⟨rfl, rfl, ?_⟩, hb4, (m2.trans m3).trans m4, by omega, by simp only at hg2 ⊢; omega, hr2⟩, by simp⟩
      show Value.int .i64 (((k + 1 : Nat) : Int) - 1) = .int .i64 (k : Int)
      congr 1; omega
  · cases k with
    | succ k => exact absurd (by simp only; omega) c
    | zero =>
    obtain ⟨rfl, rfl⟩ := Prod.mk.inj hr2
    exact ⟨rfl, hb2, m2, s2⟩
end Go.Proofs.Ytckkablifoblbaa
