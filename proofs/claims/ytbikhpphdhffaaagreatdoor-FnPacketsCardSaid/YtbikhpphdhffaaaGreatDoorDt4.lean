/- Signals and packets read back by the specification. Condition: none. Printed in part by a program. -/
import Derived.Test.YtbikhpphdhffaaaGreatDoorDt3
namespace Go.Proofs.YtbikhpphdhffaaaGreatDoor
open Go.Vc
set_option linter.all false
theorem sg_y {l : List Int} (h : l.length ≤ 100) : decide (SgOk l) = decide (AllIn 0 63 l) := decide_eq_decide.2 ⟨fun q => q.2, fun q => ⟨h, q⟩⟩
theorem sg_n {l : List Int} (h : ¬ l.length ≤ 100) : decide (SgOk l) = false := decide_eq_false fun q => h q.1
theorem spec_sgList_ok (v_l : Value) (l : List Int) (h : Heap) (s_l : Sl h v_l l) : Cn f_spec_sgList [v_l] h fun v h' => v = .bool (decide (SgOk l)) ∧ Ext h h' := by
  have lt_l := s_l.lt
  have l63_l := s_l.len63
  refine calls_of r_spec_sgList ?_
  refine v_seq ?_
  refine v_ops ?_
  refine s_pure (.bool false) (fun _ q => q) ?_
  refine s_nil ?_
  refine p_seqN ?_
  refine v_seq ?_
  refine v_ops ?_
  refine s_pure v_l (fun _ q => q) ?_
  refine s_pure (.int .i64 (l.length : Int)) (fun _ q => s_l.lenVC q) ?_
  refine s_pure (.bool (decide ((l.length : Int) ≤ 100))) (fun _ q => q) ?_
  refine s_pure (.bool (decide ((l.length : Int) ≤ 100))) (fun _ q => q) ?_
  refine s_splitT rfl (fun c1 => ?_) (fun c1 => ?_)
  ·
    refine s_run rfl ?_
    refine s_pure v_l (fun _ q => q) ?_
    refine s_run rfl ?_
    refine s_callS [v_l, .int .i64 0, .int .i64 63] (.bool (decide (AllIn 0 63 l))) rfl (l1All_ok v_l l 0 63 _ s_l) ?_
    refine s_pure (.bool (decide (AllIn 0 63 l))) (fun _ q => q) ?_
    refine s_pure (.bool (decide (AllIn 0 63 l))) (fun _ q => q) ?_
    refine s_nil ?_
    refine p_seqN ?_
    refine v_ret ?_
    refine p_ret [.bool (decide (AllIn 0 63 l))] (.bool (decide (AllIn 0 63 l))) (fun _ q => q) rfl ?_
    have ho : (decide (SgOk l)) = (decide (AllIn 0 63 l)) := by first | exact sg_y (by omega) | exact sg_n (by omega)
    exact ⟨by first | (rw [ho]; done) | rfl, (Ext.refl h)⟩
  ·
    refine s_pass rfl ?_
    refine s_pass rfl ?_
    refine s_pure (.bool false) (fun _ q => q) ?_
    refine s_pure (.bool false) (fun _ q => q) ?_
    refine s_nil ?_
    refine p_seqN ?_
    refine v_ret ?_
    refine p_ret [.bool false] (.bool false) (fun _ q => q) rfl ?_
    have ho : (decide (SgOk l)) = false := by first | exact sg_y (by omega) | exact sg_n (by omega)
    exact ⟨by first | (rw [ho]; done) | rfl, (Ext.refl h)⟩


theorem str_eq2 {a : List UInt8} {s : ByteArray} : (s.toList == (tx a).toList) = decide (s.data.toList = a) := by
  have q := str_eq (a := s.data.toList) (s := tx a)
  rw [tx_self, tx_list] at q; exact q
theorem eqY {a : List UInt8} {s : ByteArray} (h : (s.toList == (tx a).toList) = true) : s.data.toList = a := by rw [str_eq2] at h; exact of_decide_eq_true h
theorem eqN {a : List UInt8} {s : ByteArray} (h : ¬ (s.toList == (tx a).toList) = true) : s.data.toList ≠ a := by rw [str_eq2] at h; simpa using h
theorem teqY {a : List UInt8} {s : ByteArray} (h : ((tx a).toList == s.toList) = true) : a = s.data.toList := by rw [str_eq] at h; exact of_decide_eq_true h
theorem teqN {a : List UInt8} {s : ByteArray} (h : ¬ ((tx a).toList == s.toList) = true) : a ≠ s.data.toList := by rw [str_eq] at h; simpa using h
theorem sgp_e {r : List UInt8} (h : r = []) : sgp r = ([], true) := by rw [sgp, if_pos h]
theorem sgp_n {r : List UInt8} {k : Nat} {o : List Int} (h0 : r ≠ []) (ho : o = ((splitOn 32 r).take k).map rdOut) (hk : (splitOn 32 r).length ≤ k) (h : ¬ (SgOk o ∧ lineOf o [32] = r)) : sgp r = ([], false) := by
  rw [List.take_of_length_le hk] at ho
  rw [sgp, if_neg h0, ← ho, if_neg h]
theorem sgp_y {r : List UInt8} {k : Nat} {o : List Int} (h0 : r ≠ []) (ho : o = ((splitOn 32 r).take k).map rdOut) (hk : (splitOn 32 r).length ≤ k) (h : SgOk o ∧ lineOf o [32] = r) : sgp r = (o, true) := by
  rw [List.take_of_length_le hk] at ho
  rw [sgp, if_neg h0, ← ho, if_pos h]
theorem sg_wide {o : List Int} (h : SgOk o) : ∀ x ∈ o, 0 ≤ x ∧ x ≤ 1000000 := fun x hx => by have := h.2 x hx; omega
theorem mp_snoc {ws : List (List UInt8)} {k : Nat} {x : List UInt8} {o : List Int} (ho : o = (ws.take k).map rdOut) (hx : ws[k]? = some x) : o ++ [rdOut x] = (ws.take (k + 1)).map rdOut := by
  rw [snoc_get hx, List.map_append, ← ho]; rfl

set_option maxRecDepth 10000 in
set_option maxHeartbeats 4000000 in
theorem spec_sgParse_ok (s : ByteArray) (h : Heap) (b_s : s.size ≤ maxLen) (hs : s.size ≤ 1048576) : Cn f_spec_sgParse [.string s] h fun v h' => ∃ r0 : Value, v = .tuple #[r0, .bool ((sgp s.data.toList).2)] ∧ SlO h' r0 ((sgp s.data.toList).1) ∧ Fr h.size r0 ∧ Ext h h' := by
  have hsl := splitOn_len 32 s.data.toList
  rw [bsize] at hsl
  have hsz := bsize s
  refine calls_of r_spec_sgParse ?_
  refine v_seq ?_
  refine v_ops ?_
  refine s_pure (.slice none 0 0) (fun _ q => q) ?_
  refine s_pure (.bool false) (fun _ q => q) ?_
  refine s_nil ?_
  refine p_seqN ?_
  refine v_seq ?_
  refine v_seq ?_
  refine v_ops ?_
  refine s_pure (.string s) (fun _ q => q) ?_
  refine s_pure (.bool (s.toList == (tx []).toList)) (fun _ q => q) ?_
  refine s_nil ?_
  refine p_seqN ?_
  refine v_cond rfl (fun c1 => ?_) (fun c1 => ?_)
  ·
    refine v_seq ?_
    refine v_ops ?_
    refine s_pure (.slice none 0 0) (fun _ q => q) ?_
    refine s_pure (.bool true) (fun _ q => q) ?_
    refine s_nil ?_
    refine p_seqN ?_
    refine v_ret ?_
    refine p_seqR ?_
    refine p_ret [.slice none 0 0, .bool true] (.tuple #[.slice none 0 0, .bool true]) (fun _ q => q) rfl ?_
    have ho : (sgp s.data.toList) = ([], true) := by first | exact sgp_e (eqY (by assumption)) | exact sgp_n (eqN (by assumption)) ho (by omega) (fun q => absurd q.1 (by assumption)) | exact sgp_n (eqN (by assumption)) ho (by omega) (fun q => teqN (by assumption) q.2) | exact sgp_y (eqN (by assumption)) ho (by omega) ⟨(by assumption), teqY (by assumption)⟩
    exact ⟨(.slice none 0 0), by first | (rw [ho]; done) | rfl, sl_eq (SlX.nil (α := Int) true _) (congrArg (fun o => o.1) ho).symm, Fr.nil _, (Ext.refl h)⟩
  ·
    refine v_skip ?_
    refine p_seqN ?_
    refine v_seq ?_
    refine v_ops ?_
    refine s_pure (.slice none 0 0) (fun _ q => q) ?_
    refine s_nil ?_
    refine p_seqN ?_
    refine v_seq ?_
    refine v_seq ?_
    refine v_ops ?_
    refine s_pure (.string s) (fun _ q => q) ?_
    refine s_call [.string s, .int .u8 32] rfl (spec_l1Split_ok s 32 _ (by first | omega | (have q_ := hsl.2 _ (List.mem_of_getElem? (map_tx_at (by assumption))); rw [bsize] at q_; exact Nat.le_trans q_ (Nat.le_trans hs (by decide)))) hs) ?_
    rintro r2 h3 ⟨_, rfl, s_r2, fr_r2, eh3⟩
    have E4 := (Ext.refl h).trans eh3
    have z5 := eh3.size
    have lt_r2 := s_r2.lt
    refine s_pure (.int .i64 (((splitOn 32 s.data.toList).map tx).length : Int)) (fun _ q => s_r2.lenVC q) ?_
    refine s_pure (.int .i64 0) (fun _ q => q) ?_
    refine s_nil ?_
    refine p_seqN ?_
    refine v_block ?_
    refine v_loop3 (α := Nat) (β := List Int) (γ := Value) (fun k o w => [(0, .string s), (4, w), (10, r2), (11, .int .i64 (((splitOn 32 s.data.toList).map tx).length : Int)), (12, .int .i64 (k : Int))]) (fun k o w hh => Ext h hh ∧ SlO hh w o ∧ Fr h.size w ∧ SlO hh r2 ((splitOn 32 s.data.toList).map tx) ∧ (∀ b ∈ blks r2, b ∉ blks w) ∧ k ≤ (splitOn 32 s.data.toList).length ∧ o.length = k ∧ (o = ((splitOn 32 s.data.toList).take k).map rdOut)) (fun k o w => ((splitOn 32 s.data.toList).map tx).length - k) 0 [] (.slice none 0 0) ⟨rfl, rfl, rfl, rfl, rfl⟩ ⟨E4, (sl_eq (SlX.nil (α := Int) true h3) (by simp)), (Fr.nil _), s_r2, (fun b hb hc => by simp [blks, fpts] at hc), (by exact ⟨by omega, rfl, rfl⟩)⟩ ?_
    rintro k o w R7 h6 ⟨Eh, s_w, fr_w, s_r2, np_r2_w, ⟨hk, hol, ho⟩⟩
    have zEh := Eh.size
    have ltk_r2 := s_r2.lt
    have lt_w := s_w.lt
    have hlm : ((splitOn 32 s.data.toList).map tx).length = (splitOn 32 s.data.toList).length := List.length_map ..
    refine v_seq ?_
    refine v_ops ?_
    refine s_pure (.bool (decide ((k : Int) < (((splitOn 32 s.data.toList).map tx).length : Int)))) (fun _ q => q) ?_
    refine s_nil ?_
    refine p_seqN ?_
    refine v_seq ?_
    refine v_cond rfl (fun c9 => ?_) (fun c9 => ?_)
    ·
      refine v_skip ?_
      refine p_seqN ?_
      refine v_seq ?_
      refine v_block ?_
      refine v_seq ?_
      refine v_ops ?_
      have hk10 : k < ((splitOn 32 s.data.toList).map tx).length := (by first | omega | (simp; omega))
      obtain ⟨x11, hx11⟩ : ∃ x, ((splitOn 32 s.data.toList).map tx)[k]? = some x := ⟨_, List.getElem?_eq_getElem hk10⟩
      refine s_pure (.pointer (some ⟨sblk r2, soff r2 + k * 1, none⟩)) (fun _ q => s_r2.idx (k := k) rfl hk10 q) ?_
      refine s_load (.string x11) (fun _ q => s_r2.load1 hx11 rfl q) ?_
      refine s_pure (.string x11) (fun _ q => q) ?_
      refine s_nil ?_
      refine p_seqN ?_
      refine v_ops ?_
      refine s_pure w (fun _ q => q) ?_
      refine s_pure (.string x11) (fun _ q => q) ?_
      refine s_call [.string x11] rfl (spec_l1Read_ok x11 _ (by first | omega | (have q_ := hsl.2 _ (List.mem_of_getElem? (map_tx_at (by assumption))); rw [bsize] at q_; exact Nat.le_trans q_ (Nat.le_trans hs (by decide)))) (by (have q_ := hsl.2 _ (List.mem_of_getElem? (map_tx_at (by assumption))); rw [bsize] at q_; omega))) ?_
      rintro _ h12 ⟨rfl, eh12⟩
      have E13 := Eh.trans eh12
      have z14 := eh12.size
      refine s_row (α := Int) [(rdOut x11.data.toList)] (fun _ q => seg_i rfl (seg_nil q)) rfl (by simp [maxLen]) (fun r15 h16 eh16 zh16 s_r15 fr_r15 => ?_)
      have E17 := E13.trans eh16
      have z18 := eh16.size
      have lt_r15 := s_r15.lt
      have f19 := ((s_w.ext eh12).ext eh16)
      refine s_app f19 s_r15 rfl rfl rfl (by simp [maxLen]; omega) (by simp; omega) (fun r20 h21 mh21 zh21 s_r20 ab_r20 => ?_)
      have E22 := E17.mod mh21 (fun b hb => by have := fr_w b hb; omega)
      have fr_r20 := fr_w.app ab_r20 (by omega)
      have np23 : ∀ b ∈ blks r2, b ∉ blks r20 := fun b hb hc => (ab_r20 _ hc).elim ((np_r2_w : ∀ b ∈ blks r2, b ∉ blks w) b hb) (fun hc => by have := ltk_r2 b hb; omega)
      have np24 : ∀ b ∈ blks r2, b ∉ blks r20 := fun b hb hc => (ab_r20 _ hc).elim ((np_r2_w : ∀ b ∈ blks r2, b ∉ blks w) b hb) (fun hc => by have := ltk_r2 b hb; omega)
      have np25 : ∀ b ∈ blks r15, b ∉ blks r20 := fun b hb hc => (ab_r20 _ hc).elim (((fun b hb hc => by have := fr_r15 b hb; have := lt_w b hc; omega) : ∀ b ∈ blks r15, b ∉ blks w) b hb) (fun hc => by have := lt_r15 b hb; omega)
      have lt_r20 := s_r20.lt
      refine s_pure r20 (fun _ q => q) ?_
      refine s_nil ?_
      refine p_blkN ?_
      refine p_seqN ?_
      refine v_ops ?_
      refine s_pure (.int .i64 ((k : Int) + 1)) (fun _ q => ArithVC.mk (by omega) q) ?_
      refine s_pure (.int .i64 ((k : Int) + 1)) (fun _ q => q) ?_
      refine s_nil ?_
      have f26 := (((s_r2.ext eh12).ext eh16).mod mh21 np_r2_w)
      exact p_lpN ⟨k + 1, (o ++ [(rdOut x11.data.toList)]), r20, ⟨rfl, rfl, rfl, rfl, rfl⟩, ⟨E22, (sl_eq s_r20 (by simp)), (fr_r20.mono (by omega)), f26, np24, (by exact ⟨by omega, by simp [hol], mp_snoc ho (map_tx_at (by assumption))⟩)⟩, by omega⟩
    ·
      refine v_exit ?_
      refine p_seqX ?_
      refine p_lpX ?_
      refine p_blkX ?_
      refine p_seqN ?_
      refine v_seq ?_
      refine v_seq ?_
      refine v_ops ?_
      refine s_pure w (fun _ q => q) ?_
      refine s_call [w] rfl (spec_sgList_ok w o _ s_w.toSl) ?_
      rintro _ h27 ⟨rfl, eh27⟩
      have E28 := Eh.trans eh27
      have z29 := eh27.size
      refine s_pure (.bool (!(decide (SgOk o)))) (fun _ q => q) ?_
      refine s_pure (.bool (!(decide (SgOk o)))) (fun _ q => q) ?_
      refine s_splitT rfl (fun c30 => ?_) (fun c30 => ?_)
      ·
        refine s_pass rfl ?_
        refine s_pass rfl ?_
        refine s_pass rfl ?_
        refine s_pass rfl ?_
        refine s_pure (.bool true) (fun _ q => q) ?_
        refine s_nil ?_
        refine p_seqN ?_
        refine v_condY rfl rfl ?_
        refine v_seq ?_
        refine v_ops ?_
        refine s_pure (.slice none 0 0) (fun _ q => q) ?_
        refine s_pure (.bool false) (fun _ q => q) ?_
        refine s_nil ?_
        refine p_seqN ?_
        refine v_ret ?_
        refine p_seqR ?_
        refine p_ret [.slice none 0 0, .bool false] (.tuple #[.slice none 0 0, .bool false]) (fun _ q => q) rfl ?_
        have ho : (sgp s.data.toList) = ([], false) := by first | exact sgp_e (eqY (by assumption)) | exact sgp_n (eqN (by assumption)) ho (by omega) (fun q => absurd q.1 (by assumption)) | exact sgp_n (eqN (by assumption)) ho (by omega) (fun q => teqN (by assumption) q.2) | exact sgp_y (eqN (by assumption)) ho (by omega) ⟨(by assumption), teqY (by assumption)⟩
        exact ⟨(.slice none 0 0), by first | (rw [ho]; done) | rfl, sl_eq (SlX.nil (α := Int) true _) (congrArg (fun o => o.1) ho).symm, Fr.nil _, E28⟩
      ·
        have c30 := Classical.not_not.1 c30
        refine s_run rfl ?_
        refine s_pure w (fun _ q => q) ?_
        refine s_run rfl ?_
        have f31 := (s_w.ext eh27)
        refine s_call [w] rfl (spec_sgLine_ok w o _ f31.toSl (sg_wide (by assumption)) (by assumption : SgOk _).1) ?_
        rintro _ h32 ⟨rfl, eh32⟩
        have E33 := E28.trans eh32
        have z34 := eh32.size
        refine s_run rfl ?_
        refine s_pure (.string s) (fun _ q => q) ?_
        refine s_run rfl ?_
        refine s_pure (.bool (!((tx (lineOf o [32])).toList == s.toList))) (fun _ q => q) ?_
        refine s_pure (.bool (!((tx (lineOf o [32])).toList == s.toList))) (fun _ q => q) ?_
        refine s_nil ?_
        refine p_seqN ?_
        refine v_cond rfl (fun c35 => ?_) (fun c35 => ?_)
        ·
          refine v_seq ?_
          refine v_ops ?_
          refine s_pure (.slice none 0 0) (fun _ q => q) ?_
          refine s_pure (.bool false) (fun _ q => q) ?_
          refine s_nil ?_
          refine p_seqN ?_
          refine v_ret ?_
          refine p_seqR ?_
          refine p_ret [.slice none 0 0, .bool false] (.tuple #[.slice none 0 0, .bool false]) (fun _ q => q) rfl ?_
          have ho : (sgp s.data.toList) = ([], false) := by first | exact sgp_e (eqY (by assumption)) | exact sgp_n (eqN (by assumption)) ho (by omega) (fun q => absurd q.1 (by assumption)) | exact sgp_n (eqN (by assumption)) ho (by omega) (fun q => teqN (by assumption) q.2) | exact sgp_y (eqN (by assumption)) ho (by omega) ⟨(by assumption), teqY (by assumption)⟩
          exact ⟨(.slice none 0 0), by first | (rw [ho]; done) | rfl, sl_eq (SlX.nil (α := Int) true _) (congrArg (fun o => o.1) ho).symm, Fr.nil _, E33⟩
        ·
          have c35 := Classical.not_not.1 c35
          refine v_skip ?_
          refine p_seqN ?_
          refine v_seq ?_
          refine v_ops ?_
          refine s_pure w (fun _ q => q) ?_
          refine s_pure w (fun _ q => q) ?_
          refine s_pure (.bool true) (fun _ q => q) ?_
          refine s_nil ?_
          refine p_seqN ?_
          refine v_ret ?_
          refine p_ret [w, .bool true] (.tuple #[w, .bool true]) (fun _ q => q) rfl ?_
          have ho : (sgp s.data.toList) = (o, true) := by first | exact sgp_e (eqY (by assumption)) | exact sgp_n (eqN (by assumption)) ho (by omega) (fun q => absurd q.1 (by assumption)) | exact sgp_n (eqN (by assumption)) ho (by omega) (fun q => teqN (by assumption) q.2) | exact sgp_y (eqN (by assumption)) ho (by omega) ⟨(by assumption), teqY (by assumption)⟩
          have f36 := (f31.ext eh32)
          exact ⟨w, by first | (rw [ho]; done) | rfl, sl_eq f36 (congrArg (fun o => o.1) ho).symm, fr_w.mono (by omega), E33⟩


theorem spl_le {b : UInt8} {l x : ByteArray} {k n : Nat} (h : ((splitOn b l.data.toList).map tx)[k]? = some x) (hl : l.size ≤ n) : x.size ≤ n := by
  have q := (splitOn_len b l.data.toList).2 _ (List.mem_of_getElem? (map_tx_at h))
  rw [bsize, bsize] at q; omega
theorem pp_len (l : List UInt8) : (ppOut l).1.signals.length ≤ 8 := by
  by_cases c : ∃ p, Par l p
  · obtain ⟨p, hp⟩ := c
    rw [pp_yes hp]; have := hp.1.2.2.2.1; show p.signals.length ≤ 8; omega
  · rw [pp_no fun p hp => c ⟨p, hp⟩]; simp
theorem no1' {l : List UInt8} (h : ¬ ((List.map tx (splitOn 58 l)).length : Int) = 2) : ppOut l = (⟨0, 0, 0, []⟩, false) := spec_no1 (by rwa [List.length_map] at h)
theorem no2' {l : List UInt8} {x y : ByteArray} (hx : ((splitOn 58 l).map tx)[0]? = some x) (hy : ((splitOn 58 l).map tx)[1]? = some y) (h : ¬ ((List.map tx (splitOn 47 x.data.toList)).length : Int) = 3) : ppOut l = (⟨0, 0, 0, []⟩, false) := spec_no2 (map_tx_at hx) (map_tx_at hy) (by rwa [List.length_map] at h)
theorem no3' {l : List UInt8} {x y : ByteArray} (hx : ((splitOn 58 l).map tx)[0]? = some x) (hy : ((splitOn 58 l).map tx)[1]? = some y) (h : ¬ (sgp y.data.toList).2 = true) : ppOut l = (⟨0, 0, 0, []⟩, false) := spec_no3 (map_tx_at hx) (map_tx_at hy) h
theorem no4' {l : List UInt8} {x y a b c : ByteArray} (hx : ((splitOn 58 l).map tx)[0]? = some x) (hy : ((splitOn 58 l).map tx)[1]? = some y) (ha : ((splitOn 47 x.data.toList).map tx)[0]? = some a) (hb : ((splitOn 47 x.data.toList).map tx)[1]? = some b) (hc : ((splitOn 47 x.data.toList).map tx)[2]? = some c)
    (h : ¬ (PkOk ⟨rdOut a.data.toList, rdOut b.data.toList, rdOut c.data.toList, (sgp y.data.toList).1⟩ ∧ pkTx ⟨rdOut a.data.toList, rdOut b.data.toList, rdOut c.data.toList, (sgp y.data.toList).1⟩ = l)) : ppOut l = (⟨0, 0, 0, []⟩, false) := spec_no4 (map_tx_at hx) (map_tx_at hy) (map_tx_at ha) (map_tx_at hb) (map_tx_at hc) h

set_option maxRecDepth 10000 in
set_option maxHeartbeats 4000000 in
theorem spec_pkParse_ok (s : ByteArray) (h : Heap) (b_s : s.size ≤ maxLen) (hs : s.size ≤ 1048576) : Cn f_spec_pkParse [.string s] h fun v h' => ∃ r0 : Value, v = .tuple #[.agg #[.int .i64 (((ppOut s.data.toList).1).message), .int .i64 (((ppOut s.data.toList).1).part), .int .i64 (((ppOut s.data.toList).1).parts), r0], .bool ((ppOut s.data.toList).2)] ∧ SlO h' r0 (((ppOut s.data.toList).1).signals) ∧ Fr h.size r0 ∧ Ext h h' := by
  refine calls_of r_spec_pkParse ?_
  refine v_seq ?_
  refine v_ops ?_
  refine s_new (fun h2 b1 hbb1 hzb1 eh2 bxb1 => ?_)
  have E3 := (Ext.refl h).trans eh2
  have z4 := eh2.size
  have lbb1 := bxb1.lt
  refine s_pure (.bool false) (fun _ q => q) ?_
  refine s_nil ?_
  refine p_seqN ?_
  refine v_seq ?_
  refine v_ops ?_
  refine s_pure (.string s) (fun _ q => q) ?_
  refine s_call [.string s, .int .u8 58] rfl (spec_l1Split_ok s 58 _ (by first | exact b_s | exact spl_le (by assumption) b_s | exact spl_le (by assumption) (spl_le (by assumption) b_s)) (by first | exact hs | exact spl_le (by assumption) hs | exact spl_le (by assumption) (spl_le (by assumption) hs))) ?_
  rintro r5 h6 ⟨_, rfl, s_r5, fr_r5, eh6⟩
  have E7 := E3.trans eh6
  have z8 := eh6.size
  have lt_r5 := s_r5.lt
  refine s_pure r5 (fun _ q => q) ?_
  refine s_nil ?_
  refine p_seqN ?_
  refine v_seq ?_
  refine v_seq ?_
  refine v_ops ?_
  refine s_pure r5 (fun _ q => q) ?_
  refine s_pure (.int .i64 (((splitOn 58 s.data.toList).map tx).length : Int)) (fun _ q => s_r5.lenVC q) ?_
  refine s_pure (.bool ((((splitOn 58 s.data.toList).map tx).length : Int) != 2)) (fun _ q => q) ?_
  refine s_nil ?_
  refine p_seqN ?_
  refine v_cond rfl (fun c9 => ?_) (fun c9 => ?_)
  ·
    refine v_seq ?_
    refine v_ops ?_
    refine s_pure (.agg #[.int .i64 0, .int .i64 0, .int .i64 0, .slice none 0 0]) (fun _ q => w_build (seg_nil q)) ?_
    have f10 := (bxb1.ext eh6)
    refine s_stBx (.agg #[.int .i64 0, .int .i64 0, .int .i64 0, .slice none 0 0]) [.int .i64 0, .int .i64 0, .int .i64 0, .slice none 0 0] [.int .i64 0, .int .i64 0, .int .i64 0, .slice none 0 0] f10 rfl rfl rfl rfl (by simp) (all_cons rfl (all_cons rfl (all_cons rfl (all_cons rfl all_nil)))) rfl (fun h11 mh11 sh11 bxx12 => ?_)
    have E13 := E7.mod mh11 (fun b hb => by simp at hb; omega)
    refine s_pure (.bool false) (fun _ q => q) ?_
    refine s_nil ?_
    refine p_seqN ?_
    refine v_ret ?_
    refine p_seqR ?_
    refine p_ret [.agg #[.int .i64 0, .int .i64 0, .int .i64 0, .slice none 0 0], .bool false] (.tuple #[.agg #[.int .i64 0, .int .i64 0, .int .i64 0, .slice none 0 0], .bool false]) (fun _ q => (bxx12.loadA rfl q)) rfl ?_
    have ho : (ppOut s.data.toList) = (⟨0, 0, 0, []⟩, false) := by first | exact no1' (by assumption) | exact no2' (by assumption) (by assumption) (by assumption) | exact no3' (by assumption) (by assumption) (by assumption) | exact no4' (by assumption) (by assumption) (by assumption) (by assumption) (by assumption) (fun q => absurd q.1 (by assumption)) | exact no4' (by assumption) (by assumption) (by assumption) (by assumption) (by assumption) (fun q => teqN (by assumption) q.2) | exact pp_yes ⟨(by assumption), (teqY (by assumption)).symm⟩
    exact ⟨(.slice none 0 0), by first | (rw [ho]; done) | rfl, sl_eq (SlX.nil (α := Int) true _) (congrArg (fun o => o.1.signals) ho).symm, Fr.nil _, E13⟩
  ·
    have c9 := Classical.not_not.1 c9
    refine v_skip ?_
    refine p_seqN ?_
    refine v_seq ?_
    refine v_ops ?_
    refine s_pure r5 (fun _ q => q) ?_
    have hk14 : 0 < ((splitOn 58 s.data.toList).map tx).length := (by first | omega | (simp; omega))
    obtain ⟨x15, hx15⟩ : ∃ x, ((splitOn 58 s.data.toList).map tx)[0]? = some x := ⟨_, List.getElem?_eq_getElem hk14⟩
    refine s_pure (.pointer (some ⟨sblk r5, soff r5 + 0 * 1, none⟩)) (fun _ q => s_r5.idx (k := 0) rfl hk14 q) ?_
    refine s_load (.string x15) (fun _ q => s_r5.load1 hx15 rfl q) ?_
    refine s_call [.string x15, .int .u8 47] rfl (spec_l1Split_ok x15 47 _ (by first | exact b_s | exact spl_le (by assumption) b_s | exact spl_le (by assumption) (spl_le (by assumption) b_s)) (by first | exact hs | exact spl_le (by assumption) hs | exact spl_le (by assumption) (spl_le (by assumption) hs))) ?_
    rintro r16 h17 ⟨_, rfl, s_r16, fr_r16, eh17⟩
    have E18 := E7.trans eh17
    have z19 := eh17.size
    have lt_r16 := s_r16.lt
    refine s_pure r16 (fun _ q => q) ?_
    refine s_nil ?_
    refine p_seqN ?_
    refine v_seq ?_
    refine v_ops ?_
    refine s_pure r5 (fun _ q => q) ?_
    have f20 := (s_r5.ext eh17)
    have hk21 : 1 < ((splitOn 58 s.data.toList).map tx).length := (by first | omega | (simp; omega))
    obtain ⟨x22, hx22⟩ : ∃ x, ((splitOn 58 s.data.toList).map tx)[1]? = some x := ⟨_, List.getElem?_eq_getElem hk21⟩
    refine s_pure (.pointer (some ⟨sblk r5, soff r5 + 1 * 1, none⟩)) (fun _ q => f20.idx (k := 1) rfl hk21 q) ?_
    refine s_load (.string x22) (fun _ q => f20.load1 hx22 rfl q) ?_
    refine s_call [.string x22] rfl (spec_sgParse_ok x22 _ (by first | exact b_s | exact spl_le (by assumption) b_s | exact spl_le (by assumption) (spl_le (by assumption) b_s)) (by first | exact hs | exact spl_le (by assumption) hs | exact spl_le (by assumption) (spl_le (by assumption) hs))) ?_
    rintro _ h24 ⟨r23, rfl, s_r23, fr_r23, eh24⟩
    have E25 := E18.trans eh24
    have z26 := eh24.size
    have lt_r23 := s_r23.lt
    refine s_pure (.tuple #[r23, .bool ((sgp x22.data.toList).2)]) (fun _ q => q) ?_
    refine s_pure r23 (fun _ q => q) ?_
    refine s_pure (.bool ((sgp x22.data.toList).2)) (fun _ q => q) ?_
    refine s_pure r23 (fun _ q => q) ?_
    refine s_pure (.bool ((sgp x22.data.toList).2)) (fun _ q => q) ?_
    refine s_nil ?_
    refine p_seqN ?_
    refine v_seq ?_
    refine v_seq ?_
    refine v_ops ?_
    refine s_pure r16 (fun _ q => q) ?_
    refine s_pure (.int .i64 (((splitOn 47 x15.data.toList).map tx).length : Int)) (fun _ q => s_r16.lenVC q) ?_
    refine s_pure (.bool ((((splitOn 47 x15.data.toList).map tx).length : Int) != 3)) (fun _ q => q) ?_
    refine s_pure (.bool ((((splitOn 47 x15.data.toList).map tx).length : Int) != 3)) (fun _ q => q) ?_
    refine s_splitT rfl (fun c27 => ?_) (fun c27 => ?_)
    ·
      refine s_pass rfl ?_
      refine s_pass rfl ?_
      refine s_pure (.bool true) (fun _ q => q) ?_
      refine s_nil ?_
      refine p_seqN ?_
      refine v_condY rfl rfl ?_
      refine v_seq ?_
      refine v_ops ?_
      refine s_pure (.agg #[.int .i64 0, .int .i64 0, .int .i64 0, .slice none 0 0]) (fun _ q => w_build (seg_nil q)) ?_
      have f28 := (((bxb1.ext eh6).ext eh17).ext eh24)
      refine s_stBx (.agg #[.int .i64 0, .int .i64 0, .int .i64 0, .slice none 0 0]) [.int .i64 0, .int .i64 0, .int .i64 0, .slice none 0 0] [.int .i64 0, .int .i64 0, .int .i64 0, .slice none 0 0] f28 rfl rfl rfl rfl (by simp) (all_cons rfl (all_cons rfl (all_cons rfl (all_cons rfl all_nil)))) rfl (fun h29 mh29 sh29 bxx30 => ?_)
      have E31 := E25.mod mh29 (fun b hb => by simp at hb; omega)
      refine s_pure (.bool false) (fun _ q => q) ?_
      refine s_nil ?_
      refine p_seqN ?_
      refine v_ret ?_
      refine p_seqR ?_
      refine p_ret [.agg #[.int .i64 0, .int .i64 0, .int .i64 0, .slice none 0 0], .bool false] (.tuple #[.agg #[.int .i64 0, .int .i64 0, .int .i64 0, .slice none 0 0], .bool false]) (fun _ q => (bxx30.loadA rfl q)) rfl ?_
      have ho : (ppOut s.data.toList) = (⟨0, 0, 0, []⟩, false) := by first | exact no1' (by assumption) | exact no2' (by assumption) (by assumption) (by assumption) | exact no3' (by assumption) (by assumption) (by assumption) | exact no4' (by assumption) (by assumption) (by assumption) (by assumption) (by assumption) (fun q => absurd q.1 (by assumption)) | exact no4' (by assumption) (by assumption) (by assumption) (by assumption) (by assumption) (fun q => teqN (by assumption) q.2) | exact pp_yes ⟨(by assumption), (teqY (by assumption)).symm⟩
      exact ⟨(.slice none 0 0), by first | (rw [ho]; done) | rfl, sl_eq (SlX.nil (α := Int) true _) (congrArg (fun o => o.1.signals) ho).symm, Fr.nil _, E31⟩
    ·
      have c27 := Classical.not_not.1 c27
      refine s_run rfl ?_
      refine s_pure (.bool ((sgp x22.data.toList).2)) (fun _ q => q) ?_
      refine s_run rfl ?_
      refine s_pure (.bool (!(sgp x22.data.toList).2)) (fun _ q => q) ?_
      refine s_pure (.bool (!(sgp x22.data.toList).2)) (fun _ q => q) ?_
      refine s_nil ?_
      refine p_seqN ?_
      refine v_cond rfl (fun c32 => ?_) (fun c32 => ?_)
      ·
        refine v_seq ?_
        refine v_ops ?_
        refine s_pure (.agg #[.int .i64 0, .int .i64 0, .int .i64 0, .slice none 0 0]) (fun _ q => w_build (seg_nil q)) ?_
        have f33 := (((bxb1.ext eh6).ext eh17).ext eh24)
        refine s_stBx (.agg #[.int .i64 0, .int .i64 0, .int .i64 0, .slice none 0 0]) [.int .i64 0, .int .i64 0, .int .i64 0, .slice none 0 0] [.int .i64 0, .int .i64 0, .int .i64 0, .slice none 0 0] f33 rfl rfl rfl rfl (by simp) (all_cons rfl (all_cons rfl (all_cons rfl (all_cons rfl all_nil)))) rfl (fun h34 mh34 sh34 bxx35 => ?_)
        have E36 := E25.mod mh34 (fun b hb => by simp at hb; omega)
        refine s_pure (.bool false) (fun _ q => q) ?_
        refine s_nil ?_
        refine p_seqN ?_
        refine v_ret ?_
        refine p_seqR ?_
        refine p_ret [.agg #[.int .i64 0, .int .i64 0, .int .i64 0, .slice none 0 0], .bool false] (.tuple #[.agg #[.int .i64 0, .int .i64 0, .int .i64 0, .slice none 0 0], .bool false]) (fun _ q => (bxx35.loadA rfl q)) rfl ?_
        have ho : (ppOut s.data.toList) = (⟨0, 0, 0, []⟩, false) := by first | exact no1' (by assumption) | exact no2' (by assumption) (by assumption) (by assumption) | exact no3' (by assumption) (by assumption) (by assumption) | exact no4' (by assumption) (by assumption) (by assumption) (by assumption) (by assumption) (fun q => absurd q.1 (by assumption)) | exact no4' (by assumption) (by assumption) (by assumption) (by assumption) (by assumption) (fun q => teqN (by assumption) q.2) | exact pp_yes ⟨(by assumption), (teqY (by assumption)).symm⟩
        exact ⟨(.slice none 0 0), by first | (rw [ho]; done) | rfl, sl_eq (SlX.nil (α := Int) true _) (congrArg (fun o => o.1.signals) ho).symm, Fr.nil _, E36⟩
      ·
        have c32 := Classical.not_not.1 c32
        refine v_skip ?_
        refine p_seqN ?_
        refine v_seq ?_
        have f37 := (s_r16.ext eh24)
        refine v_draw (DrawVC.hold (blks r16) ?_)
        refine d_pureT r16 (fun _ q => q) ?_
        have hk38 : 0 < ((splitOn 47 x15.data.toList).map tx).length := (by first | omega | (simp; omega))
        obtain ⟨x39, hx39⟩ : ∃ x, ((splitOn 47 x15.data.toList).map tx)[0]? = some x := ⟨_, List.getElem?_eq_getElem hk38⟩
        refine d_pureT (.pointer (some ⟨sblk r16, soff r16 + 0 * 1, none⟩)) (fun _ q => f37.idx (k := 0) rfl hk38 q) ?_
        refine d_pureT r16 (fun _ q => q) ?_
        have hk40 : 1 < ((splitOn 47 x15.data.toList).map tx).length := (by first | omega | (simp; omega))
        obtain ⟨x41, hx41⟩ : ∃ x, ((splitOn 47 x15.data.toList).map tx)[1]? = some x := ⟨_, List.getElem?_eq_getElem hk40⟩
        refine d_pureT (.pointer (some ⟨sblk r16, soff r16 + 1 * 1, none⟩)) (fun _ q => f37.idx (k := 1) rfl hk40 q) ?_
        refine d_pureT r16 (fun _ q => q) ?_
        have hk42 : 2 < ((splitOn 47 x15.data.toList).map tx).length := (by first | omega | (simp; omega))
        obtain ⟨x43, hx43⟩ : ∃ x, ((splitOn 47 x15.data.toList).map tx)[2]? = some x := ⟨_, List.getElem?_eq_getElem hk42⟩
        refine d_pureT (.pointer (some ⟨sblk r16, soff r16 + 2 * 1, none⟩)) (fun _ q => f37.idx (k := 2) rfl hk42 q) ?_
        refine d_pureT r23 (fun _ q => q) ?_
        refine d_loadT (.string x39) (fun _ q => f37.take1 (fun b hb => by first | exact hb | simp [hb]) hx39 rfl q) ?_
        refine d_loadT (.string x41) (fun _ q => f37.take1 (fun b hb => by first | exact hb | simp [hb]) hx41 rfl q) ?_
        refine d_loadT (.string x43) (fun _ q => f37.take1 (fun b hb => by first | exact hb | simp [hb]) hx43 rfl q) ?_
        refine d_fork ?_ ?_
        ·
          refine d_eff ?_
          refine s_call [.string x39] rfl (spec_l1Read_ok x39 _ (by first | exact b_s | exact spl_le (by assumption) b_s | exact spl_le (by assumption) (spl_le (by assumption) b_s)) (by first | exact hs | exact spl_le (by assumption) hs | exact spl_le (by assumption) (spl_le (by assumption) hs))) ?_
          rintro _ h44 ⟨rfl, eh44⟩
          have E45 := E25.trans eh44
          have z46 := eh44.size
          have G47 := eh44
          refine s_nil ⟨fun _ x hx => G47.blk x (by have := lt_r16 x hx; omega), ?_⟩
          refine d_fork ?_ ?_
          ·
            refine d_eff ?_
            refine s_call [.string x41] rfl (spec_l1Read_ok x41 _ (by first | exact b_s | exact spl_le (by assumption) b_s | exact spl_le (by assumption) (spl_le (by assumption) b_s)) (by first | exact hs | exact spl_le (by assumption) hs | exact spl_le (by assumption) (spl_le (by assumption) hs))) ?_
            rintro _ h48 ⟨rfl, eh48⟩
            have E49 := E45.trans eh48
            have z50 := eh48.size
            have G51 := G47.trans eh48
            refine s_nil ⟨fun _ x hx => G51.blk x (by have := lt_r16 x hx; omega), ?_⟩
            refine d_fork ?_ ?_
            ·
              refine d_eff ?_
              refine s_call [.string x43] rfl (spec_l1Read_ok x43 _ (by first | exact b_s | exact spl_le (by assumption) b_s | exact spl_le (by assumption) (spl_le (by assumption) b_s)) (by first | exact hs | exact spl_le (by assumption) hs | exact spl_le (by assumption) (spl_le (by assumption) hs))) ?_
              rintro _ h52 ⟨rfl, eh52⟩
              have E53 := E49.trans eh52
              have z54 := eh52.size
              have G55 := G51.trans eh52
              refine s_nil ⟨fun _ x hx => G55.blk x (by have := lt_r16 x hx; omega), ?_⟩
              refine d_pureT (.agg #[.int .i64 (rdOut x39.data.toList), .int .i64 (rdOut x41.data.toList), .int .i64 (rdOut x43.data.toList), r23]) (fun _ q => w_build (seg_i rfl (seg_i rfl (seg_i rfl (seg_sl s_r23 rfl (seg_nil q)))))) ?_
              refine d_eff ?_
              refine s_new (fun h57 b56 hbb56 hzb56 eh57 bxb56 => ?_)
              have E58 := E53.trans eh57
              have z59 := eh57.size
              have G60 := G55.trans eh57
              have lbb56 := bxb56.lt
              refine s_nil ⟨fun _ x hx => G60.blk x (by have := lt_r16 x hx; omega), ?_⟩
              refine d_eff ?_
              refine s_stBx (.agg #[.int .i64 (rdOut x39.data.toList), .int .i64 (rdOut x41.data.toList), .int .i64 (rdOut x43.data.toList), r23]) [.int .i64 (rdOut x39.data.toList), .int .i64 (rdOut x41.data.toList), .int .i64 (rdOut x43.data.toList), r23] [.int .i64 (rdOut x39.data.toList), .int .i64 (rdOut x41.data.toList), .int .i64 (rdOut x43.data.toList), r23] bxb56 rfl rfl rfl rfl (by simp) (all_cons rfl (all_cons rfl (all_cons rfl (all_cons s_r23.one1 all_nil)))) rfl (fun h61 mh61 sh61 bxx62 => ?_)
              have E63 := E58.mod mh61 (fun b hb => by simp at hb; omega)
              have G64 := G60.mod mh61 (fun b hb => by simp at hb; omega)
              refine s_nil ⟨fun _ x hx => G64.blk x (by have := lt_r16 x hx; omega), ?_⟩
              refine d_done ?_
              refine p_seqN ?_
              refine v_seq ?_
              refine v_seq ?_
              refine v_ops ?_
              refine s_load (.agg #[.int .i64 (rdOut x39.data.toList), .int .i64 (rdOut x41.data.toList), .int .i64 (rdOut x43.data.toList), r23]) (fun _ q => bxx62.loadA rfl q) ?_
              have f65 := (((((s_r23.ext eh44).ext eh48).ext eh52).ext eh57).mod mh61 (fun b hb hc => by simp at hc; have := lt_r23 b hb; omega))
              refine s_call [.agg #[.int .i64 (rdOut x39.data.toList), .int .i64 (rdOut x41.data.toList), .int .i64 (rdOut x43.data.toList), r23]] rfl (spec_pkGood_ok (⟨(rdOut x39.data.toList), (rdOut x41.data.toList), (rdOut x43.data.toList), (sgp x22.data.toList).1⟩ : PkP) r23 _ f65.toSl) ?_
              rintro _ h66 ⟨rfl, eh66⟩
              have E67 := E63.trans eh66
              have z68 := eh66.size
              refine s_pure (.bool (!decide (PkOk (⟨(rdOut x39.data.toList), (rdOut x41.data.toList), (rdOut x43.data.toList), (sgp x22.data.toList).1⟩ : PkP)))) (fun _ q => q) ?_
              refine s_pure (.bool (!decide (PkOk (⟨(rdOut x39.data.toList), (rdOut x41.data.toList), (rdOut x43.data.toList), (sgp x22.data.toList).1⟩ : PkP)))) (fun _ q => q) ?_
              refine s_splitT rfl (fun c69 => ?_) (fun c69 => ?_)
              ·
                refine s_pass rfl ?_
                refine s_pass rfl ?_
                refine s_pass rfl ?_
                refine s_pass rfl ?_
                refine s_pure (.bool true) (fun _ q => q) ?_
                refine s_nil ?_
                refine p_seqN ?_
                refine v_condY rfl rfl ?_
                refine v_seq ?_
                refine v_ops ?_
                refine s_pure (.agg #[.int .i64 0, .int .i64 0, .int .i64 0, .slice none 0 0]) (fun _ q => w_build (seg_nil q)) ?_
                have f70 := (((((((((bxb1.ext eh6).ext eh17).ext eh24).ext eh44).ext eh48).ext eh52).ext eh57).mod mh61 (by simp; omega)).ext eh66)
                refine s_stBx (.agg #[.int .i64 0, .int .i64 0, .int .i64 0, .slice none 0 0]) [.int .i64 0, .int .i64 0, .int .i64 0, .slice none 0 0] [.int .i64 0, .int .i64 0, .int .i64 0, .slice none 0 0] f70 rfl rfl rfl rfl (by simp) (all_cons rfl (all_cons rfl (all_cons rfl (all_cons rfl all_nil)))) rfl (fun h71 mh71 sh71 bxx72 => ?_)
                have E73 := E67.mod mh71 (fun b hb => by simp at hb; omega)
                refine s_pure (.bool false) (fun _ q => q) ?_
                refine s_nil ?_
                refine p_seqN ?_
                refine v_ret ?_
                refine p_seqR ?_
                refine p_ret [.agg #[.int .i64 0, .int .i64 0, .int .i64 0, .slice none 0 0], .bool false] (.tuple #[.agg #[.int .i64 0, .int .i64 0, .int .i64 0, .slice none 0 0], .bool false]) (fun _ q => (bxx72.loadA rfl q)) rfl ?_
                have ho : (ppOut s.data.toList) = (⟨0, 0, 0, []⟩, false) := by first | exact no1' (by assumption) | exact no2' (by assumption) (by assumption) (by assumption) | exact no3' (by assumption) (by assumption) (by assumption) | exact no4' (by assumption) (by assumption) (by assumption) (by assumption) (by assumption) (fun q => absurd q.1 (by assumption)) | exact no4' (by assumption) (by assumption) (by assumption) (by assumption) (by assumption) (fun q => teqN (by assumption) q.2) | exact pp_yes ⟨(by assumption), (teqY (by assumption)).symm⟩
                exact ⟨(.slice none 0 0), by first | (rw [ho]; done) | rfl, sl_eq (SlX.nil (α := Int) true _) (congrArg (fun o => o.1.signals) ho).symm, Fr.nil _, E73⟩
              ·
                have c69 := Classical.not_not.1 c69
                refine s_run rfl ?_
                have f74 := (bxx62.ext eh66)
                refine s_load (.agg #[.int .i64 (rdOut x39.data.toList), .int .i64 (rdOut x41.data.toList), .int .i64 (rdOut x43.data.toList), r23]) (fun _ q => f74.loadA rfl q) ?_
                refine s_run rfl ?_
                have f75 := (f65.ext eh66)
                refine s_call [.agg #[.int .i64 (rdOut x39.data.toList), .int .i64 (rdOut x41.data.toList), .int .i64 (rdOut x43.data.toList), r23]] rfl (spec_pkText_ok (⟨(rdOut x39.data.toList), (rdOut x41.data.toList), (rdOut x43.data.toList), (sgp x22.data.toList).1⟩ : PkP) r23 _ f75.toSl (by assumption)) ?_
                rintro _ h76 ⟨rfl, eh76⟩
                have E77 := E67.trans eh76
                have z78 := eh76.size
                refine s_run rfl ?_
                refine s_pure (.string s) (fun _ q => q) ?_
                refine s_run rfl ?_
                refine s_pure (.bool (!((tx (pkTx (⟨(rdOut x39.data.toList), (rdOut x41.data.toList), (rdOut x43.data.toList), (sgp x22.data.toList).1⟩ : PkP))).toList == s.toList))) (fun _ q => q) ?_
                refine s_pure (.bool (!((tx (pkTx (⟨(rdOut x39.data.toList), (rdOut x41.data.toList), (rdOut x43.data.toList), (sgp x22.data.toList).1⟩ : PkP))).toList == s.toList))) (fun _ q => q) ?_
                refine s_nil ?_
                refine p_seqN ?_
                refine v_cond rfl (fun c79 => ?_) (fun c79 => ?_)
                ·
                  refine v_seq ?_
                  refine v_ops ?_
                  refine s_pure (.agg #[.int .i64 0, .int .i64 0, .int .i64 0, .slice none 0 0]) (fun _ q => w_build (seg_nil q)) ?_
                  have f80 := ((((((((((bxb1.ext eh6).ext eh17).ext eh24).ext eh44).ext eh48).ext eh52).ext eh57).mod mh61 (by simp; omega)).ext eh66).ext eh76)
                  refine s_stBx (.agg #[.int .i64 0, .int .i64 0, .int .i64 0, .slice none 0 0]) [.int .i64 0, .int .i64 0, .int .i64 0, .slice none 0 0] [.int .i64 0, .int .i64 0, .int .i64 0, .slice none 0 0] f80 rfl rfl rfl rfl (by simp) (all_cons rfl (all_cons rfl (all_cons rfl (all_cons rfl all_nil)))) rfl (fun h81 mh81 sh81 bxx82 => ?_)
                  have E83 := E77.mod mh81 (fun b hb => by simp at hb; omega)
                  refine s_pure (.bool false) (fun _ q => q) ?_
                  refine s_nil ?_
                  refine p_seqN ?_
                  refine v_ret ?_
                  refine p_seqR ?_
                  refine p_ret [.agg #[.int .i64 0, .int .i64 0, .int .i64 0, .slice none 0 0], .bool false] (.tuple #[.agg #[.int .i64 0, .int .i64 0, .int .i64 0, .slice none 0 0], .bool false]) (fun _ q => (bxx82.loadA rfl q)) rfl ?_
                  have ho : (ppOut s.data.toList) = (⟨0, 0, 0, []⟩, false) := by first | exact no1' (by assumption) | exact no2' (by assumption) (by assumption) (by assumption) | exact no3' (by assumption) (by assumption) (by assumption) | exact no4' (by assumption) (by assumption) (by assumption) (by assumption) (by assumption) (fun q => absurd q.1 (by assumption)) | exact no4' (by assumption) (by assumption) (by assumption) (by assumption) (by assumption) (fun q => teqN (by assumption) q.2) | exact pp_yes ⟨(by assumption), (teqY (by assumption)).symm⟩
                  exact ⟨(.slice none 0 0), by first | (rw [ho]; done) | rfl, sl_eq (SlX.nil (α := Int) true _) (congrArg (fun o => o.1.signals) ho).symm, Fr.nil _, E83⟩
                ·
                  have c79 := Classical.not_not.1 c79
                  refine v_skip ?_
                  refine p_seqN ?_
                  refine v_seq ?_
                  refine v_ops ?_
                  have f84 := (f74.ext eh76)
                  refine s_load (.agg #[.int .i64 (rdOut x39.data.toList), .int .i64 (rdOut x41.data.toList), .int .i64 (rdOut x43.data.toList), r23]) (fun _ q => f84.loadA rfl q) ?_
                  have f85 := ((((((((((bxb1.ext eh6).ext eh17).ext eh24).ext eh44).ext eh48).ext eh52).ext eh57).mod mh61 (by simp; omega)).ext eh66).ext eh76)
                  refine s_stBx (.agg #[.int .i64 (rdOut x39.data.toList), .int .i64 (rdOut x41.data.toList), .int .i64 (rdOut x43.data.toList), r23]) [.int .i64 (rdOut x39.data.toList), .int .i64 (rdOut x41.data.toList), .int .i64 (rdOut x43.data.toList), r23] [.int .i64 (rdOut x39.data.toList), .int .i64 (rdOut x41.data.toList), .int .i64 (rdOut x43.data.toList), r23] f85 rfl rfl rfl rfl (by simp) (all_cons rfl (all_cons rfl (all_cons rfl (all_cons f75.one1 all_nil)))) rfl (fun h86 mh86 sh86 bxx87 => ?_)
                  have E88 := E77.mod mh86 (fun b hb => by simp at hb; omega)
                  refine s_pure (.bool true) (fun _ q => q) ?_
                  refine s_nil ?_
                  refine p_seqN ?_
                  refine v_ret ?_
                  refine p_ret [.agg #[.int .i64 (rdOut x39.data.toList), .int .i64 (rdOut x41.data.toList), .int .i64 (rdOut x43.data.toList), r23], .bool true] (.tuple #[.agg #[.int .i64 (rdOut x39.data.toList), .int .i64 (rdOut x41.data.toList), .int .i64 (rdOut x43.data.toList), r23], .bool true]) (fun _ q => (bxx87.loadA rfl q)) rfl ?_
                  have ho : (ppOut s.data.toList) = (⟨(rdOut x39.data.toList), (rdOut x41.data.toList), (rdOut x43.data.toList), (sgp x22.data.toList).1⟩, true) := by first | exact no1' (by assumption) | exact no2' (by assumption) (by assumption) (by assumption) | exact no3' (by assumption) (by assumption) (by assumption) | exact no4' (by assumption) (by assumption) (by assumption) (by assumption) (by assumption) (fun q => absurd q.1 (by assumption)) | exact no4' (by assumption) (by assumption) (by assumption) (by assumption) (by assumption) (fun q => teqN (by assumption) q.2) | exact pp_yes ⟨(by assumption), (teqY (by assumption)).symm⟩
                  have f89 := ((f75.ext eh76).mod mh86 (fun b hb hc => by simp at hc; have := fr_r23 b hb; omega))
                  exact ⟨r23, by first | (rw [ho]; done) | rfl, sl_eq f89 (congrArg (fun o => o.1.signals) ho).symm, fr_r23.mono (by omega), E88⟩
            ·
              refine d_eff ?_
              refine s_new (fun h91 b90 hbb90 hzb90 eh91 bxb90 => ?_)
              have E92 := E49.trans eh91
              have z93 := eh91.size
              have G94 := G51.trans eh91
              have lbb90 := bxb90.lt
              refine s_nil ⟨fun _ x hx => G94.blk x (by have := lt_r16 x hx; omega), ?_⟩
              refine d_eff ?_
              refine s_call [.string x43] rfl (spec_l1Read_ok x43 _ (by first | exact b_s | exact spl_le (by assumption) b_s | exact spl_le (by assumption) (spl_le (by assumption) b_s)) (by first | exact hs | exact spl_le (by assumption) hs | exact spl_le (by assumption) (spl_le (by assumption) hs))) ?_
              rintro _ h95 ⟨rfl, eh95⟩
              have E96 := E92.trans eh95
              have z97 := eh95.size
              have G98 := G94.trans eh95
              refine s_nil ⟨fun _ x hx => G98.blk x (by have := lt_r16 x hx; omega), ?_⟩
              refine d_pureT (.agg #[.int .i64 (rdOut x39.data.toList), .int .i64 (rdOut x41.data.toList), .int .i64 (rdOut x43.data.toList), r23]) (fun _ q => w_build (seg_i rfl (seg_i rfl (seg_i rfl (seg_sl s_r23 rfl (seg_nil q)))))) ?_
              refine d_eff ?_
              have f99 := (bxb90.ext eh95)
              refine s_stBx (.agg #[.int .i64 (rdOut x39.data.toList), .int .i64 (rdOut x41.data.toList), .int .i64 (rdOut x43.data.toList), r23]) [.int .i64 (rdOut x39.data.toList), .int .i64 (rdOut x41.data.toList), .int .i64 (rdOut x43.data.toList), r23] [.int .i64 (rdOut x39.data.toList), .int .i64 (rdOut x41.data.toList), .int .i64 (rdOut x43.data.toList), r23] f99 rfl rfl rfl rfl (by simp) (all_cons rfl (all_cons rfl (all_cons rfl (all_cons s_r23.one1 all_nil)))) rfl (fun h100 mh100 sh100 bxx101 => ?_)
              have E102 := E96.mod mh100 (fun b hb => by simp at hb; omega)
              have G103 := G98.mod mh100 (fun b hb => by simp at hb; omega)
              refine s_nil ⟨fun _ x hx => G103.blk x (by have := lt_r16 x hx; omega), ?_⟩
              refine d_done ?_
              refine p_seqN ?_
              refine v_seq ?_
              refine v_seq ?_
              refine v_ops ?_
              refine s_load (.agg #[.int .i64 (rdOut x39.data.toList), .int .i64 (rdOut x41.data.toList), .int .i64 (rdOut x43.data.toList), r23]) (fun _ q => bxx101.loadA rfl q) ?_
              have f104 := (((((s_r23.ext eh44).ext eh48).ext eh91).ext eh95).mod mh100 (fun b hb hc => by simp at hc; have := lt_r23 b hb; omega))
              refine s_call [.agg #[.int .i64 (rdOut x39.data.toList), .int .i64 (rdOut x41.data.toList), .int .i64 (rdOut x43.data.toList), r23]] rfl (spec_pkGood_ok (⟨(rdOut x39.data.toList), (rdOut x41.data.toList), (rdOut x43.data.toList), (sgp x22.data.toList).1⟩ : PkP) r23 _ f104.toSl) ?_
              rintro _ h105 ⟨rfl, eh105⟩
              have E106 := E102.trans eh105
              have z107 := eh105.size
              refine s_pure (.bool (!decide (PkOk (⟨(rdOut x39.data.toList), (rdOut x41.data.toList), (rdOut x43.data.toList), (sgp x22.data.toList).1⟩ : PkP)))) (fun _ q => q) ?_
              refine s_pure (.bool (!decide (PkOk (⟨(rdOut x39.data.toList), (rdOut x41.data.toList), (rdOut x43.data.toList), (sgp x22.data.toList).1⟩ : PkP)))) (fun _ q => q) ?_
              refine s_splitT rfl (fun c108 => ?_) (fun c108 => ?_)
              ·
                refine s_pass rfl ?_
                refine s_pass rfl ?_
                refine s_pass rfl ?_
                refine s_pass rfl ?_
                refine s_pure (.bool true) (fun _ q => q) ?_
                refine s_nil ?_
                refine p_seqN ?_
                refine v_condY rfl rfl ?_
                refine v_seq ?_
                refine v_ops ?_
                refine s_pure (.agg #[.int .i64 0, .int .i64 0, .int .i64 0, .slice none 0 0]) (fun _ q => w_build (seg_nil q)) ?_
                have f109 := (((((((((bxb1.ext eh6).ext eh17).ext eh24).ext eh44).ext eh48).ext eh91).ext eh95).mod mh100 (by simp; omega)).ext eh105)
                refine s_stBx (.agg #[.int .i64 0, .int .i64 0, .int .i64 0, .slice none 0 0]) [.int .i64 0, .int .i64 0, .int .i64 0, .slice none 0 0] [.int .i64 0, .int .i64 0, .int .i64 0, .slice none 0 0] f109 rfl rfl rfl rfl (by simp) (all_cons rfl (all_cons rfl (all_cons rfl (all_cons rfl all_nil)))) rfl (fun h110 mh110 sh110 bxx111 => ?_)
                have E112 := E106.mod mh110 (fun b hb => by simp at hb; omega)
                refine s_pure (.bool false) (fun _ q => q) ?_
                refine s_nil ?_
                refine p_seqN ?_
                refine v_ret ?_
                refine p_seqR ?_
                refine p_ret [.agg #[.int .i64 0, .int .i64 0, .int .i64 0, .slice none 0 0], .bool false] (.tuple #[.agg #[.int .i64 0, .int .i64 0, .int .i64 0, .slice none 0 0], .bool false]) (fun _ q => (bxx111.loadA rfl q)) rfl ?_
                have ho : (ppOut s.data.toList) = (⟨0, 0, 0, []⟩, false) := by first | exact no1' (by assumption) | exact no2' (by assumption) (by assumption) (by assumption) | exact no3' (by assumption) (by assumption) (by assumption) | exact no4' (by assumption) (by assumption) (by assumption) (by assumption) (by assumption) (fun q => absurd q.1 (by assumption)) | exact no4' (by assumption) (by assumption) (by assumption) (by assumption) (by assumption) (fun q => teqN (by assumption) q.2) | exact pp_yes ⟨(by assumption), (teqY (by assumption)).symm⟩
                exact ⟨(.slice none 0 0), by first | (rw [ho]; done) | rfl, sl_eq (SlX.nil (α := Int) true _) (congrArg (fun o => o.1.signals) ho).symm, Fr.nil _, E112⟩
              ·
                have c108 := Classical.not_not.1 c108
                refine s_run rfl ?_
                have f113 := (bxx101.ext eh105)
                refine s_load (.agg #[.int .i64 (rdOut x39.data.toList), .int .i64 (rdOut x41.data.toList), .int .i64 (rdOut x43.data.toList), r23]) (fun _ q => f113.loadA rfl q) ?_
                refine s_run rfl ?_
                have f114 := (f104.ext eh105)
                refine s_call [.agg #[.int .i64 (rdOut x39.data.toList), .int .i64 (rdOut x41.data.toList), .int .i64 (rdOut x43.data.toList), r23]] rfl (spec_pkText_ok (⟨(rdOut x39.data.toList), (rdOut x41.data.toList), (rdOut x43.data.toList), (sgp x22.data.toList).1⟩ : PkP) r23 _ f114.toSl (by assumption)) ?_
                rintro _ h115 ⟨rfl, eh115⟩
                have E116 := E106.trans eh115
                have z117 := eh115.size
                refine s_run rfl ?_
                refine s_pure (.string s) (fun _ q => q) ?_
                refine s_run rfl ?_
                refine s_pure (.bool (!((tx (pkTx (⟨(rdOut x39.data.toList), (rdOut x41.data.toList), (rdOut x43.data.toList), (sgp x22.data.toList).1⟩ : PkP))).toList == s.toList))) (fun _ q => q) ?_
                refine s_pure (.bool (!((tx (pkTx (⟨(rdOut x39.data.toList), (rdOut x41.data.toList), (rdOut x43.data.toList), (sgp x22.data.toList).1⟩ : PkP))).toList == s.toList))) (fun _ q => q) ?_
                refine s_nil ?_
                refine p_seqN ?_
                refine v_cond rfl (fun c118 => ?_) (fun c118 => ?_)
                ·
                  refine v_seq ?_
                  refine v_ops ?_
                  refine s_pure (.agg #[.int .i64 0, .int .i64 0, .int .i64 0, .slice none 0 0]) (fun _ q => w_build (seg_nil q)) ?_
                  have f119 := ((((((((((bxb1.ext eh6).ext eh17).ext eh24).ext eh44).ext eh48).ext eh91).ext eh95).mod mh100 (by simp; omega)).ext eh105).ext eh115)
                  refine s_stBx (.agg #[.int .i64 0, .int .i64 0, .int .i64 0, .slice none 0 0]) [.int .i64 0, .int .i64 0, .int .i64 0, .slice none 0 0] [.int .i64 0, .int .i64 0, .int .i64 0, .slice none 0 0] f119 rfl rfl rfl rfl (by simp) (all_cons rfl (all_cons rfl (all_cons rfl (all_cons rfl all_nil)))) rfl (fun h120 mh120 sh120 bxx121 => ?_)
                  have E122 := E116.mod mh120 (fun b hb => by simp at hb; omega)
                  refine s_pure (.bool false) (fun _ q => q) ?_
                  refine s_nil ?_
                  refine p_seqN ?_
                  refine v_ret ?_
                  refine p_seqR ?_
                  refine p_ret [.agg #[.int .i64 0, .int .i64 0, .int .i64 0, .slice none 0 0], .bool false] (.tuple #[.agg #[.int .i64 0, .int .i64 0, .int .i64 0, .slice none 0 0], .bool false]) (fun _ q => (bxx121.loadA rfl q)) rfl ?_
                  have ho : (ppOut s.data.toList) = (⟨0, 0, 0, []⟩, false) := by first | exact no1' (by assumption) | exact no2' (by assumption) (by assumption) (by assumption) | exact no3' (by assumption) (by assumption) (by assumption) | exact no4' (by assumption) (by assumption) (by assumption) (by assumption) (by assumption) (fun q => absurd q.1 (by assumption)) | exact no4' (by assumption) (by assumption) (by assumption) (by assumption) (by assumption) (fun q => teqN (by assumption) q.2) | exact pp_yes ⟨(by assumption), (teqY (by assumption)).symm⟩
                  exact ⟨(.slice none 0 0), by first | (rw [ho]; done) | rfl, sl_eq (SlX.nil (α := Int) true _) (congrArg (fun o => o.1.signals) ho).symm, Fr.nil _, E122⟩
                ·
                  have c118 := Classical.not_not.1 c118
                  refine v_skip ?_
                  refine p_seqN ?_
                  refine v_seq ?_
                  refine v_ops ?_
                  have f123 := (f113.ext eh115)
                  refine s_load (.agg #[.int .i64 (rdOut x39.data.toList), .int .i64 (rdOut x41.data.toList), .int .i64 (rdOut x43.data.toList), r23]) (fun _ q => f123.loadA rfl q) ?_
                  have f124 := ((((((((((bxb1.ext eh6).ext eh17).ext eh24).ext eh44).ext eh48).ext eh91).ext eh95).mod mh100 (by simp; omega)).ext eh105).ext eh115)
                  refine s_stBx (.agg #[.int .i64 (rdOut x39.data.toList), .int .i64 (rdOut x41.data.toList), .int .i64 (rdOut x43.data.toList), r23]) [.int .i64 (rdOut x39.data.toList), .int .i64 (rdOut x41.data.toList), .int .i64 (rdOut x43.data.toList), r23] [.int .i64 (rdOut x39.data.toList), .int .i64 (rdOut x41.data.toList), .int .i64 (rdOut x43.data.toList), r23] f124 rfl rfl rfl rfl (by simp) (all_cons rfl (all_cons rfl (all_cons rfl (all_cons f114.one1 all_nil)))) rfl (fun h125 mh125 sh125 bxx126 => ?_)
                  have E127 := E116.mod mh125 (fun b hb => by simp at hb; omega)
                  refine s_pure (.bool true) (fun _ q => q) ?_
                  refine s_nil ?_
                  refine p_seqN ?_
                  refine v_ret ?_
                  refine p_ret [.agg #[.int .i64 (rdOut x39.data.toList), .int .i64 (rdOut x41.data.toList), .int .i64 (rdOut x43.data.toList), r23], .bool true] (.tuple #[.agg #[.int .i64 (rdOut x39.data.toList), .int .i64 (rdOut x41.data.toList), .int .i64 (rdOut x43.data.toList), r23], .bool true]) (fun _ q => (bxx126.loadA rfl q)) rfl ?_
                  have ho : (ppOut s.data.toList) = (⟨(rdOut x39.data.toList), (rdOut x41.data.toList), (rdOut x43.data.toList), (sgp x22.data.toList).1⟩, true) := by first | exact no1' (by assumption) | exact no2' (by assumption) (by assumption) (by assumption) | exact no3' (by assumption) (by assumption) (by assumption) | exact no4' (by assumption) (by assumption) (by assumption) (by assumption) (by assumption) (fun q => absurd q.1 (by assumption)) | exact no4' (by assumption) (by assumption) (by assumption) (by assumption) (by assumption) (fun q => teqN (by assumption) q.2) | exact pp_yes ⟨(by assumption), (teqY (by assumption)).symm⟩
                  have f128 := ((f114.ext eh115).mod mh125 (fun b hb hc => by simp at hc; have := fr_r23 b hb; omega))
                  exact ⟨r23, by first | (rw [ho]; done) | rfl, sl_eq f128 (congrArg (fun o => o.1.signals) ho).symm, fr_r23.mono (by omega), E127⟩
          ·
            refine d_eff ?_
            refine s_new (fun h130 b129 hbb129 hzb129 eh130 bxb129 => ?_)
            have E131 := E45.trans eh130
            have z132 := eh130.size
            have G133 := G47.trans eh130
            have lbb129 := bxb129.lt
            refine s_nil ⟨fun _ x hx => G133.blk x (by have := lt_r16 x hx; omega), ?_⟩
            refine d_eff ?_
            refine s_call [.string x41] rfl (spec_l1Read_ok x41 _ (by first | exact b_s | exact spl_le (by assumption) b_s | exact spl_le (by assumption) (spl_le (by assumption) b_s)) (by first | exact hs | exact spl_le (by assumption) hs | exact spl_le (by assumption) (spl_le (by assumption) hs))) ?_
            rintro _ h134 ⟨rfl, eh134⟩
            have E135 := E131.trans eh134
            have z136 := eh134.size
            have G137 := G133.trans eh134
            refine s_nil ⟨fun _ x hx => G137.blk x (by have := lt_r16 x hx; omega), ?_⟩
            refine d_eff ?_
            refine s_call [.string x43] rfl (spec_l1Read_ok x43 _ (by first | exact b_s | exact spl_le (by assumption) b_s | exact spl_le (by assumption) (spl_le (by assumption) b_s)) (by first | exact hs | exact spl_le (by assumption) hs | exact spl_le (by assumption) (spl_le (by assumption) hs))) ?_
            rintro _ h138 ⟨rfl, eh138⟩
            have E139 := E135.trans eh138
            have z140 := eh138.size
            have G141 := G137.trans eh138
            refine s_nil ⟨fun _ x hx => G141.blk x (by have := lt_r16 x hx; omega), ?_⟩
            refine d_pureT (.agg #[.int .i64 (rdOut x39.data.toList), .int .i64 (rdOut x41.data.toList), .int .i64 (rdOut x43.data.toList), r23]) (fun _ q => w_build (seg_i rfl (seg_i rfl (seg_i rfl (seg_sl s_r23 rfl (seg_nil q)))))) ?_
            refine d_eff ?_
            have f142 := ((bxb129.ext eh134).ext eh138)
            refine s_stBx (.agg #[.int .i64 (rdOut x39.data.toList), .int .i64 (rdOut x41.data.toList), .int .i64 (rdOut x43.data.toList), r23]) [.int .i64 (rdOut x39.data.toList), .int .i64 (rdOut x41.data.toList), .int .i64 (rdOut x43.data.toList), r23] [.int .i64 (rdOut x39.data.toList), .int .i64 (rdOut x41.data.toList), .int .i64 (rdOut x43.data.toList), r23] f142 rfl rfl rfl rfl (by simp) (all_cons rfl (all_cons rfl (all_cons rfl (all_cons s_r23.one1 all_nil)))) rfl (fun h143 mh143 sh143 bxx144 => ?_)
            have E145 := E139.mod mh143 (fun b hb => by simp at hb; omega)
            have G146 := G141.mod mh143 (fun b hb => by simp at hb; omega)
            refine s_nil ⟨fun _ x hx => G146.blk x (by have := lt_r16 x hx; omega), ?_⟩
            refine d_done ?_
            refine p_seqN ?_
            refine v_seq ?_
            refine v_seq ?_
            refine v_ops ?_
            refine s_load (.agg #[.int .i64 (rdOut x39.data.toList), .int .i64 (rdOut x41.data.toList), .int .i64 (rdOut x43.data.toList), r23]) (fun _ q => bxx144.loadA rfl q) ?_
            have f147 := (((((s_r23.ext eh44).ext eh130).ext eh134).ext eh138).mod mh143 (fun b hb hc => by simp at hc; have := lt_r23 b hb; omega))
            refine s_call [.agg #[.int .i64 (rdOut x39.data.toList), .int .i64 (rdOut x41.data.toList), .int .i64 (rdOut x43.data.toList), r23]] rfl (spec_pkGood_ok (⟨(rdOut x39.data.toList), (rdOut x41.data.toList), (rdOut x43.data.toList), (sgp x22.data.toList).1⟩ : PkP) r23 _ f147.toSl) ?_
            rintro _ h148 ⟨rfl, eh148⟩
            have E149 := E145.trans eh148
            have z150 := eh148.size
            refine s_pure (.bool (!decide (PkOk (⟨(rdOut x39.data.toList), (rdOut x41.data.toList), (rdOut x43.data.toList), (sgp x22.data.toList).1⟩ : PkP)))) (fun _ q => q) ?_
            refine s_pure (.bool (!decide (PkOk (⟨(rdOut x39.data.toList), (rdOut x41.data.toList), (rdOut x43.data.toList), (sgp x22.data.toList).1⟩ : PkP)))) (fun _ q => q) ?_
            refine s_splitT rfl (fun c151 => ?_) (fun c151 => ?_)
            ·
              refine s_pass rfl ?_
              refine s_pass rfl ?_
              refine s_pass rfl ?_
              refine s_pass rfl ?_
              refine s_pure (.bool true) (fun _ q => q) ?_
              refine s_nil ?_
              refine p_seqN ?_
              refine v_condY rfl rfl ?_
              refine v_seq ?_
              refine v_ops ?_
              refine s_pure (.agg #[.int .i64 0, .int .i64 0, .int .i64 0, .slice none 0 0]) (fun _ q => w_build (seg_nil q)) ?_
              have f152 := (((((((((bxb1.ext eh6).ext eh17).ext eh24).ext eh44).ext eh130).ext eh134).ext eh138).mod mh143 (by simp; omega)).ext eh148)
              refine s_stBx (.agg #[.int .i64 0, .int .i64 0, .int .i64 0, .slice none 0 0]) [.int .i64 0, .int .i64 0, .int .i64 0, .slice none 0 0] [.int .i64 0, .int .i64 0, .int .i64 0, .slice none 0 0] f152 rfl rfl rfl rfl (by simp) (all_cons rfl (all_cons rfl (all_cons rfl (all_cons rfl all_nil)))) rfl (fun h153 mh153 sh153 bxx154 => ?_)
              have E155 := E149.mod mh153 (fun b hb => by simp at hb; omega)
              refine s_pure (.bool false) (fun _ q => q) ?_
              refine s_nil ?_
              refine p_seqN ?_
              refine v_ret ?_
              refine p_seqR ?_
              refine p_ret [.agg #[.int .i64 0, .int .i64 0, .int .i64 0, .slice none 0 0], .bool false] (.tuple #[.agg #[.int .i64 0, .int .i64 0, .int .i64 0, .slice none 0 0], .bool false]) (fun _ q => (bxx154.loadA rfl q)) rfl ?_
              have ho : (ppOut s.data.toList) = (⟨0, 0, 0, []⟩, false) := by first | exact no1' (by assumption) | exact no2' (by assumption) (by assumption) (by assumption) | exact no3' (by assumption) (by assumption) (by assumption) | exact no4' (by assumption) (by assumption) (by assumption) (by assumption) (by assumption) (fun q => absurd q.1 (by assumption)) | exact no4' (by assumption) (by assumption) (by assumption) (by assumption) (by assumption) (fun q => teqN (by assumption) q.2) | exact pp_yes ⟨(by assumption), (teqY (by assumption)).symm⟩
              exact ⟨(.slice none 0 0), by first | (rw [ho]; done) | rfl, sl_eq (SlX.nil (α := Int) true _) (congrArg (fun o => o.1.signals) ho).symm, Fr.nil _, E155⟩
            ·
              have c151 := Classical.not_not.1 c151
              refine s_run rfl ?_
              have f156 := (bxx144.ext eh148)
              refine s_load (.agg #[.int .i64 (rdOut x39.data.toList), .int .i64 (rdOut x41.data.toList), .int .i64 (rdOut x43.data.toList), r23]) (fun _ q => f156.loadA rfl q) ?_
              refine s_run rfl ?_
              have f157 := (f147.ext eh148)
              refine s_call [.agg #[.int .i64 (rdOut x39.data.toList), .int .i64 (rdOut x41.data.toList), .int .i64 (rdOut x43.data.toList), r23]] rfl (spec_pkText_ok (⟨(rdOut x39.data.toList), (rdOut x41.data.toList), (rdOut x43.data.toList), (sgp x22.data.toList).1⟩ : PkP) r23 _ f157.toSl (by assumption)) ?_
              rintro _ h158 ⟨rfl, eh158⟩
              have E159 := E149.trans eh158
              have z160 := eh158.size
              refine s_run rfl ?_
              refine s_pure (.string s) (fun _ q => q) ?_
              refine s_run rfl ?_
              refine s_pure (.bool (!((tx (pkTx (⟨(rdOut x39.data.toList), (rdOut x41.data.toList), (rdOut x43.data.toList), (sgp x22.data.toList).1⟩ : PkP))).toList == s.toList))) (fun _ q => q) ?_
              refine s_pure (.bool (!((tx (pkTx (⟨(rdOut x39.data.toList), (rdOut x41.data.toList), (rdOut x43.data.toList), (sgp x22.data.toList).1⟩ : PkP))).toList == s.toList))) (fun _ q => q) ?_
              refine s_nil ?_
              refine p_seqN ?_
              refine v_cond rfl (fun c161 => ?_) (fun c161 => ?_)
              ·
                refine v_seq ?_
                refine v_ops ?_
                refine s_pure (.agg #[.int .i64 0, .int .i64 0, .int .i64 0, .slice none 0 0]) (fun _ q => w_build (seg_nil q)) ?_
                have f162 := ((((((((((bxb1.ext eh6).ext eh17).ext eh24).ext eh44).ext eh130).ext eh134).ext eh138).mod mh143 (by simp; omega)).ext eh148).ext eh158)
                refine s_stBx (.agg #[.int .i64 0, .int .i64 0, .int .i64 0, .slice none 0 0]) [.int .i64 0, .int .i64 0, .int .i64 0, .slice none 0 0] [.int .i64 0, .int .i64 0, .int .i64 0, .slice none 0 0] f162 rfl rfl rfl rfl (by simp) (all_cons rfl (all_cons rfl (all_cons rfl (all_cons rfl all_nil)))) rfl (fun h163 mh163 sh163 bxx164 => ?_)
                have E165 := E159.mod mh163 (fun b hb => by simp at hb; omega)
                refine s_pure (.bool false) (fun _ q => q) ?_
                refine s_nil ?_
                refine p_seqN ?_
                refine v_ret ?_
                refine p_seqR ?_
                refine p_ret [.agg #[.int .i64 0, .int .i64 0, .int .i64 0, .slice none 0 0], .bool false] (.tuple #[.agg #[.int .i64 0, .int .i64 0, .int .i64 0, .slice none 0 0], .bool false]) (fun _ q => (bxx164.loadA rfl q)) rfl ?_
                have ho : (ppOut s.data.toList) = (⟨0, 0, 0, []⟩, false) := by first | exact no1' (by assumption) | exact no2' (by assumption) (by assumption) (by assumption) | exact no3' (by assumption) (by assumption) (by assumption) | exact no4' (by assumption) (by assumption) (by assumption) (by assumption) (by assumption) (fun q => absurd q.1 (by assumption)) | exact no4' (by assumption) (by assumption) (by assumption) (by assumption) (by assumption) (fun q => teqN (by assumption) q.2) | exact pp_yes ⟨(by assumption), (teqY (by assumption)).symm⟩
                exact ⟨(.slice none 0 0), by first | (rw [ho]; done) | rfl, sl_eq (SlX.nil (α := Int) true _) (congrArg (fun o => o.1.signals) ho).symm, Fr.nil _, E165⟩
              ·
                have c161 := Classical.not_not.1 c161
                refine v_skip ?_
                refine p_seqN ?_
                refine v_seq ?_
                refine v_ops ?_
                have f166 := (f156.ext eh158)
                refine s_load (.agg #[.int .i64 (rdOut x39.data.toList), .int .i64 (rdOut x41.data.toList), .int .i64 (rdOut x43.data.toList), r23]) (fun _ q => f166.loadA rfl q) ?_
                have f167 := ((((((((((bxb1.ext eh6).ext eh17).ext eh24).ext eh44).ext eh130).ext eh134).ext eh138).mod mh143 (by simp; omega)).ext eh148).ext eh158)
                refine s_stBx (.agg #[.int .i64 (rdOut x39.data.toList), .int .i64 (rdOut x41.data.toList), .int .i64 (rdOut x43.data.toList), r23]) [.int .i64 (rdOut x39.data.toList), .int .i64 (rdOut x41.data.toList), .int .i64 (rdOut x43.data.toList), r23] [.int .i64 (rdOut x39.data.toList), .int .i64 (rdOut x41.data.toList), .int .i64 (rdOut x43.data.toList), r23] f167 rfl rfl rfl rfl (by simp) (all_cons rfl (all_cons rfl (all_cons rfl (all_cons f157.one1 all_nil)))) rfl (fun h168 mh168 sh168 bxx169 => ?_)
                have E170 := E159.mod mh168 (fun b hb => by simp at hb; omega)
                refine s_pure (.bool true) (fun _ q => q) ?_
                refine s_nil ?_
                refine p_seqN ?_
                refine v_ret ?_
                refine p_ret [.agg #[.int .i64 (rdOut x39.data.toList), .int .i64 (rdOut x41.data.toList), .int .i64 (rdOut x43.data.toList), r23], .bool true] (.tuple #[.agg #[.int .i64 (rdOut x39.data.toList), .int .i64 (rdOut x41.data.toList), .int .i64 (rdOut x43.data.toList), r23], .bool true]) (fun _ q => (bxx169.loadA rfl q)) rfl ?_
                have ho : (ppOut s.data.toList) = (⟨(rdOut x39.data.toList), (rdOut x41.data.toList), (rdOut x43.data.toList), (sgp x22.data.toList).1⟩, true) := by first | exact no1' (by assumption) | exact no2' (by assumption) (by assumption) (by assumption) | exact no3' (by assumption) (by assumption) (by assumption) | exact no4' (by assumption) (by assumption) (by assumption) (by assumption) (by assumption) (fun q => absurd q.1 (by assumption)) | exact no4' (by assumption) (by assumption) (by assumption) (by assumption) (by assumption) (fun q => teqN (by assumption) q.2) | exact pp_yes ⟨(by assumption), (teqY (by assumption)).symm⟩
                have f171 := ((f157.ext eh158).mod mh168 (fun b hb hc => by simp at hc; have := fr_r23 b hb; omega))
                exact ⟨r23, by first | (rw [ho]; done) | rfl, sl_eq f171 (congrArg (fun o => o.1.signals) ho).symm, fr_r23.mono (by omega), E170⟩
        ·
          refine d_eff ?_
          refine s_new (fun h173 b172 hbb172 hzb172 eh173 bxb172 => ?_)
          have E174 := E25.trans eh173
          have z175 := eh173.size
          have G176 := eh173
          have lbb172 := bxb172.lt
          refine s_nil ⟨fun _ x hx => G176.blk x (by have := lt_r16 x hx; omega), ?_⟩
          refine d_eff ?_
          refine s_call [.string x39] rfl (spec_l1Read_ok x39 _ (by first | exact b_s | exact spl_le (by assumption) b_s | exact spl_le (by assumption) (spl_le (by assumption) b_s)) (by first | exact hs | exact spl_le (by assumption) hs | exact spl_le (by assumption) (spl_le (by assumption) hs))) ?_
          rintro _ h177 ⟨rfl, eh177⟩
          have E178 := E174.trans eh177
          have z179 := eh177.size
          have G180 := G176.trans eh177
          refine s_nil ⟨fun _ x hx => G180.blk x (by have := lt_r16 x hx; omega), ?_⟩
          refine d_eff ?_
          refine s_call [.string x41] rfl (spec_l1Read_ok x41 _ (by first | exact b_s | exact spl_le (by assumption) b_s | exact spl_le (by assumption) (spl_le (by assumption) b_s)) (by first | exact hs | exact spl_le (by assumption) hs | exact spl_le (by assumption) (spl_le (by assumption) hs))) ?_
          rintro _ h181 ⟨rfl, eh181⟩
          have E182 := E178.trans eh181
          have z183 := eh181.size
          have G184 := G180.trans eh181
          refine s_nil ⟨fun _ x hx => G184.blk x (by have := lt_r16 x hx; omega), ?_⟩
          refine d_eff ?_
          refine s_call [.string x43] rfl (spec_l1Read_ok x43 _ (by first | exact b_s | exact spl_le (by assumption) b_s | exact spl_le (by assumption) (spl_le (by assumption) b_s)) (by first | exact hs | exact spl_le (by assumption) hs | exact spl_le (by assumption) (spl_le (by assumption) hs))) ?_
          rintro _ h185 ⟨rfl, eh185⟩
          have E186 := E182.trans eh185
          have z187 := eh185.size
          have G188 := G184.trans eh185
          refine s_nil ⟨fun _ x hx => G188.blk x (by have := lt_r16 x hx; omega), ?_⟩
          refine d_pureT (.agg #[.int .i64 (rdOut x39.data.toList), .int .i64 (rdOut x41.data.toList), .int .i64 (rdOut x43.data.toList), r23]) (fun _ q => w_build (seg_i rfl (seg_i rfl (seg_i rfl (seg_sl s_r23 rfl (seg_nil q)))))) ?_
          refine d_eff ?_
          have f189 := (((bxb172.ext eh177).ext eh181).ext eh185)
          refine s_stBx (.agg #[.int .i64 (rdOut x39.data.toList), .int .i64 (rdOut x41.data.toList), .int .i64 (rdOut x43.data.toList), r23]) [.int .i64 (rdOut x39.data.toList), .int .i64 (rdOut x41.data.toList), .int .i64 (rdOut x43.data.toList), r23] [.int .i64 (rdOut x39.data.toList), .int .i64 (rdOut x41.data.toList), .int .i64 (rdOut x43.data.toList), r23] f189 rfl rfl rfl rfl (by simp) (all_cons rfl (all_cons rfl (all_cons rfl (all_cons s_r23.one1 all_nil)))) rfl (fun h190 mh190 sh190 bxx191 => ?_)
          have E192 := E186.mod mh190 (fun b hb => by simp at hb; omega)
          have G193 := G188.mod mh190 (fun b hb => by simp at hb; omega)
          refine s_nil ⟨fun _ x hx => G193.blk x (by have := lt_r16 x hx; omega), ?_⟩
          refine d_done ?_
          refine p_seqN ?_
          refine v_seq ?_
          refine v_seq ?_
          refine v_ops ?_
          refine s_load (.agg #[.int .i64 (rdOut x39.data.toList), .int .i64 (rdOut x41.data.toList), .int .i64 (rdOut x43.data.toList), r23]) (fun _ q => bxx191.loadA rfl q) ?_
          have f194 := (((((s_r23.ext eh173).ext eh177).ext eh181).ext eh185).mod mh190 (fun b hb hc => by simp at hc; have := lt_r23 b hb; omega))
          refine s_call [.agg #[.int .i64 (rdOut x39.data.toList), .int .i64 (rdOut x41.data.toList), .int .i64 (rdOut x43.data.toList), r23]] rfl (spec_pkGood_ok (⟨(rdOut x39.data.toList), (rdOut x41.data.toList), (rdOut x43.data.toList), (sgp x22.data.toList).1⟩ : PkP) r23 _ f194.toSl) ?_
          rintro _ h195 ⟨rfl, eh195⟩
          have E196 := E192.trans eh195
          have z197 := eh195.size
          refine s_pure (.bool (!decide (PkOk (⟨(rdOut x39.data.toList), (rdOut x41.data.toList), (rdOut x43.data.toList), (sgp x22.data.toList).1⟩ : PkP)))) (fun _ q => q) ?_
          refine s_pure (.bool (!decide (PkOk (⟨(rdOut x39.data.toList), (rdOut x41.data.toList), (rdOut x43.data.toList), (sgp x22.data.toList).1⟩ : PkP)))) (fun _ q => q) ?_
          refine s_splitT rfl (fun c198 => ?_) (fun c198 => ?_)
          ·
            refine s_pass rfl ?_
            refine s_pass rfl ?_
            refine s_pass rfl ?_
            refine s_pass rfl ?_
            refine s_pure (.bool true) (fun _ q => q) ?_
            refine s_nil ?_
            refine p_seqN ?_
            refine v_condY rfl rfl ?_
            refine v_seq ?_
            refine v_ops ?_
            refine s_pure (.agg #[.int .i64 0, .int .i64 0, .int .i64 0, .slice none 0 0]) (fun _ q => w_build (seg_nil q)) ?_
            have f199 := (((((((((bxb1.ext eh6).ext eh17).ext eh24).ext eh173).ext eh177).ext eh181).ext eh185).mod mh190 (by simp; omega)).ext eh195)
            refine s_stBx (.agg #[.int .i64 0, .int .i64 0, .int .i64 0, .slice none 0 0]) [.int .i64 0, .int .i64 0, .int .i64 0, .slice none 0 0] [.int .i64 0, .int .i64 0, .int .i64 0, .slice none 0 0] f199 rfl rfl rfl rfl (by simp) (all_cons rfl (all_cons rfl (all_cons rfl (all_cons rfl all_nil)))) rfl (fun h200 mh200 sh200 bxx201 => ?_)
            have E202 := E196.mod mh200 (fun b hb => by simp at hb; omega)
            refine s_pure (.bool false) (fun _ q => q) ?_
            refine s_nil ?_
            refine p_seqN ?_
            refine v_ret ?_
            refine p_seqR ?_
            refine p_ret [.agg #[.int .i64 0, .int .i64 0, .int .i64 0, .slice none 0 0], .bool false] (.tuple #[.agg #[.int .i64 0, .int .i64 0, .int .i64 0, .slice none 0 0], .bool false]) (fun _ q => (bxx201.loadA rfl q)) rfl ?_
            have ho : (ppOut s.data.toList) = (⟨0, 0, 0, []⟩, false) := by first | exact no1' (by assumption) | exact no2' (by assumption) (by assumption) (by assumption) | exact no3' (by assumption) (by assumption) (by assumption) | exact no4' (by assumption) (by assumption) (by assumption) (by assumption) (by assumption) (fun q => absurd q.1 (by assumption)) | exact no4' (by assumption) (by assumption) (by assumption) (by assumption) (by assumption) (fun q => teqN (by assumption) q.2) | exact pp_yes ⟨(by assumption), (teqY (by assumption)).symm⟩
            exact ⟨(.slice none 0 0), by first | (rw [ho]; done) | rfl, sl_eq (SlX.nil (α := Int) true _) (congrArg (fun o => o.1.signals) ho).symm, Fr.nil _, E202⟩
          ·
            have c198 := Classical.not_not.1 c198
            refine s_run rfl ?_
            have f203 := (bxx191.ext eh195)
            refine s_load (.agg #[.int .i64 (rdOut x39.data.toList), .int .i64 (rdOut x41.data.toList), .int .i64 (rdOut x43.data.toList), r23]) (fun _ q => f203.loadA rfl q) ?_
            refine s_run rfl ?_
            have f204 := (f194.ext eh195)
            refine s_call [.agg #[.int .i64 (rdOut x39.data.toList), .int .i64 (rdOut x41.data.toList), .int .i64 (rdOut x43.data.toList), r23]] rfl (spec_pkText_ok (⟨(rdOut x39.data.toList), (rdOut x41.data.toList), (rdOut x43.data.toList), (sgp x22.data.toList).1⟩ : PkP) r23 _ f204.toSl (by assumption)) ?_
            rintro _ h205 ⟨rfl, eh205⟩
            have E206 := E196.trans eh205
            have z207 := eh205.size
            refine s_run rfl ?_
            refine s_pure (.string s) (fun _ q => q) ?_
            refine s_run rfl ?_
            refine s_pure (.bool (!((tx (pkTx (⟨(rdOut x39.data.toList), (rdOut x41.data.toList), (rdOut x43.data.toList), (sgp x22.data.toList).1⟩ : PkP))).toList == s.toList))) (fun _ q => q) ?_
            refine s_pure (.bool (!((tx (pkTx (⟨(rdOut x39.data.toList), (rdOut x41.data.toList), (rdOut x43.data.toList), (sgp x22.data.toList).1⟩ : PkP))).toList == s.toList))) (fun _ q => q) ?_
            refine s_nil ?_
            refine p_seqN ?_
            refine v_cond rfl (fun c208 => ?_) (fun c208 => ?_)
            ·
              refine v_seq ?_
              refine v_ops ?_
              refine s_pure (.agg #[.int .i64 0, .int .i64 0, .int .i64 0, .slice none 0 0]) (fun _ q => w_build (seg_nil q)) ?_
              have f209 := ((((((((((bxb1.ext eh6).ext eh17).ext eh24).ext eh173).ext eh177).ext eh181).ext eh185).mod mh190 (by simp; omega)).ext eh195).ext eh205)
              refine s_stBx (.agg #[.int .i64 0, .int .i64 0, .int .i64 0, .slice none 0 0]) [.int .i64 0, .int .i64 0, .int .i64 0, .slice none 0 0] [.int .i64 0, .int .i64 0, .int .i64 0, .slice none 0 0] f209 rfl rfl rfl rfl (by simp) (all_cons rfl (all_cons rfl (all_cons rfl (all_cons rfl all_nil)))) rfl (fun h210 mh210 sh210 bxx211 => ?_)
              have E212 := E206.mod mh210 (fun b hb => by simp at hb; omega)
              refine s_pure (.bool false) (fun _ q => q) ?_
              refine s_nil ?_
              refine p_seqN ?_
              refine v_ret ?_
              refine p_seqR ?_
              refine p_ret [.agg #[.int .i64 0, .int .i64 0, .int .i64 0, .slice none 0 0], .bool false] (.tuple #[.agg #[.int .i64 0, .int .i64 0, .int .i64 0, .slice none 0 0], .bool false]) (fun _ q => (bxx211.loadA rfl q)) rfl ?_
              have ho : (ppOut s.data.toList) = (⟨0, 0, 0, []⟩, false) := by first | exact no1' (by assumption) | exact no2' (by assumption) (by assumption) (by assumption) | exact no3' (by assumption) (by assumption) (by assumption) | exact no4' (by assumption) (by assumption) (by assumption) (by assumption) (by assumption) (fun q => absurd q.1 (by assumption)) | exact no4' (by assumption) (by assumption) (by assumption) (by assumption) (by assumption) (fun q => teqN (by assumption) q.2) | exact pp_yes ⟨(by assumption), (teqY (by assumption)).symm⟩
              exact ⟨(.slice none 0 0), by first | (rw [ho]; done) | rfl, sl_eq (SlX.nil (α := Int) true _) (congrArg (fun o => o.1.signals) ho).symm, Fr.nil _, E212⟩
            ·
              have c208 := Classical.not_not.1 c208
              refine v_skip ?_
              refine p_seqN ?_
              refine v_seq ?_
              refine v_ops ?_
              have f213 := (f203.ext eh205)
              refine s_load (.agg #[.int .i64 (rdOut x39.data.toList), .int .i64 (rdOut x41.data.toList), .int .i64 (rdOut x43.data.toList), r23]) (fun _ q => f213.loadA rfl q) ?_
              have f214 := ((((((((((bxb1.ext eh6).ext eh17).ext eh24).ext eh173).ext eh177).ext eh181).ext eh185).mod mh190 (by simp; omega)).ext eh195).ext eh205)
              refine s_stBx (.agg #[.int .i64 (rdOut x39.data.toList), .int .i64 (rdOut x41.data.toList), .int .i64 (rdOut x43.data.toList), r23]) [.int .i64 (rdOut x39.data.toList), .int .i64 (rdOut x41.data.toList), .int .i64 (rdOut x43.data.toList), r23] [.int .i64 (rdOut x39.data.toList), .int .i64 (rdOut x41.data.toList), .int .i64 (rdOut x43.data.toList), r23] f214 rfl rfl rfl rfl (by simp) (all_cons rfl (all_cons rfl (all_cons rfl (all_cons f204.one1 all_nil)))) rfl (fun h215 mh215 sh215 bxx216 => ?_)
              have E217 := E206.mod mh215 (fun b hb => by simp at hb; omega)
              refine s_pure (.bool true) (fun _ q => q) ?_
              refine s_nil ?_
              refine p_seqN ?_
              refine v_ret ?_
              refine p_ret [.agg #[.int .i64 (rdOut x39.data.toList), .int .i64 (rdOut x41.data.toList), .int .i64 (rdOut x43.data.toList), r23], .bool true] (.tuple #[.agg #[.int .i64 (rdOut x39.data.toList), .int .i64 (rdOut x41.data.toList), .int .i64 (rdOut x43.data.toList), r23], .bool true]) (fun _ q => (bxx216.loadA rfl q)) rfl ?_
              have ho : (ppOut s.data.toList) = (⟨(rdOut x39.data.toList), (rdOut x41.data.toList), (rdOut x43.data.toList), (sgp x22.data.toList).1⟩, true) := by first | exact no1' (by assumption) | exact no2' (by assumption) (by assumption) (by assumption) | exact no3' (by assumption) (by assumption) (by assumption) | exact no4' (by assumption) (by assumption) (by assumption) (by assumption) (by assumption) (fun q => absurd q.1 (by assumption)) | exact no4' (by assumption) (by assumption) (by assumption) (by assumption) (by assumption) (fun q => teqN (by assumption) q.2) | exact pp_yes ⟨(by assumption), (teqY (by assumption)).symm⟩
              have f218 := ((f204.ext eh205).mod mh215 (fun b hb hc => by simp at hc; have := fr_r23 b hb; omega))
              exact ⟨r23, by first | (rw [ho]; done) | rfl, sl_eq f218 (congrArg (fun o => o.1.signals) ho).symm, fr_r23.mono (by omega), E217⟩

theorem spec_ParsePacket_ok (s : ByteArray) (h : Heap) (b_s : s.size ≤ maxLen) (hs : s.size ≤ 1048576) : Cn f_spec_ParsePacket [.string s] h fun v h' => ∃ r0 : Value, v = .tuple #[.agg #[.int .i64 (((ppOut s.data.toList).1).message), .int .i64 (((ppOut s.data.toList).1).part), .int .i64 (((ppOut s.data.toList).1).parts), r0], .bool ((ppOut s.data.toList).2)] ∧ SlO h' r0 (((ppOut s.data.toList).1).signals) ∧ Fr h.size r0 ∧ Ext h h' := by
  refine calls_of r_spec_ParsePacket ?_
  refine v_seq ?_
  refine v_ops ?_
  refine s_new (fun h2 b1 hbb1 hzb1 eh2 bxb1 => ?_)
  have E3 := (Ext.refl h).trans eh2
  have z4 := eh2.size
  have lbb1 := bxb1.lt
  refine s_pure (.bool false) (fun _ q => q) ?_
  refine s_nil ?_
  refine p_seqN ?_
  refine v_seq ?_
  refine v_ops ?_
  refine s_pure (.string s) (fun _ q => q) ?_
  refine s_call [.string s] rfl (spec_pkParse_ok s _ (by first | omega | exact b_s) hs) ?_
  rintro _ h6 ⟨r5, rfl, s_r5, fr_r5, eh6⟩
  have E7 := E3.trans eh6
  have z8 := eh6.size
  have lt_r5 := s_r5.lt
  refine s_pure (.agg #[.int .i64 (((ppOut s.data.toList).1).message), .int .i64 (((ppOut s.data.toList).1).part), .int .i64 (((ppOut s.data.toList).1).parts), r5]) (fun _ q => q) ?_
  refine s_pure (.bool ((ppOut s.data.toList).2)) (fun _ q => q) ?_
  have f9 := (bxb1.ext eh6)
  refine s_stBx (.agg #[.int .i64 (((ppOut s.data.toList).1).message), .int .i64 (((ppOut s.data.toList).1).part), .int .i64 (((ppOut s.data.toList).1).parts), r5]) [.int .i64 (((ppOut s.data.toList).1).message), .int .i64 (((ppOut s.data.toList).1).part), .int .i64 (((ppOut s.data.toList).1).parts), r5] [.int .i64 (((ppOut s.data.toList).1).message), .int .i64 (((ppOut s.data.toList).1).part), .int .i64 (((ppOut s.data.toList).1).parts), r5] f9 rfl rfl rfl rfl (by simp) (all_cons rfl (all_cons rfl (all_cons rfl (all_cons s_r5.one1 all_nil)))) rfl (fun h10 mh10 sh10 bxx11 => ?_)
  have E12 := E7.mod mh10 (fun b hb => by simp at hb; omega)
  refine s_pure (.bool ((ppOut s.data.toList).2)) (fun _ q => q) ?_
  refine s_nil ?_
  refine p_seqN ?_
  refine v_ret ?_
  refine p_ret [.agg #[.int .i64 (((ppOut s.data.toList).1).message), .int .i64 (((ppOut s.data.toList).1).part), .int .i64 (((ppOut s.data.toList).1).parts), r5], .bool ((ppOut s.data.toList).2)] (.tuple #[.agg #[.int .i64 (((ppOut s.data.toList).1).message), .int .i64 (((ppOut s.data.toList).1).part), .int .i64 (((ppOut s.data.toList).1).parts), r5], .bool ((ppOut s.data.toList).2)]) (fun _ q => (bxx11.loadA rfl q)) rfl ?_
  have ho : (ppOut s.data.toList) = (⟨((ppOut s.data.toList).1).message, ((ppOut s.data.toList).1).part, ((ppOut s.data.toList).1).parts, ((ppOut s.data.toList).1).signals⟩, (ppOut s.data.toList).2) := by rfl
  have f13 := (s_r5.mod mh10 (fun b hb hc => by simp at hc; have := fr_r5 b hb; omega))
  exact ⟨r5, by first | (rw [ho]; done) | rfl, sl_eq f13 (congrArg (fun o => o.1.signals) ho).symm, fr_r5.mono (by omega), E12⟩

end Go.Proofs.YtbikhpphdhffaaaGreatDoor
