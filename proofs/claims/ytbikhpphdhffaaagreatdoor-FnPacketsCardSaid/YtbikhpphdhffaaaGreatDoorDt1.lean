/- Texts of packets read back. Condition: none. Printed in part by a program. -/
import Derived.Test.YtbikhpphdhffaaaGreatDoorDpA
import Derived.Test.YtbikhpphdhffaaaGreatDoorDr1
import Derived.Test.YtbikhpphdhffaaaGreatDoorDeep2
namespace Go.Proofs.YtbikhpphdhffaaaGreatDoor
open Go.Vc
set_option linter.all false

theorem at_bd (l : List UInt8) : -9223372036854775808 ≤ atVal l ∧ atVal l ≤ 9223372036854775807 := by
  unfold atVal
  rcases h : Lib.atoiAll l with v | _ | _
  · have := Lib.atoiAll_bounds h; exact ⟨this.1, this.2⟩
  · simp
  · simp only [Lib.atoiSat]; split <;> omega
theorem cut_len (b : UInt8) (l : List UInt8) : (Lib.cut l [b]).1.length ≤ l.length ∧ (Lib.cut l [b]).2.1.length ≤ l.length := by
  unfold Lib.cut
  split
  · simp; omega
  · simp
theorem tx_self (s : ByteArray) : tx s.data.toList = s := by simp [tx]
theorem str_eq {a : List UInt8} {s : ByteArray} : ((tx a).toList == s.toList) = decide (a = s.data.toList) := by
  have e : ∀ x y : ByteArray, (x.toList == y.toList) = decide (x.data.toList = y.data.toList) := fun x y => by
    rw [ByteArray.toList_eq, ByteArray.toList_eq, Bool.eq_iff_iff]; simp
  rw [e, tx_list]

theorem impl_readNumber_ok (s : ByteArray) (h : Heap) (b_s : s.size ≤ maxLen) (g : Gl h) (hs : s.size ≤ 1048576) : Cn f_impl_readNumber [.string s] h fun v h' => v = .tuple #[.int .i64 ((rn s.data.toList).1), .bool ((rn s.data.toList).2)] ∧ Ext h h' := by
  refine calls_of r_impl_readNumber ?_
  refine v_seq ?_
  refine v_ops ?_
  refine s_pure (.int .i64 0) (fun _ q => q) ?_
  refine s_pure (.bool false) (fun _ q => q) ?_
  refine s_nil ?_
  refine p_seqN ?_
  refine v_seq ?_
  refine v_ops ?_
  refine s_pure (.string s) (fun _ q => q) ?_
  refine s_call [.string s] rfl (atoi_ok s _ (by omega) (g.ext (Ext.refl h))) ?_
  rintro _ h1 ⟨T2, q3, rfl, eh1⟩
  have E4 := (Ext.refl h).trans eh1
  have z5 := eh1.size
  have hav := at_bd s.data.toList
  refine s_pure (.tuple #[.int .i64 (atVal s.data.toList), (atErr s.data.toList T2 q3)]) (fun _ q => q) ?_
  refine s_pure (.int .i64 (atVal s.data.toList)) (fun _ q => q) ?_
  refine s_pure (atErr s.data.toList T2 q3) (fun _ q => q) ?_
  refine s_pure (.int .i64 (atVal s.data.toList)) (fun _ q => q) ?_
  refine s_pure (atErr s.data.toList T2 q3) (fun _ q => q) ?_
  refine s_nil ?_
  refine p_seqN ?_
  refine v_seq ?_
  refine v_seq ?_
  refine v_ops ?_
  refine s_pure (atErr s.data.toList T2 q3) (fun _ q => q) ?_
  refine s_pure (.bool (!(atOk s.data.toList))) (fun _ q => ifnil_at q) ?_
  refine s_pure (.bool (!(atOk s.data.toList))) (fun _ q => q) ?_
  refine s_splitT rfl (fun c6 => ?_) (fun c6 => ?_)
  ·
    refine s_pass rfl ?_
    refine s_pass rfl ?_
    refine s_pure (.bool true) (fun _ q => q) ?_
    refine s_pure (.bool true) (fun _ q => q) ?_
    refine s_splitY rfl rfl ?_
    refine s_pass rfl ?_
    refine s_pass rfl ?_
    refine s_pass rfl ?_
    refine s_pass rfl ?_
    refine s_pure (.bool true) (fun _ q => q) ?_
    refine s_nil ?_
    refine p_seqN ?_
    refine v_condY rfl rfl ?_
    refine v_seq ?_
    refine v_ops ?_
    refine s_pure (.int .i64 0) (fun _ q => q) ?_
    refine s_pure (.bool false) (fun _ q => q) ?_
    refine s_nil ?_
    refine p_seqN ?_
    refine v_ret ?_
    refine p_seqR ?_
    refine p_ret [.int .i64 0, .bool false] (.tuple #[.int .i64 0, .bool false]) (fun _ q => q) rfl ?_
    have ho : (rn s.data.toList) = (0, false) := by first | (rw [rn, if_neg (by rintro ⟨q1, q2, q3⟩; first | omega | (simp_all; done) | (rw [str_eq] at *; simp_all; done))]; done) | (rw [rn, if_pos ⟨by simp_all, by omega, by (rw [str_eq] at *; simp_all)⟩]; done)
    exact ⟨by first | (rw [ho]; done) | rfl, E4⟩
  ·
    have c6 := Classical.not_not.1 c6
    refine s_run rfl ?_
    refine s_pure (.int .i64 (atVal s.data.toList)) (fun _ q => q) ?_
    refine s_run rfl ?_
    refine s_pure (.bool (decide ((atVal s.data.toList) < 0))) (fun _ q => q) ?_
    refine s_pure (.bool (decide ((atVal s.data.toList) < 0))) (fun _ q => q) ?_
    refine s_pure (.bool (decide ((atVal s.data.toList) < 0))) (fun _ q => q) ?_
    refine s_splitT rfl (fun c7 => ?_) (fun c7 => ?_)
    ·
      refine s_pass rfl ?_
      refine s_pass rfl ?_
      refine s_pass rfl ?_
      refine s_pass rfl ?_
      refine s_pure (.bool true) (fun _ q => q) ?_
      refine s_nil ?_
      refine p_seqN ?_
      refine v_condY rfl rfl ?_
      refine v_seq ?_
      refine v_ops ?_
      refine s_pure (.int .i64 0) (fun _ q => q) ?_
      refine s_pure (.bool false) (fun _ q => q) ?_
      refine s_nil ?_
      refine p_seqN ?_
      refine v_ret ?_
      refine p_seqR ?_
      refine p_ret [.int .i64 0, .bool false] (.tuple #[.int .i64 0, .bool false]) (fun _ q => q) rfl ?_
      have ho : (rn s.data.toList) = (0, false) := by first | (rw [rn, if_neg (by rintro ⟨q1, q2, q3⟩; first | omega | (simp_all; done) | (rw [str_eq] at *; simp_all; done))]; done) | (rw [rn, if_pos ⟨by simp_all, by omega, by (rw [str_eq] at *; simp_all)⟩]; done)
      exact ⟨by first | (rw [ho]; done) | rfl, E4⟩
    ·
      refine s_run rfl ?_
      refine s_pure (.int .i64 (atVal s.data.toList)) (fun _ q => q) ?_
      refine s_run rfl ?_
      refine s_call [.int .i64 (atVal s.data.toList)] rfl (itoa_ok (atVal s.data.toList) _ (by omega) (by omega) (g.ext E4)) ?_
      rintro _ h8 ⟨rfl, eh8⟩
      have E9 := E4.trans eh8
      have z10 := eh8.size
      refine s_run rfl ?_
      refine s_pure (.string s) (fun _ q => q) ?_
      refine s_run rfl ?_
      refine s_pure (.bool (!((tx (dec (atVal s.data.toList))).toList == s.toList))) (fun _ q => q) ?_
      refine s_pure (.bool (!((tx (dec (atVal s.data.toList))).toList == s.toList))) (fun _ q => q) ?_
      refine s_nil ?_
      refine p_seqN ?_
      refine v_cond rfl (fun c11 => ?_) (fun c11 => ?_)
      ·
        refine v_seq ?_
        refine v_ops ?_
        refine s_pure (.int .i64 0) (fun _ q => q) ?_
        refine s_pure (.bool false) (fun _ q => q) ?_
        refine s_nil ?_
        refine p_seqN ?_
        refine v_ret ?_
        refine p_seqR ?_
        refine p_ret [.int .i64 0, .bool false] (.tuple #[.int .i64 0, .bool false]) (fun _ q => q) rfl ?_
        have ho : (rn s.data.toList) = (0, false) := by first | (rw [rn, if_neg (by rintro ⟨q1, q2, q3⟩; first | omega | (simp_all; done) | (rw [str_eq] at *; simp_all; done))]; done) | (rw [rn, if_pos ⟨by simp_all, by omega, by (rw [str_eq] at *; simp_all)⟩]; done)
        exact ⟨by first | (rw [ho]; done) | rfl, E9⟩
      ·
        have c11 := Classical.not_not.1 c11
        refine v_skip ?_
        refine p_seqN ?_
        refine v_seq ?_
        refine v_ops ?_
        refine s_pure (.int .i64 (atVal s.data.toList)) (fun _ q => q) ?_
        refine s_pure (.int .i64 (atVal s.data.toList)) (fun _ q => q) ?_
        refine s_pure (.bool true) (fun _ q => q) ?_
        refine s_nil ?_
        refine p_seqN ?_
        refine v_ret ?_
        refine p_ret [.int .i64 (atVal s.data.toList), .bool true] (.tuple #[.int .i64 (atVal s.data.toList), .bool true]) (fun _ q => q) rfl ?_
        have ho : (rn s.data.toList) = ((atVal s.data.toList), true) := by first | (rw [rn, if_neg (by rintro ⟨q1, q2, q3⟩; first | omega | (simp_all; done) | (rw [str_eq] at *; simp_all; done))]; done) | (rw [rn, if_pos ⟨by simp_all, by omega, by (rw [str_eq] at *; simp_all)⟩]; done)
        exact ⟨by first | (rw [ho]; done) | rfl, E9⟩


theorem sn_nil : sn [] = ([], true) := by simp [sn]
theorem sn_bad {ws : List (List UInt8)} {k : Nat} {w : List UInt8} (hw : ws[k]? = some w) (h : ¬ (rn w).2 = true) : sn ws = ([], false) := by
  rw [sn, if_neg (fun q => h (q w (List.mem_of_getElem? hw)))]
theorem sn_all {ws : List (List UInt8)} {k : Nat} {o : List Int} (ho : o = (ws.take k).map fun w => (rn w).1) (h : ∀ w ∈ ws.take k, (rn w).2 = true) (hk : ws.length ≤ k) : sn ws = (o, true) := by
  rw [List.take_of_length_le hk] at ho h
  rw [sn, if_pos h, ho]
theorem tk_snoc {ws : List (List UInt8)} {k : Nat} {x : List UInt8} {o : List Int} (ho : o = (ws.take k).map fun w => (rn w).1) (h : ∀ w ∈ ws.take k, (rn w).2 = true) (hx : ws[k]? = some x) (hr : (rn x).2 = true) :
    o ++ [(rn x).1] = (ws.take (k + 1)).map (fun w => (rn w).1) ∧ ∀ w ∈ ws.take (k + 1), (rn w).2 = true := by
  rw [snoc_get hx, List.map_append, ← ho]
  refine ⟨rfl, fun w hw => ?_⟩
  rcases List.mem_append.1 hw with hw | hw
  · exact h w hw
  · obtain rfl := List.mem_singleton.1 hw; exact hr
theorem map_tx_at {ws : List (List UInt8)} {k : Nat} {x : ByteArray} (h : (ws.map tx)[k]? = some x) : ws[k]? = some x.data.toList := by
  rw [List.getElem?_map] at h
  cases hw : ws[k]? with
  | none => rw [hw] at h; cases h
  | some w => rw [hw] at h; rw [← Option.some.inj h, tx_list]
theorem splitOn_len (b : UInt8) (l : List UInt8) : (splitOn b l).length ≤ l.length + 1 ∧ ∀ w ∈ splitOn b l, w.length ≤ l.length := by
  induction l with
  | nil => simp [splitOn]
  | cons c l ih =>
    obtain ⟨h1, h2⟩ := ih
    rw [splitOn]
    split
    · refine ⟨by simp only [List.length_cons]; omega, fun w hw => ?_⟩
      rcases List.mem_cons.1 hw with e | e
      · subst e; simp
      · have := h2 w e; simp only [List.length_cons]; omega
    · cases hs : splitOn b l with
      | nil => simp
      | cons w r =>
        rw [hs] at h1 h2
        simp only
        refine ⟨by simp only [List.length_cons] at *; omega, fun x hx => ?_⟩
        rcases List.mem_cons.1 hx with e | e
        · subst e; have := h2 w (List.mem_cons_self ..); simp only [List.length_cons]; omega
        · have := h2 x (List.mem_cons_of_mem _ e); simp only [List.length_cons]; omega

theorem impl_splitNumbers_ok (s : ByteArray) (by_ : ByteArray) (h : Heap) (b_s : s.size ≤ maxLen) (b_by_ : by_.size ≤ maxLen) (g : Gl h) (hs : s.size ≤ 1048576) (b : UInt8) (hby : by_ = tx [b]) : Cn f_impl_splitNumbers [.string s, .string by_] h fun v h' => ∃ r0 : Value, v = .tuple #[r0, .bool ((sn (splitOn b s.data.toList)).2)] ∧ SlO h' r0 ((sn (splitOn b s.data.toList)).1) ∧ Fr h.size r0 ∧ Ext h h' := by
  have hsl := splitOn_len b s.data.toList
  rw [bsize] at hsl
  refine calls_of r_impl_splitNumbers ?_
  refine v_seq ?_
  refine v_ops ?_
  refine s_pure (.slice none 0 0) (fun _ q => q) ?_
  refine s_pure (.bool false) (fun _ q => q) ?_
  refine s_nil ?_
  refine p_seqN ?_
  refine v_seq ?_
  refine v_ops ?_
  refine s_pure (.slice none 0 0) (fun _ q => q) ?_
  refine s_nil ?_
  refine p_seqN ?_
  refine v_seq ?_
  refine v_seq ?_
  refine v_ops ?_
  refine s_pure (.string s) (fun _ q => q) ?_
  refine s_pure (.string by_) (fun _ q => q) ?_
  refine s_call [.string s, .string by_] rfl (split_ok s by_ _ (by omega) (by rw [hby]; rfl) (g.ext (Ext.refl h))) ?_
  rintro r2 h1 ⟨s_r2, fr_r2, eh1⟩
  rw [hby, splitB_on] at s_r2
  have E3 := (Ext.refl h).trans eh1
  have z4 := eh1.size
  have lt_r2 := s_r2.lt
  refine s_pure (.int .i64 (((splitOn b s.data.toList).map tx).length : Int)) (fun _ q => s_r2.lenVC q) ?_
  refine s_pure (.int .i64 0) (fun _ q => q) ?_
  refine s_nil ?_
  refine p_seqN ?_
  refine v_block ?_
  refine v_loop3 (α := Nat) (β := List Int) (γ := Value) (fun k o w => [(6, w), (13, r2), (14, .int .i64 (((splitOn b s.data.toList).map tx).length : Int)), (15, .int .i64 (k : Int))]) (fun k o w hh => Ext h hh ∧ SlO hh w o ∧ Fr h.size w ∧ SlO hh r2 ((splitOn b s.data.toList).map tx) ∧ (∀ b ∈ blks r2, b ∉ blks w) ∧ k ≤ (splitOn b s.data.toList).length ∧ o.length = k ∧ (o = ((splitOn b s.data.toList).take k).map (fun w => (rn w).1)) ∧ (∀ w ∈ (splitOn b s.data.toList).take k, (rn w).2 = true)) (fun k o w => ((splitOn b s.data.toList).map tx).length - k) 0 [] (.slice none 0 0) ⟨rfl, rfl, rfl, rfl⟩ ⟨E3, (sl_eq (SlX.nil (α := Int) true h1) (by simp)), (Fr.nil _), s_r2, (fun b hb hc => by simp [blks, fpts] at hc), (by exact ⟨by omega, rfl, rfl, by simp⟩)⟩ ?_
  rintro k o w R6 h5 ⟨Eh, s_w, fr_w, s_r2, np_r2_w, ⟨hk, hol, ho, hall⟩⟩
  have zEh := Eh.size
  have ltk_r2 := s_r2.lt
  have lt_w := s_w.lt
  have hlm : ((splitOn b s.data.toList).map tx).length = (splitOn b s.data.toList).length := List.length_map ..
  refine v_seq ?_
  refine v_ops ?_
  refine s_pure (.bool (decide ((k : Int) < (((splitOn b s.data.toList).map tx).length : Int)))) (fun _ q => q) ?_
  refine s_nil ?_
  refine p_seqN ?_
  refine v_seq ?_
  refine v_cond rfl (fun c8 => ?_) (fun c8 => ?_)
  ·
    refine v_skip ?_
    refine p_seqN ?_
    refine v_seq ?_
    refine v_block ?_
    refine v_seq ?_
    refine v_ops ?_
    have hk9 : k < ((splitOn b s.data.toList).map tx).length := (by first | omega | (simp; omega))
    obtain ⟨x10, hx10⟩ : ∃ x, ((splitOn b s.data.toList).map tx)[k]? = some x := ⟨_, List.getElem?_eq_getElem hk9⟩
    refine s_pure (.pointer (some ⟨sblk r2, soff r2 + k * 1, none⟩)) (fun _ q => s_r2.idx (k := k) rfl hk9 q) ?_
    refine s_load (.string x10) (fun _ q => s_r2.load1 hx10 rfl q) ?_
    refine s_pure (.string x10) (fun _ q => q) ?_
    refine s_nil ?_
    refine p_seqN ?_
    refine v_seq ?_
    refine v_ops ?_
    refine s_pure (.string x10) (fun _ q => q) ?_
    refine s_call [.string x10] rfl (impl_readNumber_ok x10 _ (by first | omega | (simp [maxLen]; omega) | decide | exact Nat.le_trans (by have q_ := hsl.2 _ (List.mem_of_getElem? (map_tx_at (by assumption))); rw [bsize] at q_; exact q_) (Nat.le_trans hs (by decide))) (g.ext Eh) (by have q_ := hsl.2 _ (List.mem_of_getElem? (map_tx_at (by assumption))); rw [bsize] at q_; omega)) ?_
    rintro _ h11 ⟨rfl, eh11⟩
    have E12 := Eh.trans eh11
    have z13 := eh11.size
    refine s_pure (.tuple #[.int .i64 ((rn x10.data.toList).1), .bool ((rn x10.data.toList).2)]) (fun _ q => q) ?_
    refine s_pure (.int .i64 ((rn x10.data.toList).1)) (fun _ q => q) ?_
    refine s_pure (.bool ((rn x10.data.toList).2)) (fun _ q => q) ?_
    refine s_pure (.int .i64 ((rn x10.data.toList).1)) (fun _ q => q) ?_
    refine s_pure (.bool ((rn x10.data.toList).2)) (fun _ q => q) ?_
    refine s_nil ?_
    refine p_seqN ?_
    refine v_seq ?_
    refine v_seq ?_
    refine v_ops ?_
    refine s_pure (.bool ((rn x10.data.toList).2)) (fun _ q => q) ?_
    refine s_pure (.bool (!(rn x10.data.toList).2)) (fun _ q => q) ?_
    refine s_nil ?_
    refine p_seqN ?_
    refine v_cond rfl (fun c14 => ?_) (fun c14 => ?_)
    ·
      refine v_seq ?_
      refine v_ops ?_
      refine s_pure (.slice none 0 0) (fun _ q => q) ?_
      refine s_pure (.bool false) (fun _ q => q) ?_
      refine s_nil ?_
      refine p_seqN ?_
      refine v_ret ?_
      refine p_seqR ?_
      refine p_blkR ?_
      refine p_seqR ?_
      refine p_lpR ?_
      refine p_blkR ?_
      refine p_seqR ?_
      refine p_ret [.slice none 0 0, .bool false] (.tuple #[.slice none 0 0, .bool false]) (fun _ q => q) rfl ?_
      have ho : (sn (splitOn b s.data.toList)) = ([], false) := by first | exact sn_bad (map_tx_at (by assumption)) (by assumption) | exact sn_all ho hall (by omega)
      exact ⟨(.slice none 0 0), by first | (rw [ho]; done) | rfl, sl_eq (SlX.nil (α := Int) true _) (congrArg (fun o => o.1) ho).symm, Fr.nil _, E12⟩
    ·
      have c14 := Classical.not_not.1 c14
      refine v_skip ?_
      refine p_seqN ?_
      refine v_ops ?_
      refine s_pure w (fun _ q => q) ?_
      refine s_pure (.int .i64 ((rn x10.data.toList).1)) (fun _ q => q) ?_
      refine s_row (α := Int) [(rn x10.data.toList).1] (fun _ q => seg_i rfl (seg_nil q)) rfl (by simp [maxLen]) (fun r15 h16 eh16 zh16 s_r15 fr_r15 => ?_)
      have E17 := E12.trans eh16
      have z18 := eh16.size
      have lt_r15 := s_r15.lt
      have f19 := ((s_w.ext eh11).ext eh16)
      refine s_app f19 s_r15 rfl rfl rfl (by simp [maxLen]; omega) (by simp; omega) (fun r20 h21 mh21 zh21 s_r20 ab_r20 => ?_)
      have E22 := E17.mod mh21 (fun b hb => by have := fr_w b hb; omega)
      have fr_r20 := fr_w.app ab_r20 (by omega)
      have np23 : ∀ b ∈ blks r2, b ∉ blks r20 := fun b hb hc => (ab_r20 _ hc).elim ((np_r2_w : ∀ b ∈ blks r2, b ∉ blks w) b hb) (fun hc => by have := ltk_r2 b hb; omega)
      have np24 : ∀ b ∈ blks r2, b ∉ blks r20 := fun b hb hc => (ab_r20 _ hc).elim ((np_r2_w : ∀ b ∈ blks r2, b ∉ blks w) b hb) (fun hc => by have := ltk_r2 b hb; omega)
      have np25 : ∀ b ∈ blks r15, b ∉ blks r20 := fun b hb hc => (ab_r20 _ hc).elim (((fun b hb hc => by have := fr_r15 b hb; have := lt_w b hc; omega) : ∀ b ∈ blks r15, b ∉ blks w) b hb) (fun hc => by have := lt_r15 b hb; omega)
      have lt_r20 := s_r20.lt
      refine s_pure r20 (fun _ q => q) ?_
      refine s_nil ?_
      refine p_blkN ?_
      refine p_seqN ?_
      refine v_ops ?_
      refine s_pure (.int .i64 ((k : Int) + 1)) (fun _ q => ArithVC.mk (by omega) q) ?_
      refine s_pure (.int .i64 ((k : Int) + 1)) (fun _ q => q) ?_
      refine s_nil ?_
      have f26 := (((s_r2.ext eh11).ext eh16).mod mh21 np_r2_w)
      exact p_lpN ⟨k + 1, (o ++ [(rn x10.data.toList).1]), r20, ⟨rfl, rfl, rfl, rfl⟩, ⟨E22, (sl_eq s_r20 (by simp)), (fr_r20.mono (by omega)), f26, np24, (by (have q_ := tk_snoc ho hall (map_tx_at (by assumption)) (by assumption)); exact ⟨by omega, by simp [hol], q_.1, q_.2⟩)⟩, by omega⟩
  ·
    refine v_exit ?_
    refine p_seqX ?_
    refine p_lpX ?_
    refine p_blkX ?_
    refine p_seqN ?_
    refine v_seq ?_
    refine v_ops ?_
    refine s_pure w (fun _ q => q) ?_
    refine s_pure w (fun _ q => q) ?_
    refine s_pure (.bool true) (fun _ q => q) ?_
    refine s_nil ?_
    refine p_seqN ?_
    refine v_ret ?_
    refine p_ret [w, .bool true] (.tuple #[w, .bool true]) (fun _ q => q) rfl ?_
    have ho : (sn (splitOn b s.data.toList)) = (o, true) := by first | exact sn_bad (map_tx_at (by assumption)) (by assumption) | exact sn_all ho hall (by omega)
    exact ⟨w, by first | (rw [ho]; done) | rfl, sl_eq s_w (congrArg (fun o => o.1) ho).symm, fr_w.mono (by omega), Eh⟩

end Go.Proofs.YtbikhpphdhffaaaGreatDoor
