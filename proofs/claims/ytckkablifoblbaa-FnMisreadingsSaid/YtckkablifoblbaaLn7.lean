/- Lines: the whole run, impl. Condition: none. -/
import Derived.Test.YtckkablifoblbaaLn6
namespace Go.Proofs.Ytckkablifoblbaa
open Go.Vc
set_option linter.all false

abbrev pBox (h : Heap) (X : Nat) (g : Nat) (H : Value) (i t : Int) : Prop := Bx h X [H, .int .i64 (g : Int), .int .i64 i, .int .i64 t] 75

theorem lookFn_ok (X S : Nat) (scv H : Value) (sc : List Int) (n i t : Int) (g : Nat) (h : Heap) (hb : pBox h X g H i t) (hS : Bx h S [scv] 31) (hs : Sl h scv sc) (hn : 0 ≤ n ∧ n ≤ 63) (hg : g ≤ 1000000) :
    Cn f_impl_passLine_1 [.int .i64 n, ptr X, ptr S] h fun r h' => r = .int .i64 (look sc n g) ∧ pBox h' X (g + 1) H i t ∧ Mod [X] h h' ∧ h'.size = h.size := by
  refine calls_of r_impl_passLine_1 ?_
  refine hb.load rfl (hS.load rfl ?_)
  refine hs.lenVC ?_
  refine CondVC.mk (fun c => ?_) (fun c => ?_)
  · have hg' : g < sc.length := by omega
    refine hS.load rfl (hb.load rfl ?_)
    refine hs.idx rfl hg' ?_
    refine hs.load1 (x := sc[g]) (by simp [hg']) rfl ?_
    refine BitsVC.mk ?_
    refine hb.load rfl ?_
    refine ArithVC.mk (by omega) ?_
    refine hb.store (us := [.int .i64 ((g : Int) + 1)]) rfl rfl (by simp) (by simp [Value.oneCell']) (fun h2 m2 s2 hb2 => ?_)
    exact ⟨congrArg (Value.int .i64) (look_near hg').symm, by unfold pBox; rw [cast1]; exact hb2, m2, s2⟩
  · have hg' : ¬ g < sc.length := by omega
    refine hb.load rfl ?_
    refine ArithVC.mk (by omega) ?_
    refine hb.store (us := [.int .i64 ((g : Int) + 1)]) rfl rfl (by simp) (by simp [Value.oneCell']) (fun h2 m2 s2 hb2 => ?_)
    exact ⟨congrArg (Value.int .i64) (look_far hn hg').symm, by unfold pBox; rw [cast1]; exact hb2, m2, s2⟩

def Run.stuck (x : Run) : Int := match x.2.2 with
  | none => -1
  | some p => p.1

set_option maxHeartbeats 1000000 in
theorem passLine_ok (t r : Int) (sgv scv : Value) (sg sc : List Int) (h : Heap) (ht : 2 ≤ t ∧ t ≤ 10) (hr : 1 ≤ r ∧ r ≤ 5) (hg : Sl h sgv sg) (hs : Sl h scv sc) (hgl : sg.length ≤ 20) (hgi : AllIn 0 63 sg) (hsc : AllIn 0 63 sc) :
    Cn f_impl_passLine [lineV t r, sgv, scv] h fun v h' => ∃ H svs, v = .agg #[H, .int .i64 ((runOf t r sg sc).2.1 : Int), .int .i64 (runOf t r sg sc).stuck, .int .i64 (runOf t r sg sc).tow] ∧ Held h' H svs (runOf t r sg sc).1 h.size [] ∧ Ext h h' := by
  generalize hR : runOf t r sg sc = R
  refine calls_of r_impl_passLine ?_
  refine AllocVC.mk [.int .i64 t, .int .i64 r] rfl (fun h1 b3 hb3 hsz1 he1 hbx => ?_)
  refine AllocVC.mk [scv] (by obtain ⟨a, c, rfl⟩ := hs.shape; rfl) (fun h1a S hS hsz1a he1a hbS => ?_)
  refine AllocVC.mk [.slice none 0 0, .int .i64 0, .int .i64 0, .int .i64 0] rfl (fun h1b R6 hR6 hsz1b he1b hbR6 => ?_)
  have hbx := (hbx.ext he1a).ext he1b
  have hbS := hbS.ext he1b
  refine hbx.load rfl ?_
  refine SlX.makeI (n := t.toNat) SV.nil (by omega) rfl rfl (by simp [maxLen]; omega) (by omega) (fun H h2 he2 hsz2 hH hfrH => ?_)
  have hlo1 : h.size ≤ h1b.size := by omega
  have hlo2 := he2.size
  obtain ⟨Ha, Hc, eH⟩ := hH.shape
  subst eH
  refine And.intro rfl (And.intro rfl ?_)
  refine AllocVC.mk [.slice none 0 0, .int .i64 0, .int .i64 0, .int .i64 0] rfl (fun h3 X hX hsz3 he3 hbX => ?_)
  refine hbX.store (us := [.slice Ha (List.replicate t.toNat SV.nil).length Hc, .int .i64 0, .int .i64 (-1), .int .i64 0]) rfl rfl (by simp) (by simp [Value.oneCell']) (fun h3' m3' s3' hbX => ?_)
  generalize eH : Value.slice Ha (List.replicate t.toNat SV.nil).length Hc = H at *
  have hlo3 := he3.size
  have e0b : Ext h h1b := (he1.trans he1a).trans he1b
  have e13 : Ext h1b h3' := (he2.trans he3).mod m3' (by simp; omega)
  have hh3 : Held h3' H (List.replicate t.toNat SV.nil) (List.replicate t.toNat ([] : List Int)) h1b.size [X] := (((Held.made (av := []) hH hfrH (by simp)).setAv (by simp; omega)).ext he3).modAv m3' (by simp)
  have hbX : pBox h3' X 0 H (-1) 0 := hbX
  refine (hg.ext (e0b.trans e13)).lenVC ?_
  have hX1 : h1b.size ≤ X := by omega
  have fin : ∀ (hf hf2 : Heap) (svs : List SV) (g : Nat) (LL : List (List Int)) (i u : Int), Ext h1b hf → pBox hf X g H i u → Held hf H svs LL h1b.size [X] → Mod [R6] hf hf2 →
      Held hf2 H svs LL h.size [] ∧ Ext h hf2 := by
    intro hf hf2 svs g LL i u hef hbf hhf hmf
    have hz := hef.size
    have h2 := hhf.modLo hmf (by simp; omega)
    refine ⟨⟨h2.row, h2.len, h2.get, fun s hs => (h2.fr s hs).mono hlo1, fun s hs b hb => ⟨(h2.off s hs b hb).1, by simp⟩, h2.apart, h2.frH.mono hlo1, by simp⟩, (e0b.trans hef).mod hmf (by simp; omega)⟩
  refine LoopVC.mk (α := Nat × List (List Int) × Nat × List SV) (fun s => [(3, ptr b3), (6, ptr R6), (7, ptr X), (8, .func (.func f_impl_passLine_1) #[] #[ptr X, ptr S]), (19, sgv), (20, .int .i64 (sg.length : Int)), (21, .int .i64 (s.1 : Int))])
    (fun s h4 => s.1 ≤ sg.length ∧ pBox h4 X s.2.2.1 H (-1) 0 ∧ Held h4 H s.2.2.2 s.2.1 h1b.size [X] ∧ Ext h1b h4 ∧ X < h4.size ∧ runF sc r.toNat (t.toNat - 1) (sg.drop s.1) s.1 s.2.1 s.2.2.1 = R ∧ s.2.1.length = t.toNat ∧ (∀ j, (s.2.1.getD j []).length ≤ 11 * s.1) ∧ s.2.2.1 ≤ 100 * s.1)
    (fun s => sg.length - s.1) (0, List.replicate t.toNat [], 0, List.replicate t.toNat SV.nil) ⟨rfl, rfl, rfl, rfl, rfl, rfl, rfl⟩ ⟨by omega, hbX, hh3, e13, by omega, hR, by simp, fun j => getD_rep _ _, by simp⟩ ?_
  rintro ⟨k, LL, g, svs⟩ Rg h4 ⟨hk, hbX4, hh4, e14, hX4, hR4, hLL, hrows, hgl⟩
  simp only at hk hbX4 hh4 hR4 hLL hrows hgl
  have e04 := e0b.trans e14
  refine CondVC.mk (fun c => ?_) (fun c => ?_)
  · have hk' : k < sg.length := by omega
    refine (hg.ext e04).idx rfl hk' ?_
    refine (hg.ext e04).load1 (x := sg[k]) (by simp [hk']) rfl ?_
    have h0 : 0 < LL.length := by omega
    obtain ⟨s0, hs0, ho0, hf0, hd0⟩ := hh4.one h0
    have hl0 := hrows 0
    rw [List.getD_eq_getElem?_getD, List.getElem?_eq_getElem h0, Option.getD_some] at hl0
    have hsv0 : 0 < svs.length := by rw [hh4.len]; exact h0
    refine DrawVC.hold (X :: blks H) ?_
    refine hbX4.take (by simp) rfl (hbX4.take (by simp) rfl ?_)
    refine hh4.row.idx (k := 0) rfl hsv0 ?_
    refine hh4.row.take1 (fun b hb => List.mem_cons_of_mem _ hb) hs0 rfl ?_
    refine And.intro rfl ?_
    refine SlX.row [sg[k]] rfl rfl (by simp [maxLen]) (fun rw5 h5 he5 hsz5 hr5 hfr5 => ?_)
    refine And.intro (fun b hb => ?_) ?_
    · rcases List.mem_cons.1 hb with rfl | hb
      · exact he5.blk _ hX4
      · exact he5.blk _ (hh4.row.lt b hb)
    refine (ho0.ext he5).append hr5 rfl (by simp [maxLen]; omega) (by simp; omega) (fun v6 h6 hm6 hv6 hb6 => ?_)
    have hrow6 : SlO h6 H svs := (hh4.row.ext he5).mod hm6 (fun b hb hc => (hd0 b hc).1 hb)
    have hX6 : h6[X]? = h4[X]? := (hm6.blk X (by have := he5.size; omega) (fun hc => (hd0 X hc).2 (by simp))).trans (he5.blk X hX4)
    refine And.intro (fun b hb => ?_) ?_
    · rcases List.mem_cons.1 hb with rfl | hb
      · exact hX6
      · exact (hm6.blk b (by have := hh4.row.lt b hb; have := he5.size; omega) (fun hc => (hd0 b hc).1 hb)).trans (he5.blk _ (hh4.row.lt b hb))
    refine hrow6.idx (k := 0) rfl hsv0 ?_
    obtain ⟨s6, rfl⟩ := hv6.sv
    refine hrow6.store1 (x' := s6) hsv0 rfl rfl (fun h7 hm7 hsz7 hr7 => ?_)
    have hh7 := hh4.step hs0 (List.getElem?_eq_getElem h0) he5 hm6 hv6 hb6 hm7 hr7 (by omega) (by simp; omega)
    rw [← put_eq h0] at hh7
    have hbX7 : pBox h7 X g H (-1) 0 := ((hm7.blk X (by have := hm6.size; have := he5.size; omega) (fun hc => hh4.avH X hc (by simp))).trans hX6).trans hbX4
    have e17 : Ext h1b h7 := ((e14.trans he5).mod hm6 hf0).mod hm7 hh4.frH
    have hX7 : X < h7.size := by have := he5.size; have := hm6.size; have := hm7.size; omega
    rw [List.drop_eq_getElem_cons hk'] at hR4
    generalize hA : alongF sc r.toNat (t.toNat - 1) 0 sg[k] (put LL 0 sg[k]) g = A at *
    have hn0 := hgi sg[k] (List.getElem_mem hk')
    have hrows7 := put_len (i := 0) (n := sg[k]) hrows
    refine (hbx.ext e17).load rfl ?_
    refine ArithVC.mk (by omega) ?_
    refine LoopVC.mk (α := Nat × Int × List (List Int) × Nat × List SV) (fun s => [(3, ptr b3), (6, ptr R6), (7, ptr X), (8, .func (.func f_impl_passLine_1) #[] #[ptr X, ptr S]), (9, .int .i64 (k : Int)), (10, .int .i64 s.2.1), (19, sgv), (20, .int .i64 (sg.length : Int)), (21, .int .i64 (k : Int)), (38, .int .i64 (t - 1)), (39, .int .i64 (s.1 : Int))])
      (fun s h8 => s.1 ≤ t.toNat - 1 ∧ pBox h8 X s.2.2.2.1 H (-1) 0 ∧ Held h8 H s.2.2.2.2 s.2.2.1 h1b.size [X] ∧ Ext h1b h8 ∧ X < h8.size ∧ alongF sc r.toNat (t.toNat - 1 - s.1) s.1 s.2.1 s.2.2.1 s.2.2.2.1 = A ∧ s.2.2.1.length = t.toNat ∧ (∀ j, (s.2.2.1.getD j []).length ≤ 11 * k + 1 + s.1) ∧ s.2.2.2.1 ≤ 100 * k + 10 * s.1 ∧ 0 ≤ s.2.1 ∧ s.2.1 ≤ 63)
      (fun s => t.toNat - 1 - s.1) (0, sg[k], put LL 0 sg[k], g, svs.set 0 s6) ⟨rfl, rfl, rfl, rfl, rfl, rfl, rfl, rfl, rfl, rfl, rfl⟩ ⟨by simp, hbX7, hh7, e17, hX7, hA, by rw [put_length]; exact hLL, fun j => by have := hrows7 j; simp only; split at this <;> omega, by simpa using hgl, hn0.1, hn0.2⟩ ?_
    rintro ⟨j, n, LL', g', svs'⟩ Ri h8 ⟨hj, hbX8, hh8, e18, hX8, hA8, hLL8, hrows8, hgl8, hnlo, hnhi⟩
    simp only at hj hbX8 hh8 hA8 hLL8 hrows8 hgl8 hnlo hnhi
    have e08 := e0b.trans e18
    refine CondVC.mk (fun c2 => ?_) (fun c2 => ?_)
    · simp only at c2
      have hj' : j + 1 < t.toNat := by omega
      refine (hbx.ext e18).load rfl ?_
      cases hH8 : hopF sc r.toNat n g' with
      | mk o g'' =>
      have hle := hopF_le _ _ hH8
      have hXs : X ∉ blks scv := fun hc => by have := hs.lt X hc; omega
      have hsplit : t.toNat - 1 - j = (t.toNat - 1 - (j + 1)) + 1 := by omega
      rw [hsplit] at hA8
      refine LoopVC.mk (α := Nat × Nat) (fun s => [(3, ptr b3), (6, ptr R6), (7, ptr X), (8, .func (.func f_impl_passLine_1) #[] #[ptr X, ptr S]), (9, .int .i64 (k : Int)), (10, .int .i64 n), (11, .int .i64 (j : Int)), (12, .bool false), (19, sgv), (20, .int .i64 (sg.length : Int)), (21, .int .i64 (k : Int)), (38, .int .i64 (t - 1)), (39, .int .i64 (j : Int)), (43, .int .i64 r), (44, .int .i64 (s.1 : Int))])
        (fun s h9 => s.1 ≤ r.toNat ∧ pBox h9 X s.2 H (-1) 0 ∧ Mod [X] h8 h9 ∧ h9.size = h8.size ∧ hopF sc (r.toNat - s.1) n s.2 = (o, g'') ∧ s.2 ≤ g' + 2 * s.1)
        (fun s => r.toNat - s.1) (0, g') ⟨rfl, rfl, rfl, rfl, rfl, rfl, rfl, rfl, rfl, rfl, rfl, rfl, rfl, rfl, rfl⟩ ⟨by omega, hbX8, Mod.refl _ _, rfl, hH8, by simp⟩ ?_
      rintro ⟨q, gq⟩ Rq h9 ⟨hq, hbXq, hm9, hsz9, hHq, hgq⟩
      simp only at hq hbXq hHq hgq
      have hh9 := hh8.modAv hm9 (by simp)
      have e19 : Ext h1b h9 := e18.mod hm9 (by simp; omega)
      have hX9 : X < h9.size := by omega
      have e09 := e0b.trans e19
      refine CondVC.mk (fun c3 => ?_) (fun c3 => ?_)
      · simp only at c3
        have hq' : r.toNat - q = (r.toNat - (q + 1)) + 1 := by omega
        rw [hq'] at hHq
        refine (lookFn_ok X S scv H sc n (-1) 0 gq h9 hbXq (hbS.ext e19) (hs.ext e09) ⟨hnlo, hnhi⟩ (by omega)).mono ?_
        rintro _ h10 ⟨rfl, hbX10, hm10, hsz10⟩
        have e110 : Ext h1b h10 := e19.mod hm10 (by simp; omega)
        refine (lookFn_ok X S scv H sc _ (-1) 0 (gq + 1) h10 hbX10 (hbS.ext e110) (hs.ext (e0b.trans e110)) (look_in hsc ⟨hnlo, hnhi⟩ gq) (by omega)).mono ?_
        rintro _ h11 ⟨rfl, hbX11, hm11, hsz11⟩
        have e111 : Ext h1b h11 := e110.mod hm11 (by simp; omega)
        refine CondVC.mk (fun c4 => ?_) (fun c4 => ?_)
        · rw [hopF_yes c4] at hHq
          obtain ⟨rfl, rfl⟩ := Prod.mk.inj hHq
          refine CondVC.f ?_
          have hh9 := ((hh9.modAv hm10 (by simp)).modAv hm11 (by simp))
          have hX9 : X < h11.size := by omega
          have hbX9 := hbX11
          have e19 := e111
          have hs9 := look_in hsc ⟨hnlo, hnhi⟩ gq
          generalize look sc n gq = s9 at *
          have hgf : gq + 2 ≤ g' + 2 * r.toNat := hle
          generalize hg'' : gq + 2 = g'' at *
          rw [alongF_on hH8] at hA8
          have hi9 : j + 1 < LL'.length := by omega
          obtain ⟨s0', hs0', ho0', hf0', hd0'⟩ := hh9.one hi9
          have hl0' := hrows8 (j + 1)
          rw [List.getD_eq_getElem?_getD, List.getElem?_eq_getElem hi9, Option.getD_some] at hl0'
          have hsv9 : j + 1 < svs'.length := by rw [hh9.len]; exact hi9
          have hj63 : -9223372036854775808 ≤ (j : Int) + 1 ∧ (j : Int) + 1 ≤ 9223372036854775807 := by omega
          refine DrawVC.hold (X :: blks H) ?_
          refine ArithVC.mk hj63 (ArithVC.mk hj63 ?_)
          refine hbX9.take (by simp) rfl (hbX9.take (by simp) rfl ?_)
          refine hh9.row.idx (k := j + 1) (by omega) hsv9 ?_
          refine hh9.row.take1 (fun b hb => List.mem_cons_of_mem _ hb) hs0' rfl ?_
          refine And.intro rfl ?_
          refine SlX.row [s9] rfl rfl (by simp [maxLen]) (fun rw10 h20 he10 hsz10 hr10 hfr10 => ?_)
          refine And.intro (fun b hb => ?_) ?_
          · rcases List.mem_cons.1 hb with rfl | hb
            · exact he10.blk _ hX9
            · exact he10.blk _ (hh9.row.lt b hb)
          refine (ho0'.ext he10).append hr10 rfl (by simp [maxLen]; omega) (by simp; omega) (fun v11 h21 hm11 hv11 hb11 => ?_)
          have hrow11 : SlO h21 H svs' := (hh9.row.ext he10).mod hm11 (fun b hb hc => (hd0' b hc).1 hb)
          have hX11 : h21[X]? = h11[X]? := (hm11.blk X (by have := he10.size; omega) (fun hc => (hd0' X hc).2 (by simp))).trans (he10.blk X hX9)
          refine And.intro (fun b hb => ?_) ?_
          · rcases List.mem_cons.1 hb with rfl | hb
            · exact hX11
            · exact (hm11.blk b (by have := hh9.row.lt b hb; have := he10.size; omega) (fun hc => (hd0' b hc).1 hb)).trans (he10.blk _ (hh9.row.lt b hb))
          refine hrow11.idx (k := j + 1) (by omega) hsv9 ?_
          obtain ⟨s11, rfl⟩ := hv11.sv
          refine hrow11.store1 (x' := s11) hsv9 rfl rfl (fun h22 hm12 hsz12 hr12 => ?_)
          have hh12 := hh9.step hs0' (List.getElem?_eq_getElem hi9) he10 hm11 hv11 hb11 hm12 hr12 (by have := e19.size; omega) (by simp; omega)
          rw [← put_eq hi9] at hh12
          have hbX12 : pBox h22 X g'' H (-1) 0 := ((hm12.blk X (by have := hm11.size; have := he10.size; omega) (fun hc => hh9.avH X hc (by simp))).trans hX11).trans hbX9
          have e112 : Ext h1b h22 := ((e19.trans he10).mod hm11 hf0').mod hm12 hh9.frH
          have hrows12 := put_len (i := j + 1) (n := s9) hrows8
          refine ArithVC.mk hj63 ?_
          exact ⟨(j + 1, s9, put LL' (j + 1) s9, g'', svs'.set (j + 1) s11), ⟨⟨rfl, rfl, rfl, rfl, rfl, rfl, rfl, rfl, rfl, rfl, rfl⟩, by simp only; omega, hbX12, hh12, e112, by have := he10.size; have := hm11.size; have := hm12.size; omega, hA8, by rw [put_length]; exact hLL8,
            fun i => by have := hrows12 i; simp only; split at this <;> omega, by simp only; omega, hs9.1, hs9.2⟩, by simp only; omega⟩
        · rw [hopF_no c4] at hHq
          refine ArithVC.mk (by simp only; omega) ?_
          exact ⟨(q + 1, gq + 2), ⟨⟨rfl, rfl, rfl, rfl, rfl, rfl, rfl, rfl, rfl, rfl, rfl, rfl, rfl, rfl, rfl⟩, by simp only; omega, hbX11, (hm9.trans hm10).trans hm11, by omega, hHq, by simp only; omega⟩, by simp only; omega⟩
      · simp only at c3
        have hq' : r.toNat - q = 0 := by omega
        rw [hq'] at hHq
        obtain ⟨rfl, rfl⟩ := Prod.mk.inj hHq
        refine CondVC.t ?_
        rw [alongF_stop hH8] at hA8
        subst hA8
        rw [runF_stop hA] at hR4
        subst hR4
        refine hbXq.store (us := [.int .i64 (k : Int)]) rfl rfl (by simp) (by simp [Value.oneCell']) (fun h10 m10 s10 b10 => ?_)
        refine b10.store (us := [.int .i64 (j : Int)]) rfl rfl (by simp [spl]) (by simp [Value.oneCell']) (fun h11 m11 s11 b11 => ?_)
        refine b11.loadA rfl ?_
        have hh11 := (hh9.modAv m10 (by simp)).modAv m11 (by simp)
        have e111 := (e19.mod m10 (by simp; omega)).mod m11 (by simp; omega)
        obtain ⟨Ha, Hc, eH⟩ := hh11.row.shape
        refine (((hbR6.ext e111))).store (us := [H, .int .i64 (gq : Int), .int .i64 (k : Int), .int .i64 (j : Int)]) (by rw [eH]; rfl) rfl (by simp) (by rw [eH]; simp [Value.oneCell']) (fun h12 m12 s12 b12 => ?_)
        refine b12.loadA rfl ?_
        obtain ⟨f1, f2⟩ := fin h11 h12 svs' gq LL' _ _ e111 b11 hh11 m12
        exact ⟨H, svs', rfl, f1, f2⟩
    · simp only at c2
      have hj' : t.toNat - 1 - j = 0 := by omega
      rw [hj'] at hA8
      have hA9 : A = (LL', g', none) := hA8.symm
      subst hA9
      rw [runF_on hA] at hR4
      refine ArithVC.mk (by omega) ?_
      exact ⟨(k + 1, LL', g', svs'), ⟨⟨rfl, rfl, rfl, rfl, rfl, rfl, rfl⟩, hk', hbX8, hh8, e18, hX8, hR4, hLL8, fun i => by have := hrows8 i; simp only; omega, by simp only; omega⟩, by simp only; omega⟩
  · have hk' : k = sg.length := by omega
    subst hk'
    rw [List.drop_length] at hR4
    subst hR4
    refine hbX4.loadA rfl ?_
    obtain ⟨Ha, Hc, eH⟩ := hh4.row.shape
    refine (hbR6.ext e14).store (us := [H, .int .i64 (g : Int), .int .i64 (-1), .int .i64 0]) (by rw [eH]; rfl) rfl (by simp) (by rw [eH]; simp [Value.oneCell']) (fun h12 m12 s12 b12 => ?_)
    refine b12.loadA rfl ?_
    obtain ⟨f1, f2⟩ := fin h4 h12 svs g LL _ _ e14 hbX4 hh4 m12
    exact ⟨H, svs, rfl, f1, f2⟩
end Go.Proofs.Ytckkablifoblbaa
