/- Lines: the whole run, spec. Condition: none. -/
import Derived.Test.YtckkablifoblbaaLn5
namespace Go.Proofs.Ytckkablifoblbaa
open Go.Vc
set_option linter.all false

abbrev Run := List (List Int) × Nat × Option (Nat × Nat)
def Run.sig (x : Run) : Int := match x.2.2 with
  | none => 0
  | some p => p.1
def Run.tow (x : Run) : Int := match x.2.2 with
  | none => 0
  | some p => p.2
/-- all of it -/
def runOf (t r : Int) (sg sc : List Int) : Run := runF sc r.toNat (t.toNat - 1) sg 0 (List.replicate t.toNat []) 0
theorem getD_rep (n j : Nat) : ((List.replicate n ([] : List Int)).getD j []).length ≤ 0 := by
  rw [List.getD_eq_getElem?_getD]
  by_cases h : j < n
  · rw [List.getElem?_eq_getElem (by simpa using h)]; simp
  · rw [List.getElem?_eq_none (by simp; omega)]; simp

set_option maxHeartbeats 1000000 in
theorem liRun_ok (t r : Int) (sgv scv : Value) (sg sc : List Int) (h : Heap) (ht : 2 ≤ t ∧ t ≤ 10) (hr : 1 ≤ r ∧ r ≤ 5) (hg : Sl h sgv sg) (hs : Sl h scv sc) (hgl : sg.length ≤ 20) (hgi : AllIn 0 63 sg) (hsc : AllIn 0 63 sc) :
    Cn f_spec_liRun [lineV t r, sgv, scv] h fun v h' => ∃ X H svs, v = ptr X ∧ liBox h' X scv (runOf t r sg sc).2.1 H (runOf t r sg sc).sig (runOf t r sg sc).tow (runOf t r sg sc).2.2.isSome ∧ Held h' H svs (runOf t r sg sc).1 h.size [X] ∧ Ext h h' ∧ h.size ≤ X := by
  generalize hR : runOf t r sg sc = R
  refine calls_of r_spec_liRun ?_
  refine AllocVC.mk [.int .i64 t, .int .i64 r] rfl (fun h1 b3 hb3 hsz1 he1 hbx => ?_)
  refine hbx.load rfl ?_
  refine SlX.makeI (n := t.toNat) SV.nil (by omega) rfl rfl (by simp [maxLen]; omega) (by omega) (fun H h2 he2 hsz2 hH hfrH => ?_)
  have hlo1 := he1.size
  have hlo2 := he2.size
  obtain ⟨ca, cc, ecv⟩ := hs.shape
  obtain ⟨Ha, Hc, eH⟩ := hH.shape
  subst ecv eH
  refine And.intro rfl (And.intro rfl ?_)
  refine AllocVC.mk [.slice ca sc.length cc, .int .i64 0, .slice Ha (List.replicate t.toNat SV.nil).length Hc, .int .i64 0, .int .i64 0, .bool false] rfl (fun h3 X hX hsz3 he3 hbX => ?_)
  generalize eH : Value.slice Ha (List.replicate t.toNat SV.nil).length Hc = H at *
  generalize ecv : Value.slice ca sc.length cc = scv at *
  have hlo3 := he3.size
  have e13 := he2.trans he3
  have hh3 : Held h3 H (List.replicate t.toNat SV.nil) (List.replicate t.toNat ([] : List Int)) h1.size [X] := ((Held.made (av := []) hH hfrH (by simp)).setAv (by simp; omega)).ext he3
  refine (hg.ext (he1.trans e13)).lenVC ?_
  have hX1 : h1.size ≤ X := by omega
  refine LoopVC.mk (α := Nat × List (List Int) × Nat × List SV) (fun s => [(3, ptr b3), (7, ptr X), (19, sgv), (20, .int .i64 (sg.length : Int)), (21, .int .i64 (s.1 : Int))])
    (fun s h4 => s.1 ≤ sg.length ∧ liBox h4 X scv s.2.2.1 H 0 0 false ∧ Held h4 H s.2.2.2 s.2.1 h1.size [X] ∧ Ext h1 h4 ∧ X < h4.size ∧ runF sc r.toNat (t.toNat - 1) (sg.drop s.1) s.1 s.2.1 s.2.2.1 = R ∧ s.2.1.length = t.toNat ∧ (∀ j, (s.2.1.getD j []).length ≤ 11 * s.1) ∧ s.2.2.1 ≤ 100 * s.1)
    (fun s => sg.length - s.1) (0, List.replicate t.toNat [], 0, List.replicate t.toNat SV.nil) ⟨rfl, rfl, rfl, rfl, rfl⟩ ⟨by omega, hbX, hh3, e13, by omega, hR, by simp, fun j => getD_rep _ _, by simp⟩ ?_
  rintro ⟨k, LL, g, svs⟩ Rg h4 ⟨hk, hbX4, hh4, e14, hX4, hR4, hLL, hrows, hgl⟩
  simp only at hk hbX4 hh4 hR4 hLL hrows hgl
  have e04 := he1.trans e14
  refine CondVC.mk (fun c => ?_) (fun c => ?_)
  · have hk' : k < sg.length := by omega
    refine (hg.ext e04).idx rfl hk' ?_
    refine (hg.ext e04).load1 (x := sg[k]) (by simp [hk']) rfl ?_
    have h0 : 0 < LL.length := by omega
    obtain ⟨s0, hs0, ho0, hf0, hd0⟩ := hh4.one h0
    have hl0 := hrows 0
    rw [List.getD_eq_getElem?_getD, List.getElem?_eq_getElem h0, Option.getD_some] at hl0
    have hsv0 : 0 < svs.length := by rw [hh4.len]; exact h0
    refine DrawVC.hold (X :: blks H) ?_
    refine hbX4.take (by simp) rfl (hbX4.take (by simp) rfl ?_)
    refine hh4.row.idx (k := 0) rfl hsv0 ?_
    refine hh4.row.take1 (fun b hb => List.mem_cons_of_mem _ hb) hs0 rfl ?_
    refine And.intro rfl ?_
    refine SlX.row [sg[k]] rfl rfl (by simp [maxLen]) (fun rw5 h5 he5 hsz5 hr5 hfr5 => ?_)
    refine And.intro (fun b hb => ?_) ?_
    · rcases List.mem_cons.1 hb with rfl | hb
      · exact he5.blk _ hX4
      · exact he5.blk _ (hh4.row.lt b hb)
    refine (ho0.ext he5).append hr5 rfl (by simp [maxLen]; omega) (by simp; omega) (fun v6 h6 hm6 hv6 hb6 => ?_)
    have hrow6 : SlO h6 H svs := (hh4.row.ext he5).mod hm6 (fun b hb hc => (hd0 b hc).1 hb)
    have hX6 : h6[X]? = h4[X]? := (hm6.blk X (by have := he5.size; omega) (fun hc => (hd0 X hc).2 (by simp))).trans (he5.blk X hX4)
    refine And.intro (fun b hb => ?_) ?_
    · rcases List.mem_cons.1 hb with rfl | hb
      · exact hX6
      · exact (hm6.blk b (by have := hh4.row.lt b hb; have := he5.size; omega) (fun hc => (hd0 b hc).1 hb)).trans (he5.blk _ (hh4.row.lt b hb))
    refine hrow6.idx (k := 0) rfl hsv0 ?_
    obtain ⟨s6, rfl⟩ := hv6.sv
    refine hrow6.store1 (x' := s6) hsv0 rfl rfl (fun h7 hm7 hsz7 hr7 => ?_)
    have hh7 := hh4.step hs0 (List.getElem?_eq_getElem h0) he5 hm6 hv6 hb6 hm7 hr7 (by omega) (by simp; omega)
    rw [← put_eq h0] at hh7
    have hbX7 : liBox h7 X scv g H 0 0 false := ((hm7.blk X (by have := hm6.size; have := he5.size; omega) (fun hc => hh4.avH X hc (by simp))).trans hX6).trans hbX4
    have e17 : Ext h1 h7 := ((e14.trans he5).mod hm6 hf0).mod hm7 hh4.frH
    have hX7 : X < h7.size := by have := he5.size; have := hm6.size; have := hm7.size; omega
    rw [List.drop_eq_getElem_cons hk'] at hR4
    generalize hA : alongF sc r.toNat (t.toNat - 1) 0 sg[k] (put LL 0 sg[k]) g = A at *
    have hn0 := hgi sg[k] (List.getElem_mem hk')
    have hrows7 := put_len (i := 0) (n := sg[k]) hrows
    refine LoopVC.mk (α := Nat × Int × List (List Int) × Nat × List SV) (fun s => [(3, ptr b3), (7, ptr X), (8, .int .i64 (k : Int)), (9, .int .i64 s.2.1), (10, .int .i64 (s.1 : Int)), (19, sgv), (20, .int .i64 (sg.length : Int)), (21, .int .i64 (k : Int))])
      (fun s h8 => s.1 ≤ t.toNat - 1 ∧ liBox h8 X scv s.2.2.2.1 H 0 0 false ∧ Held h8 H s.2.2.2.2 s.2.2.1 h1.size [X] ∧ Ext h1 h8 ∧ X < h8.size ∧ alongF sc r.toNat (t.toNat - 1 - s.1) s.1 s.2.1 s.2.2.1 s.2.2.2.1 = A ∧ s.2.2.1.length = t.toNat ∧ (∀ j, (s.2.2.1.getD j []).length ≤ 11 * k + 1 + s.1) ∧ s.2.2.2.1 ≤ 100 * k + 10 * s.1 ∧ 0 ≤ s.2.1 ∧ s.2.1 ≤ 63)
      (fun s => t.toNat - 1 - s.1) (0, sg[k], put LL 0 sg[k], g, svs.set 0 s6) ⟨rfl, rfl, rfl, rfl, rfl, rfl, rfl, rfl⟩ ⟨by simp, hbX7, hh7, e17, hX7, hA, by rw [put_length]; exact hLL, fun j => by have := hrows7 j; simp only; split at this <;> omega, by simpa using hgl, hn0.1, hn0.2⟩ ?_
    rintro ⟨j, n, LL', g', svs'⟩ Ri h8 ⟨hj, hbX8, hh8, e18, hX8, hA8, hLL8, hrows8, hgl8, hnlo, hnhi⟩
    simp only at hj hbX8 hh8 hA8 hLL8 hrows8 hgl8 hnlo hnhi
    have e08 := he1.trans e18
    refine ArithVC.mk (by simp only; omega) ?_
    refine (hbx.ext e18).load rfl ?_
    refine CondVC.mk (fun c2 => ?_) (fun c2 => ?_)
    · simp only at c2
      have hj' : j + 1 < t.toNat := by omega
      refine (hbx.ext e18).load rfl ?_
      cases hH8 : hopF sc r.toNat n g' with
      | mk o g'' =>
      have hle := hopF_le _ _ hH8
      have hXs : X ∉ blks scv := fun hc => by have := hs.lt X hc; omega
      have hop := hop_ok X scv H sc n 0 0 r.toNat g' false h8 hbX8 (hs.ext e08) hXs hsc ⟨hnlo, hnhi⟩ (by omega) hH8
      rw [Int.toNat_of_nonneg (by omega)] at hop
      refine hop.mono ?_
      rintro _ h9 ⟨rfl, hbX9, hm9, hsz9⟩
      have hh9 := hh8.modAv hm9 (by simp)
      have e19 : Ext h1 h9 := e18.mod hm9 (by simp; omega)
      have hX9 : X < h9.size := by omega
      have hsplit : t.toNat - 1 - j = (t.toNat - 1 - (j + 1)) + 1 := by omega
      rw [hsplit] at hA8
      cases o with
      | none =>
        refine CondVC.yes (by simp) ?_
        rw [alongF_stop hH8] at hA8
        subst hA8
        rw [runF_stop hA] at hR4
        subst hR4
        refine hbX9.store (us := [.int .i64 (k : Int)]) rfl rfl (by simp) (by simp [Value.oneCell']) (fun h10 m10 s10 b10 => ?_)
        refine b10.store (us := [.int .i64 (j : Int)]) rfl rfl (by simp [spl]) (by simp [Value.oneCell']) (fun h11 m11 s11 b11 => ?_)
        refine b11.store (us := [.bool true]) rfl rfl (by simp [spl]) (by simp [Value.oneCell']) (fun h12 m12 s12 b12 => ?_)
        have hh12 := ((hh9.modAv m10 (by simp)).modAv m11 (by simp)).modAv m12 (by simp)
        have e112 := ((e19.mod m10 (by simp; omega)).mod m11 (by simp; omega)).mod m12 (by simp; omega)
        exact ⟨X, H, svs', rfl, b12, ⟨hh12.row, hh12.len, hh12.get, fun s hs => (hh12.fr s hs).mono hlo1, hh12.off, hh12.apart, hh12.frH.mono hlo1, hh12.avH⟩, he1.trans e112, by omega⟩
      | some s9 =>
        refine CondVC.no (by simp) ?_
        rw [alongF_on hH8] at hA8
        have hi9 : j + 1 < LL'.length := by omega
        obtain ⟨s0', hs0', ho0', hf0', hd0'⟩ := hh9.one hi9
        have hl0' := hrows8 (j + 1)
        rw [List.getD_eq_getElem?_getD, List.getElem?_eq_getElem hi9, Option.getD_some] at hl0'
        have hsv9 : j + 1 < svs'.length := by rw [hh9.len]; exact hi9
        have hj63 : -9223372036854775808 ≤ (j : Int) + 1 ∧ (j : Int) + 1 ≤ 9223372036854775807 := by omega
        refine DrawVC.hold (X :: blks H) ?_
        refine ArithVC.mk hj63 (ArithVC.mk hj63 ?_)
        refine hbX9.take (by simp) rfl (hbX9.take (by simp) rfl ?_)
        refine hh9.row.idx (k := j + 1) (by omega) hsv9 ?_
        refine hh9.row.take1 (fun b hb => List.mem_cons_of_mem _ hb) hs0' rfl ?_
        refine And.intro rfl ?_
        refine SlX.row [s9] rfl rfl (by simp [maxLen]) (fun rw10 h10 he10 hsz10 hr10 hfr10 => ?_)
        refine And.intro (fun b hb => ?_) ?_
        · rcases List.mem_cons.1 hb with rfl | hb
          · exact he10.blk _ hX9
          · exact he10.blk _ (hh9.row.lt b hb)
        refine (ho0'.ext he10).append hr10 rfl (by simp [maxLen]; omega) (by simp; omega) (fun v11 h11 hm11 hv11 hb11 => ?_)
        have hrow11 : SlO h11 H svs' := (hh9.row.ext he10).mod hm11 (fun b hb hc => (hd0' b hc).1 hb)
        have hX11 : h11[X]? = h9[X]? := (hm11.blk X (by have := he10.size; omega) (fun hc => (hd0' X hc).2 (by simp))).trans (he10.blk X hX9)
        refine And.intro (fun b hb => ?_) ?_
        · rcases List.mem_cons.1 hb with rfl | hb
          · exact hX11
          · exact (hm11.blk b (by have := hh9.row.lt b hb; have := he10.size; omega) (fun hc => (hd0' b hc).1 hb)).trans (he10.blk _ (hh9.row.lt b hb))
        refine hrow11.idx (k := j + 1) (by omega) hsv9 ?_
        obtain ⟨s11, rfl⟩ := hv11.sv
        refine hrow11.store1 (x' := s11) hsv9 rfl rfl (fun h12 hm12 hsz12 hr12 => ?_)
        have hh12 := hh9.step hs0' (List.getElem?_eq_getElem hi9) he10 hm11 hv11 hb11 hm12 hr12 (by have := e19.size; omega) (by simp; omega)
        rw [← put_eq hi9] at hh12
        have hbX12 : liBox h12 X scv g'' H 0 0 false := ((hm12.blk X (by have := hm11.size; have := he10.size; omega) (fun hc => hh9.avH X hc (by simp))).trans hX11).trans hbX9
        have e112 : Ext h1 h12 := ((e19.trans he10).mod hm11 hf0').mod hm12 hh9.frH
        have hs9 := hopF_in hsc _ _ ⟨hnlo, hnhi⟩ hH8
        have hrows12 := put_len (i := j + 1) (n := s9) hrows8
        refine ArithVC.mk hj63 ?_
        exact ⟨(j + 1, s9, put LL' (j + 1) s9, g'', svs'.set (j + 1) s11), ⟨⟨rfl, rfl, rfl, rfl, rfl, rfl, rfl, rfl⟩, by simp only; omega, hbX12, hh12, e112, by have := he10.size; have := hm11.size; have := hm12.size; omega, hA8, by rw [put_length]; exact hLL8,
          fun i => by have := hrows12 i; simp only; split at this <;> omega, by simp only; omega, hs9.1, hs9.2⟩, by simp only; omega⟩
    · simp only at c2
      have hj' : t.toNat - 1 - j = 0 := by omega
      rw [hj'] at hA8
      have hA9 : A = (LL', g', none) := hA8.symm
      subst hA9
      rw [runF_on hA] at hR4
      refine ArithVC.mk (by omega) ?_
      exact ⟨(k + 1, LL', g', svs'), ⟨⟨rfl, rfl, rfl, rfl, rfl⟩, hk', hbX8, hh8, e18, hX8, hR4, hLL8, fun i => by have := hrows8 i; simp only; omega, by simp only; omega⟩, by simp only; omega⟩
  · have hk' : k = sg.length := by omega
    subst hk'
    rw [List.drop_length] at hR4
    subst hR4
    exact ⟨X, H, svs, rfl, hbX4, ⟨hh4.row, hh4.len, hh4.get, fun s hs => (hh4.fr s hs).mono hlo1, hh4.off, hh4.apart, hh4.frH.mono hlo1, hh4.avH⟩, e04, by omega⟩
end Go.Proofs.Ytckkablifoblbaa
