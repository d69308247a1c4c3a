/- Rows of rows; rules for regions that draw their order. Condition: none. -/
import Derived.Test.YtbikhpphdhffaaaGreatDoorLib1
namespace Go.Vc

/-! ### Regions that draw their order -/
theorem DrawVC.hold (bs : List Nat) {P : Program} {t : DTree} {E : Env} {h : Heap} {K : Env → Heap → Prop} (hk : vcDraw P (fun h' => ∀ b ∈ bs, h'[b]? = h[b]?) t E h K) : DrawVC P t E h K :=
  ⟨_, fun _ _ => rfl, hk⟩
theorem DrawVC.go {P : Program} {t : DTree} {E : Env} {h : Heap} {K : Env → Heap → Prop} (hk : vcDraw P (fun h' => h' = h) t E h K) : DrawVC P t E h K := ⟨fun h' => h' = h, rfl, hk⟩
theorem ForkVC.mk {A B : Prop} (a : A) (b : B) : ForkVC A B := ⟨a, b⟩
theorem TakeVC.same {h : Heap} {v : Value} {n : Option Nat} {K : Value → Prop} (hl : LoadVC h v n K) : TakeVC (fun h' => h' = h) v n K := by
  obtain ⟨a, ha, hl⟩ := hl
  cases n with
  | none => obtain ⟨c, hc, hk⟩ := hl; exact ⟨c, fun h' e => by rw [e]; exact ⟨a, ha, c, hc, rfl⟩, hk⟩
  | some n => obtain ⟨cs, h1, h2, hk⟩ := hl; exact ⟨.agg cs.toArray, fun h' e => by rw [e]; exact ⟨a, ha, cs, h1, h2, rfl⟩, hk⟩

theorem Bx.take {h : Heap} {b : Nat} {l : List Value} {T : TypeId} (hb : Bx h b l T) {bs : List Nat} (hm : b ∈ bs) {o : Nat} {u : Value} {K : Value → Prop} (hu : l[o]? = some u) (hk : K u) :
    TakeVC (fun h' => ∀ b ∈ bs, h'[b]? = h[b]?) (.pointer (some ⟨b, o, none⟩)) none K := by
  refine ⟨u, fun h' hS => ?_, hk⟩
  have hb' : Bx h' b l T := (hS b hm).trans hb
  exact hb'.load hu rfl
theorem Bx.takeA {h : Heap} {b : Nat} {l : List Value} {T : TypeId} (hb : Bx h b l T) {bs : List Nat} (hm : b ∈ bs) {n : Nat} {K : Value → Prop} (hn : n = l.length) (hk : K (.agg l.toArray)) :
    TakeVC (fun h' => ∀ b ∈ bs, h'[b]? = h[b]?) (.pointer (some ⟨b, 0, none⟩)) (some n) K := by
  refine ⟨_, fun h' hS => ?_, hk⟩
  have hb' : Bx h' b l T := (hS b hm).trans hb
  exact hb'.loadA hn rfl
theorem SlX.take1 {α : Type} [Enc α] {own : Bool} {h : Heap} {v : Value} {xs : List α} (hs : SlX own h v xs) {bs : List Nat} (hm : ∀ b ∈ blks v, b ∈ bs) {k : Nat} {x : α} (hx : xs[k]? = some x) {u : Value} (hu : Enc.cells x = [u]) {K : Value → Prop} (hk : K u) :
    TakeVC (fun h' => ∀ b ∈ bs, h'[b]? = h[b]?) (.pointer (some ⟨sblk v, soff v + k * 1, none⟩)) none K := by
  refine ⟨u, fun h' hS => ?_, hk⟩
  exact (hs.keep (fun b hb => hS b (hm b hb))).load1 hx hu rfl
theorem SlX.take {α : Type} [Enc α] {own : Bool} {h : Heap} {v : Value} {xs : List α} (hs : SlX own h v xs) {bs : List Nat} (hm : ∀ b ∈ blks v, b ∈ bs) {k : Nat} {x : α} (hx : xs[k]? = some x) {j : Nat} {u : Value} (hu : (Enc.cells x)[j]? = some u) {o : Nat} (ho : o = soff v + k * Enc.sz α + j) {K : Value → Prop} (hk : K u) :
    TakeVC (fun h' => ∀ b ∈ bs, h'[b]? = h[b]?) (.pointer (some ⟨sblk v, o, none⟩)) none K := by
  refine ⟨u, fun h' hS => ?_, hk⟩
  exact (hs.keep (fun b hb => hS b (hm b hb))).load hx hu ho rfl
theorem SlX.takeN {α : Type} [Enc α] {own : Bool} {h : Heap} {v : Value} {xs : List α} (hs : SlX own h v xs) {bs : List Nat} (hm : ∀ b ∈ blks v, b ∈ bs) {k : Nat} {x : α} (hx : xs[k]? = some x) {n : Nat} (hn : n = Enc.sz α) {K : Value → Prop} (hk : K (.agg (Enc.cells x).toArray)) :
    TakeVC (fun h' => ∀ b ∈ bs, h'[b]? = h[b]?) (.pointer (some ⟨sblk v, soff v + k * n, none⟩)) (some n) K := by
  refine ⟨_, fun h' hS => ?_, hk⟩
  exact (hs.keep (fun b hb => hS b (hm b hb))).loadN hx hn rfl

/-! ### A row of rows, each its own -/
def SV.nil : SV := ⟨none, 0, 0⟩
theorem SlX.sv {α : Type} [Enc α] {own : Bool} {h : Heap} {v : Value} {xs : List α} (hs : SlX own h v xs) : ∃ s : SV, v = s.v := by
  obtain ⟨a, c, rfl⟩ := hs.shape; exact ⟨⟨a, xs.length, c⟩, rfl⟩

/-- In h the slice H holds the slices svs, which hold LL; all may be written, are apart from one another, from the blocks av, and lie from lo on. -/
structure Held {β : Type} [Enc β] (h : Heap) (H : Value) (svs : List SV) (LL : List (List β)) (lo : Nat) (av : List Nat) : Prop where
  row : SlO h H svs
  len : svs.length = LL.length
  get : ∀ (i : Nat) (s : SV) (l : List β), svs[i]? = some s → LL[i]? = some l → SlO h s.v l
  fr : ∀ s ∈ svs, Fr lo s.v
  off : ∀ s ∈ svs, ∀ b ∈ blks s.v, b ∉ blks H ∧ b ∉ av
  apart : ∀ (i j : Nat) (s t : SV), svs[i]? = some s → svs[j]? = some t → i ≠ j → ∀ b ∈ blks s.v, b ∉ blks t.v
  frH : Fr lo H
  avH : ∀ b ∈ blks H, b ∉ av

section
variable {β : Type} [Enc β] {h : Heap} {H : Value} {svs : List SV} {LL : List (List β)} {lo : Nat} {av : List Nat}

theorem Held.lt (hh : Held h H svs LL lo av) : ∀ s ∈ svs, ∀ b ∈ blks s.v, b < h.size := by
  intro s hs b hb
  obtain ⟨i, hi, rfl⟩ := List.getElem_of_mem hs
  have hl : i < LL.length := by rw [← hh.len]; exact hi
  exact (hh.get i _ LL[i] (by simp [hi]) (by simp [hl])).lt b hb
theorem Held.keep (hh : Held h H svs LL lo av) {h' : Heap} (hk : ∀ b, b < h.size → b ∈ blks H ∨ (∃ s ∈ svs, b ∈ blks s.v) → h'[b]? = h[b]?) : Held h' H svs LL lo av :=
  ⟨hh.row.keep fun b hb => hk b (hh.row.lt b hb) (.inl hb), hh.len, fun i s l hs hl => (hh.get i s l hs hl).keep fun b hb => hk b ((hh.get i s l hs hl).lt b hb) (.inr ⟨s, List.mem_of_getElem? hs, hb⟩), hh.fr, hh.off, hh.apart, hh.frH, hh.avH⟩
theorem Held.ext (hh : Held h H svs LL lo av) {h' : Heap} (e : Ext h h') : Held h' H svs LL lo av := hh.keep fun b hb _ => e.blk b hb
/-- a write to what is avoided -/
theorem Held.modAv (hh : Held h H svs LL lo av) {h' : Heap} {bs : List Nat} (m : Mod bs h h') (hb : ∀ b ∈ bs, b ∈ av) : Held h' H svs LL lo av := by
  refine hh.keep fun b hlt hm => m.blk b hlt fun hbb => ?_
  rcases hm with hm | ⟨s, hs, hm⟩
  · exact hh.avH b hm (hb b hbb)
  · exact (hh.off s hs b hm).2 (hb b hbb)
/-- all of it lies from lo on: what is written lies below -/
theorem Held.modLo (hh : Held h H svs LL lo av) {h' : Heap} {bs : List Nat} (m : Mod bs h h') (hb : ∀ b ∈ bs, b < lo) : Held h' H svs LL lo av := by
  refine hh.keep fun b hlt hm => m.blk b hlt fun hbb => ?_
  have h1 := hb b hbb
  rcases hm with hm | ⟨s, hs, hm⟩
  · have := hh.frH b hm; omega
  · have := hh.fr s hs b hm; omega
theorem Held.setAv (hh : Held h H svs LL lo av) {av' : List Nat} (ha : ∀ b ∈ av', b ∈ av ∨ h.size ≤ b) : Held h H svs LL lo av' := by
  refine ⟨hh.row, hh.len, hh.get, hh.fr, fun s hs b hb => ⟨(hh.off s hs b hb).1, fun hc => ?_⟩, hh.apart, hh.frH, fun b hb hc => ?_⟩
  · have := hh.lt s hs b hb
    rcases ha b hc with h1 | h1
    · exact (hh.off s hs b hb).2 h1
    · omega
  · have := hh.row.lt b hb
    rcases ha b hc with h1 | h1
    · exact hh.avH b hb h1
    · omega
theorem Held.one (hh : Held h H svs LL lo av) {i : Nat} (hi : i < LL.length) : ∃ s, svs[i]? = some s ∧ SlO h s.v LL[i] ∧ Fr lo s.v ∧ ∀ b ∈ blks s.v, b ∉ blks H ∧ b ∉ av := by
  have hi' : i < svs.length := by rw [hh.len]; exact hi
  exact ⟨svs[i], by simp [hi'], hh.get i _ _ (by simp [hi']) (by simp [hi]), hh.fr _ (List.getElem_mem hi'), hh.off _ (List.getElem_mem hi')⟩
theorem Held.made {n : Nat} (hr : SlO h H (List.replicate n SV.nil)) (hf : Fr lo H) (ha : ∀ b ∈ av, b < lo) : Held h H (List.replicate n SV.nil) (List.replicate n ([] : List β)) lo av := by
  have hn : ∀ s ∈ List.replicate n SV.nil, blks s.v = [] := by
    intro s hs
    obtain ⟨_, rfl⟩ := List.mem_replicate.1 hs
    rfl
  refine ⟨hr, by simp, fun i s l hs hl => ?_, fun s hs b hb => ?_, fun s hs b hb => ?_, fun i j s t hs ht hij b hb => ?_, hf, fun b hb hc => ?_⟩
  · obtain ⟨_, rfl⟩ := List.mem_replicate.1 (List.mem_of_getElem? hs)
    obtain ⟨_, rfl⟩ := List.mem_replicate.1 (List.mem_of_getElem? hl)
    exact SlX.nil true h
  · rw [hn s hs] at hb; cases hb
  · rw [hn s hs] at hb; cases hb
  · rw [hn s (List.mem_of_getElem? hs)] at hb; cases hb
  · have := hf b hb
    have := ha b hc
    omega

/-- One row was changed (in place, or it lies anew) and laid into H. -/
theorem Held.step (hh : Held h H svs LL lo av) {i : Nat} {s s' : SV} {l l' : List β} (hs : svs[i]? = some s) (hl : LL[i]? = some l) {h1 h2 h3 : Heap} (e1 : Ext h h1) (m2 : Mod (blks s.v) h1 h2) (r2 : SlO h2 s'.v l')
    (hb : ∀ b ∈ blks s'.v, b ∈ blks s.v ∨ h1.size ≤ b) (m3 : Mod (blks H) h2 h3) (r3 : SlO h3 H (svs.set i s')) (hlo : lo ≤ h.size) (hav : ∀ b ∈ av, b < h.size) :
    Held h3 H (svs.set i s') (LL.set i l') lo av := by
  have hs' := List.mem_of_getElem? hs
  have hi : i < svs.length := (List.getElem?_eq_some_iff.1 hs).1
  have hHlt := hh.row.lt
  have e1s := e1.size
  have hnew : ∀ b ∈ blks s'.v, b ∉ blks H ∧ b ∉ av ∧ lo ≤ b := by
    intro b hb'
    rcases hb b hb' with h1' | h1'
    · exact ⟨(hh.off s hs' b h1').1, (hh.off s hs' b h1').2, hh.fr s hs' b h1'⟩
    · exact ⟨fun hc => by have := hHlt b hc; omega, fun hc => by have := hav b hc; omega, by omega⟩
  refine ⟨r3, by simp [hh.len], fun j t k ht hk => ?_, fun t ht => ?_, fun t ht b hbt => ?_, fun j j' t t' ht ht' hjj b hbt => ?_, hh.frH, hh.avH⟩
  · by_cases hj : j = i
    · subst hj
      rw [List.getElem?_set_self hi] at ht
      rw [List.getElem?_set_self (by rw [← hh.len]; exact hi)] at hk
      obtain rfl := Option.some.inj ht
      obtain rfl := Option.some.inj hk
      exact r2.mod m3 fun b hbt => (hnew b hbt).1
    · rw [List.getElem?_set_ne (Ne.symm hj)] at ht
      rw [List.getElem?_set_ne (Ne.symm hj)] at hk
      have ho := hh.get j t k ht hk
      refine ((ho.ext e1).mod m2 fun b hbt => ?_).mod m3 fun b hbt => (hh.off t (List.mem_of_getElem? ht) b hbt).1
      exact hh.apart j i t s ht hs hj b hbt
  · rcases List.mem_or_eq_of_mem_set ht with ht | rfl
    · exact hh.fr t ht
    · exact fun b hb' => (hnew b hb').2.2
  · rcases List.mem_or_eq_of_mem_set ht with ht | rfl
    · exact hh.off t ht b hbt
    · exact ⟨(hnew b hbt).1, (hnew b hbt).2.1⟩
  · by_cases hj : j = i
    · subst hj
      rw [List.getElem?_set_self hi] at ht
      obtain rfl := Option.some.inj ht
      rw [List.getElem?_set_ne hjj] at ht'
      intro hc
      rcases hb b hbt with h1' | h1'
      · exact hh.apart j j' s t' hs ht' hjj b h1' hc
      · have := hh.lt t' (List.mem_of_getElem? ht') b hc; omega
    · rw [List.getElem?_set_ne (Ne.symm hj)] at ht
      by_cases hj' : j' = i
      · subst hj'
        rw [List.getElem?_set_self hi] at ht'
        obtain rfl := Option.some.inj ht'
        intro hc
        rcases hb b hc with h1' | h1'
        · exact hh.apart j j' t s ht hs hj b hbt h1'
        · have := hh.lt t (List.mem_of_getElem? ht) b hbt; omega
      · rw [List.getElem?_set_ne (Ne.symm hj')] at ht'
        exact hh.apart j j' t t' ht ht' hjj b hbt
end
end Go.Vc
