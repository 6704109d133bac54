/-
  PROVED: 'tarnlaw17.AdmitErrors' returns true and leaves its argument as it was, where the argument is of bulk at most 1048576 (Rows.AdmitErrorsUptoSaid). Part 2 of 7.
-/
import Derived.Test.YtakdnpafdadblaaGreatErr1
import Derived.RangeFuncRecord
import Derived.RangeFuncLeaves
set_option linter.unusedSimpArgs false
set_option linter.unusedVariables false
set_option linter.unusedSectionVars false
namespace Go.Proofs.YtakdnpafdadblaaGreat.EV
open Go
def Sub (m m' : Mp) : Prop := (∀ k y, m.r k = some y → m'.r k = some y) ∧ (∀ l y, m.l l = some y → m'.l l = some y)
theorem Sub.refl (m : Mp) : Sub m m := ⟨fun _ _ h => h, fun _ _ h => h⟩
theorem Sub.trans {m m1 m2 : Mp} (h : Sub m m1) (k : Sub m1 m2) : Sub m m2 := ⟨fun i y hi => k.1 i y (h.1 i y hi), fun i y hi => k.2 i y (h.2 i y hi)⟩
theorem VR.sub {m m' : Mp} {v v' : Value} (he : Sub m m') (h : VR m v v') : VR m' v v' := by
  induction h with
  | bool b => exact .bool b
  | int k n => exact .int k n
  | str s => exact .str s
  | ptrN => exact .ptrN
  | ptrO k o b f t h => exact .ptrO k o b f t (he.1 k _ h)
  | ptrR b o => exact .ptrR b o
  | slN => exact .slN
  | slR b o n c => exact .slR b o n c
  | slO k o n c a' c' h1 h2 b f t h3 h4 => exact .slO k o n c a' c' h1 h2 b f t (he.1 k _ h3) h4
  | fnN => exact .fnN
  | yl l l' h => exact .yl l l' (he.2 l _ h)
  | fn f c c' h h2 ih => exact .fn f c c' h ih
  | agg c c' h h2 h3 ih => exact .agg c c' h ih h3
  | tup c c' h h2 ih => exact .tup c c' h ih
theorem EnvR.sub {m m' : Mp} {e : Env} {t : Array Value} (he : Sub m m') (h : EnvR m e t) : EnvR m' e t := fun i v hv => by
  obtain ⟨v', h1, h2⟩ := h i v hv; exact ⟨v', h1, h2.sub he⟩
theorem RowR.sub {m m' : Mp} {b f t : Nat} {row : List Value} {w w' : World} (he : Sub m m') (hb : w'.heap[b]? = w.heap[b]?) (h : RowR m b f t row w) : RowR m' b f t row w' := by
  obtain ⟨c, e, h1, h2, h3, h4, h5⟩ := h
  exact ⟨c, e, hb.trans h1, h2, h3, fun i v hv => by obtain ⟨v', h5, h6⟩ := h4 i v hv; exact ⟨v', h5, h6.sub he⟩, h5⟩
theorem LoopR.sub {CR : Nat → Code → C → Prop} {m m' : Mp} {r : Rec} {L : Loop} (he : Sub m m') (h : LoopR CR m r L) : LoopR CR m' r L := { h with env := h.env.sub he }
def Mp.cut (m : Mp) (s : St) : Mp := ⟨fun k => if k < s.n then m.r k else none, fun l => if l < s.nl then m.l l else none⟩
theorem cut_dom (m : Mp) (s : St) : Dom s.n s.nl (m.cut s) := by
  refine ⟨fun k x h => ?_, fun k x h => ?_⟩
  · simp only [Mp.cut] at h; split at h
    · assumption
    · cases h
  · simp only [Mp.cut] at h; split at h
    · assumption
    · cases h
theorem cut_r {m : Mp} {s : St} {k : Nat} {y : Nat × Nat × Nat} (h : (m.cut s).r k = some y) : k < s.n ∧ m.r k = some y := by
  simp only [Mp.cut] at h; split at h
  · exact ⟨by assumption, h⟩
  · cases h
theorem cut_l {m : Mp} {s : St} {k : Nat} {y : Nat} (h : (m.cut s).l k = some y) : k < s.nl ∧ m.l k = some y := by
  simp only [Mp.cut] at h; split at h
  · exact ⟨by assumption, h⟩
  · cases h
theorem cut_r' {m : Mp} {s : St} {k : Nat} {y : Nat × Nat × Nat} (hk : k < s.n) (h : m.r k = some y) : (m.cut s).r k = some y := by simp [Mp.cut, hk, h]
theorem cut_l' {m : Mp} {s : St} {k : Nat} {y : Nat} (hk : k < s.nl) (h : m.l k = some y) : (m.cut s).l k = some y := by simp [Mp.cut, hk, h]
theorem cut_sub {m m' : Mp} {s s' : St} (h : Sub m m') (hn : s.n ≤ s'.n) (hl : s.nl ≤ s'.nl) : Sub (m.cut s) (m'.cut s') :=
  ⟨fun k y hk => by obtain ⟨h1, h2⟩ := cut_r hk; exact cut_r' (by omega) (h.1 k y h2), fun k y hk => by obtain ⟨h1, h2⟩ := cut_l hk; exact cut_l' (by omega) (h.2 k y h2)⟩
theorem cut_of_dom {m : Mp} {s : St} (h : Dom s.n s.nl m) : m.cut s = m := by
  cases m with
  | mk r l =>
    simp only [Mp.cut, Mp.mk.injEq]
    constructor
    · funext k
      split
      · rfl
      · rename_i hk
        cases hr : r k with
        | none => rfl
        | some x => exact absurd (h.1 k x hr) hk
    · funext k
      split
      · rfl
      · rename_i hk
        cases hr : l k with
        | none => rfl
        | some x => exact absurd (h.2 k x hr) hk
theorem mp_ext {m m' : Mp} (h1 : ∀ k, m.r k = m'.r k) (h2 : ∀ l, m.l l = m'.l l) : m = m' := by
  cases m; cases m'; simp only [Mp.mk.injEq]; exact ⟨funext h1, funext h2⟩
structure Keeps (s s' : St) : Prop where
  n : s.n ≤ s'.n
  nl : s.nl ≤ s'.nl
  row : ∀ k, k < s.n → s'.get k = s.get k
  lp : ∀ l, l < s.nl → lget s'.lps l = lget s.lps l
theorem Keeps.refl (s : St) : Keeps s s := ⟨Nat.le_refl _, Nat.le_refl _, fun _ _ => rfl, fun _ _ => rfl⟩
theorem Keeps.trans {s s1 s2 : St} (h : Keeps s s1) (k : Keeps s1 s2) : Keeps s s2 :=
  ⟨Nat.le_trans h.n k.n, Nat.le_trans h.nl k.nl, fun i hi => (k.row i (Nat.lt_of_lt_of_le hi h.n)).trans (h.row i hi), fun i hi => (k.lp i (Nat.lt_of_lt_of_le hi h.nl)).trans (h.lp i hi)⟩
theorem Grq.keeps {s s' : St} (h : Grq s s') : Keeps s s' := ⟨h.n, h.nl, h.rowq, h.lpq⟩
section
variable {W0 : World} {CR : Nat → Code → C → Prop} {m m' : Mp} {s s1 s2 : St} {w w' : World}
theorem R.later (h : R W0 CR m s w) {s' : St} (hk : Keeps s s') : R W0 CR m s' w := by
  have hr : ∀ k x, m.r k = some x → s'.get k = s.get k := fun k x hx => hk.row k (h.dom.1 k x hx)
  have hl : ∀ l x, m.l l = some x → lget s'.lps l = lget s.lps l := fun l x hx => hk.lp l (h.dom.2 l x hx)
  refine ⟨h.size, h.old, ⟨fun k x hx => Nat.lt_of_lt_of_le (h.dom.1 k x hx) hk.n, fun k x hx => Nat.lt_of_lt_of_le (h.dom.2 k x hx) hk.nl⟩,
    fun k b f t hm row hrow => h.row k b f t hm row (by rw [← hr k _ hm]; exact hrow), fun k1 k2 b f1 t1 f2 t2 h1 h2 l1 l2 => h.inj k1 k2 b f1 t1 f2 t2 h1 h2 (by rw [← hr _ _ h1]; exact l1) (by rw [← hr _ _ h2]; exact l2),
    fun l b hm r hrec => h.lp l b hm r (by rw [← hl l _ hm]; exact hrec), fun l1 l2 b h1 h2 h3 h4 => h.linj l1 l2 b h1 h2 (by rw [← hl _ _ h1]; exact h3) (by rw [← hl _ _ h2]; exact h4)⟩
theorem R.restoreE (h0 : R W0 CR m s w) (h1 : R W0 CR m' s1 w') (he : Ext s.n s.nl m m') (hk : Keeps s s1) : R W0 CR m s w' := by
  have hr : ∀ k b f t, m.r k = some (b, f, t) → ∀ row, s.get k = some row → m'.r k = some (b, f, t) ∧ s1.get k = some row := fun k b f t hm row hg =>
    ⟨(he.1 k (h0.dom.1 k _ hm)).trans hm, (hk.row k (h0.dom.1 k _ hm)).trans hg⟩
  have hl : ∀ l b, m.l l = some b → ∀ r, lget s.lps l = some r → m'.l l = some b ∧ lget s1.lps l = some r := fun l b hm r hg =>
    ⟨(he.2 l (h0.dom.2 l _ hm)).trans hm, (hk.lp l (h0.dom.2 l _ hm)).trans hg⟩
  refine ⟨h1.size, h1.old, h0.dom, ?_, ?_, ?_, ?_⟩
  · intro k b f t hm row hg
    obtain ⟨a1, a2⟩ := hr k b f t hm row hg
    obtain ⟨b1, c, e, b2, b3, b4, b5, b6⟩ := h1.row k b f t a1 row a2
    obtain ⟨_, c0, e0, d2, d3, d4, d5, _⟩ := h0.row k b f t hm row hg
    refine ⟨b1, c, e, b2, b3, b4, fun i v hv => ?_, b6⟩
    obtain ⟨v', x1, x2⟩ := b5 i v hv
    obtain ⟨v0, y1, y2⟩ := d5 i v hv
    exact ⟨v', x1, y2.back h0.dom he x2⟩
  · intro k1 k2 b f1 t1 f2 t2 g1 g2 l1 l2
    obtain ⟨r1, e1⟩ := Option.isSome_iff_exists.1 l1
    obtain ⟨r2, e2⟩ := Option.isSome_iff_exists.1 l2
    obtain ⟨a1, a2⟩ := hr k1 b f1 t1 g1 r1 e1
    obtain ⟨b1, b2⟩ := hr k2 b f2 t2 g2 r2 e2
    exact h1.inj k1 k2 b f1 t1 f2 t2 a1 b1 (by rw [a2]; rfl) (by rw [b2]; rfl)
  · intro l b hl1 r hg
    obtain ⟨a1, a2⟩ := hl l b hl1 r hg
    obtain ⟨b1, L, b2, b3⟩ := h1.lp l b a1 r a2
    obtain ⟨_, L0, d2, d3⟩ := h0.lp l b hl1 r hg
    refine ⟨b1, L, b2, { b3 with env := fun t v hv => ?_ }⟩
    obtain ⟨v', x1, x2⟩ := b3.env t v hv
    obtain ⟨v0, y1, y2⟩ := d3.env t v hv
    exact ⟨v', x1, y2.back h0.dom he x2⟩
  · intro l1 l2 b g1 g2 e1 e2
    obtain ⟨r1, e1⟩ := Option.isSome_iff_exists.1 e1
    obtain ⟨r2, e2⟩ := Option.isSome_iff_exists.1 e2
    obtain ⟨a1, a2⟩ := hl l1 b g1 r1 e1
    obtain ⟨b1, b2⟩ := hl l2 b g2 r2 e2
    exact h1.linj l1 l2 b a1 b1 (by rw [a2]; rfl) (by rw [b2]; rfl)
def Mp.mix (m m' : Mp) (s1 s2 : St) : Mp :=
  ⟨fun k => if s1.n ≤ k ∧ k < s2.n then m'.r k else m.r k, fun l => if s1.nl ≤ l ∧ l < s2.nl then m'.l l else m.l l⟩
theorem mix_sub (hu : ∀ k, s1.n ≤ k → k < s2.n → m.r k = none) (hul : ∀ k, s1.nl ≤ k → k < s2.nl → m.l k = none) : Sub m (m.mix m' s1 s2) := by
  refine ⟨fun k y hk => ?_, fun k y hk => ?_⟩
  · simp only [Mp.mix]; split
    · rename_i h; rw [hu k h.1 h.2] at hk; cases hk
    · exact hk
  · simp only [Mp.mix]; split
    · rename_i h; rw [hul k h.1 h.2] at hk; cases hk
    · exact hk
theorem mix_cut_low {s0 : St} (hn : s0.n ≤ s1.n) (hl : s0.nl ≤ s1.nl) : (m.mix m' s1 s2).cut s0 = m.cut s0 := by
  refine mp_ext (fun k => ?_) (fun k => ?_)
  · simp only [Mp.cut, Mp.mix]; split
    · rw [if_neg (by omega)]
    · rfl
  · simp only [Mp.cut, Mp.mix]; split
    · rw [if_neg (by omega)]
    · rfl
theorem mix_cut (he : Ext s1.n s1.nl (m.cut s1) m') (hd : Dom s2.n s2.nl m') (hn : s1.n ≤ s2.n) (hl : s1.nl ≤ s2.nl) : (m.mix m' s1 s2).cut s2 = m' := by
  refine mp_ext (fun k => ?_) (fun k => ?_)
  · simp only [Mp.cut, Mp.mix]; split
    · split
      · rfl
      · have := he.1 k (by omega)
        rw [this]; simp [Mp.cut]; omega
    · rename_i hk
      cases h : m'.r k with
      | none => rfl
      | some x => exact absurd (hd.1 k x h) hk
  · simp only [Mp.cut, Mp.mix]; split
    · split
      · rfl
      · have := he.2 k (by omega)
        rw [this]; simp [Mp.cut]; omega
    · rename_i hk
      cases h : m'.l k with
      | none => rfl
      | some x => exact absurd (hd.2 k x h) hk
theorem R.mix (h0 : R W0 CR (m.cut s) s w) (h' : R W0 CR m' s2 w') (st : Stp (m.cut s1) s1 w m' s2 w') (hu : ∀ k, s1.n ≤ k → k < s2.n → m.r k = none) (hul : ∀ k, s1.nl ≤ k → k < s2.nl → m.l k = none)
    (k1 : Keeps s1 s) (k2 : Keeps s2 s) : R W0 CR ((m.mix m' s1 s2).cut s) s w' ∧ ∀ b, b < w.heap.size → Im ((m.mix m' s1 s2).cut s) s b → Im (m.cut s) s b := by
  have hcut := mix_cut st.ext h'.dom st.n st.nl
  have hsub : Sub (m.cut s) ((m.mix m' s1 s2).cut s) := cut_sub (mix_sub hu hul) (Nat.le_refl _) (Nat.le_refl _)
  have hsub' : Sub m' ((m.mix m' s1 s2).cut s) := by
    rw [← hcut]; rw [hcut]
    have := cut_sub (Sub.refl (m.mix m' s1 s2)) k2.n k2.nl
    rw [hcut] at this; exact this
  have him : ∀ b, Im (m.cut s1) s1 b → Im (m.cut s) s b := by
    rintro b (⟨k, f, t, hk, hl⟩ | ⟨l, hl, hr⟩)
    · obtain ⟨hk1, hk2⟩ := cut_r hk
      exact .inl ⟨k, f, t, cut_r' (Nat.lt_of_lt_of_le hk1 k1.n) hk2, by rw [k1.row k hk1]; exact hl⟩
    · obtain ⟨hk1, hk2⟩ := cut_l hl
      exact .inr ⟨l, cut_l' (Nat.lt_of_lt_of_le hk1 k1.nl) hk2, by rw [k1.lp l hk1]; exact hr⟩
  have rows : ∀ k b f t, ((m.mix m' s1 s2).cut s).r k = some (b, f, t) → (k < s2.n ∧ m'.r k = some (b, f, t)) ∨ (s2.n ≤ k ∧ (m.cut s).r k = some (b, f, t)) := by
    intro k b f t hk
    obtain ⟨h1, h2⟩ := cut_r hk
    rcases Nat.lt_or_ge k s2.n with hlt | hge
    · have := cut_r' (s := s2) hlt h2; rw [hcut] at this; exact .inl ⟨hlt, this⟩
    · refine .inr ⟨hge, cut_r' h1 ?_⟩
      simp only [Mp.mix] at h2; rw [if_neg (by omega)] at h2; exact h2
  have loops : ∀ k b, ((m.mix m' s1 s2).cut s).l k = some b → (k < s2.nl ∧ m'.l k = some b) ∨ (s2.nl ≤ k ∧ (m.cut s).l k = some b) := by
    intro k b hk
    obtain ⟨h1, h2⟩ := cut_l hk
    rcases Nat.lt_or_ge k s2.nl with hlt | hge
    · have := cut_l' (s := s2) hlt h2; rw [hcut] at this; exact .inl ⟨hlt, this⟩
    · refine .inr ⟨hge, cut_l' h1 ?_⟩
      simp only [Mp.mix] at h2; rw [if_neg (by omega)] at h2; exact h2
  have upR : ∀ k b f t row, s2.n ≤ k → (m.cut s).r k = some (b, f, t) → s.get k = some row → b < w.heap.size ∧ ¬ Im (m.cut s1) s1 b := by
    intro k b f t row hge hk hrow
    obtain ⟨_, hR⟩ := h0.row k b f t hk row hrow
    refine ⟨hR.lt, ?_⟩
    rintro (⟨k3, f3, t3, hk3, hl3⟩ | ⟨l3, hl3, hr3⟩)
    · obtain ⟨q1, q2⟩ := cut_r hk3
      have := h0.inj k3 k b f3 t3 f t (cut_r' (Nat.lt_of_lt_of_le q1 k1.n) q2) hk (by rw [k1.row k3 q1]; exact hl3) (by rw [hrow]; rfl)
      have := st.n; omega
    · obtain ⟨q1, q2⟩ := cut_l hl3
      obtain ⟨r, hr⟩ := Option.isSome_iff_exists.1 hr3
      obtain ⟨_, L, hL, _⟩ := h0.lp l3 b (cut_l' (Nat.lt_of_lt_of_le q1 k1.nl) q2) r (by rw [k1.lp l3 q1]; exact hr)
      obtain ⟨c, e, hc, _⟩ := hR
      rw [hc] at hL; cases hL
  have upL : ∀ l b r, s2.nl ≤ l → (m.cut s).l l = some b → lget s.lps l = some r → b < w.heap.size ∧ ¬ Im (m.cut s1) s1 b := by
    intro l b r hge hl hr
    obtain ⟨_, L, hL, _⟩ := h0.lp l b hl r hr
    refine ⟨(Array.getElem?_eq_some_iff.1 hL).1, ?_⟩
    rintro (⟨k3, f3, t3, hk3, hl3⟩ | ⟨l3, hl3, hr3⟩)
    · obtain ⟨q1, q2⟩ := cut_r hk3
      obtain ⟨row, hrow⟩ := Option.isSome_iff_exists.1 hl3
      obtain ⟨_, c, e, hc, _⟩ := h0.row k3 b f3 t3 (cut_r' (Nat.lt_of_lt_of_le q1 k1.n) q2) row (by rw [k1.row k3 q1]; exact hrow)
      rw [hc] at hL; cases hL
    · obtain ⟨q1, q2⟩ := cut_l hl3
      have := h0.linj l3 l b (cut_l' (Nat.lt_of_lt_of_le q1 k1.nl) q2) hl (by rw [k1.lp l3 q1]; exact hr3) (by rw [hr]; rfl)
      have := st.nl; omega
  have low : ∀ k b f t, k < s2.n → m'.r k = some (b, f, t) → (s.get k).isSome = true → b < w.heap.size → Im (m.cut s1) s1 b := fun k b f t hk hm hl hb =>
    st.im b hb (.inl ⟨k, f, t, hm, by rw [← k2.row k hk]; exact hl⟩)
  have lowL : ∀ l b, l < s2.nl → m'.l l = some b → (lget s.lps l).isSome = true → b < w.heap.size → Im (m.cut s1) s1 b := fun l b hk hm hl hb =>
    st.im b hb (.inr ⟨l, hm, by rw [← k2.lp l hk]; exact hl⟩)
  refine ⟨⟨h'.size, h'.old, cut_dom _ _, ?_, ?_, ?_, ?_⟩, ?_⟩
  · intro k b f t hk row hrow
    rcases rows k b f t hk with ⟨q1, q2⟩ | ⟨q1, q2⟩
    · obtain ⟨g1, g2⟩ := h'.row k b f t q2 row (by rw [← k2.row k q1]; exact hrow)
      exact ⟨g1, g2.sub hsub' rfl⟩
    · obtain ⟨g1, g2⟩ := h0.row k b f t q2 row hrow
      obtain ⟨g3, g4⟩ := upR k b f t row q1 q2 hrow
      exact ⟨g1, g2.sub hsub (st.fr b g3 g4)⟩
  · intro ka kb b f1 t1 f2 t2 ha hb la lb
    rcases rows ka b f1 t1 ha with ⟨a1, a2⟩ | ⟨a1, a2⟩ <;> rcases rows kb b f2 t2 hb with ⟨b1, b2⟩ | ⟨b1, b2⟩
    · exact h'.inj ka kb b f1 t1 f2 t2 a2 b2 (by rw [← k2.row ka a1]; exact la) (by rw [← k2.row kb b1]; exact lb)
    · obtain ⟨row, hrow⟩ := Option.isSome_iff_exists.1 lb
      obtain ⟨g3, g4⟩ := upR kb b f2 t2 row b1 b2 hrow
      exact absurd (low ka b f1 t1 a1 a2 la g3) g4
    · obtain ⟨row, hrow⟩ := Option.isSome_iff_exists.1 la
      obtain ⟨g3, g4⟩ := upR ka b f1 t1 row a1 a2 hrow
      exact absurd (low kb b f2 t2 b1 b2 lb g3) g4
    · exact h0.inj ka kb b f1 t1 f2 t2 a2 b2 la lb
  · intro l b hl r hr
    rcases loops l b hl with ⟨q1, q2⟩ | ⟨q1, q2⟩
    · obtain ⟨g1, L, g2, g3⟩ := h'.lp l b q2 r (by rw [← k2.lp l q1]; exact hr)
      exact ⟨g1, L, g2, g3.sub hsub'⟩
    · obtain ⟨g1, L, g2, g3⟩ := h0.lp l b q2 r hr
      obtain ⟨g4, g5⟩ := upL l b r q1 q2 hr
      exact ⟨g1, L, (st.fr b g4 g5).trans g2, g3.sub hsub⟩
  · intro la lb b ha hb ra rb
    rcases loops la b ha with ⟨a1, a2⟩ | ⟨a1, a2⟩ <;> rcases loops lb b hb with ⟨b1, b2⟩ | ⟨b1, b2⟩
    · exact h'.linj la lb b a2 b2 (by rw [← k2.lp la a1]; exact ra) (by rw [← k2.lp lb b1]; exact rb)
    · obtain ⟨r, hr⟩ := Option.isSome_iff_exists.1 rb
      obtain ⟨g4, g5⟩ := upL lb b r b1 b2 hr
      exact absurd (lowL la b a1 a2 ra g4) g5
    · obtain ⟨r, hr⟩ := Option.isSome_iff_exists.1 ra
      obtain ⟨g4, g5⟩ := upL la b r a1 a2 hr
      exact absurd (lowL lb b b1 b2 rb g4) g5
    · exact h0.linj la lb b a2 b2 ra rb
  · rintro b hb (⟨k, f, t, hk, hl⟩ | ⟨l, hl, hr⟩)
    · rcases rows k b f t hk with ⟨q1, q2⟩ | ⟨q1, q2⟩
      · exact him b (low k b f t q1 q2 hl hb)
      · exact .inl ⟨k, f, t, q2, hl⟩
    · rcases loops l b hl with ⟨q1, q2⟩ | ⟨q1, q2⟩
      · exact him b (lowL l b q1 q2 hr hb)
      · exact .inr ⟨l, q2, hr⟩
end
end Go.Proofs.YtakdnpafdadblaaGreat.EV
namespace Go.Proofs.YtakdnpafdadblaaGreat.EV
open Go
variable {ro : Addr → Option Value} {K : H} {e e' : Env} {s s' : St} {v : Value}
theorem opd_congr {x : Operand} (h : ∀ t, x = .tmp t → lk e' t = lk e t) : opd e' x = opd e x := by
  cases x <;> first | rfl | exact h _ rfl
theorem mem_opTmps {t : Nat} : ∀ {l : List Operand}, Operand.tmp t ∈ l → t ∈ opTmps l
  | [], h => by cases h
  | x :: r, h => by
    rcases List.mem_cons.1 h with h1 | h1
    · subst h1; simp [opTmps]
    · have := mem_opTmps h1
      cases x <;> simp [opTmps, this]
theorem opd_of {l : List Operand} (h : ∀ t ∈ opTmps l, lk e' t = lk e t) {x : Operand} (hx : x ∈ l) : opd e' x = opd e x :=
  opd_congr fun t ht => h t (mem_opTmps (ht ▸ hx))
theorem opds_of {l as : List Operand} (h : ∀ t ∈ opTmps l, lk e' t = lk e t) (hx : ∀ x ∈ as, x ∈ l) : opds e' as = opds e as := by
  induction as with
  | nil => rfl
  | cons x r ih => simp only [opds]; rw [opd_of h (hx x (by simp)), ih (fun y hy => hx y (by simp [hy]))]
theorem rowsOf_of {l as : List Operand} (h : ∀ t ∈ opTmps l, lk e' t = lk e t) (hx : ∀ x ∈ as, x ∈ l) : rowsOf e' as = rowsOf e as := by
  induction as with
  | nil => rfl
  | cons x r ih => simp only [rowsOf, rowOf]; rw [opd_of h (hx x (by simp)), ih (fun y hy => hx y (by simp [hy]))]
theorem apart_of {l ap : List Operand} {x : Operand} (h : ∀ t ∈ opTmps l, lk e' t = lk e t) (hx : x ∈ l) (ha : ∀ y ∈ ap, y ∈ l) : apart e' x ap = apart e x ap := by
  cases ap with
  | nil => rfl
  | cons y r => simp only [apart, rowOf]; rw [opd_of h hx, rowsOf_of h ha]
theorem optOpd_of {l : List Operand} {x : Option Operand} (h : ∀ t ∈ opTmps l, lk e' t = lk e t) (hx : ∀ y ∈ x.toList, y ∈ l) : optOpd e' x = optOpd e x := by
  cases x with
  | none => rfl
  | some y => simp only [optOpd]; rw [opd_of h (hx y (by simp))]
theorem fillP_of {l : List Operand} (h : ∀ t ∈ opTmps l, lk e' t = lk e t) : ∀ (ps : List (Nat × Nat × Operand)) (z : List Value), (∀ p ∈ ps, p.2.2 ∈ l) → fillP e' z ps = fillP e z ps
  | [], z, _ => rfl
  | (off, sz, x) :: r, z, hx => by
    have h1 : opd e' x = opd e x := opd_of h (hx (off, sz, x) (by simp))
    have h2 := fun z => fillP_of h r z (fun p hp => hx p (by simp [hp]))
    simp only [fillP, h1, h2]
theorem op1_env {p : P} (h : ∀ t ∈ opTmps (osP p), lk e' t = lk e t) : op1 ro K p e' s = op1 ro K p e s := by
  cases p with
  | pick c a b =>
    have h1 := opd_of h (x := c) (by simp [osP])
    have h2 := opd_of h (x := a) (by simp [osP])
    have h3 := opd_of h (x := b) (by simp [osP])
    simp only [op1, h1]
    split
    · rename_i t _
      cases t
      · simp [h3]
      · simp [h2]
    · rfl
  | bld z ps => simp only [op1, fillP_of h ps z (fun p hp => by simp only [osP]; exact List.mem_map.2 ⟨p, hp, rfl⟩)]
  | bldS a z n ps =>
    have h1 : fillP e' (rep z n) (ps.map fun x => (x.1 * a, a, x.2)) = fillP e (rep z n) (ps.map fun x => (x.1 * a, a, x.2)) := fillP_of h _ _ (by
      intro p hp
      obtain ⟨q, hq, rfl⟩ := List.mem_map.1 hp
      simp only [osP]
      exact List.mem_map_of_mem (f := fun p : Nat × Operand => p.2) hq)
    simp only [op1, h1]
  | ld n a ap => simp only [op1, opd_of h (x := a) (by simp [osP]), apart_of h (x := a) (ap := ap) (by simp [osP]) (fun y hy => by simp [osP, hy])]
  | st n a x ap => simp only [op1, opd_of h (x := a) (by simp [osP]), opd_of h (x := x) (by simp [osP]), apart_of h (x := a) (ap := ap) (by simp [osP]) (fun y hy => by simp [osP, hy])]
  | mkf f caps => simp only [op1, opds_of h (as := caps) (fun x hx => by simpa [osP] using hx)]
  | sli a x lo hi mx => simp only [op1, opd_of h (x := x) (by simp [osP]), optOpd_of h (x := lo) (fun y hy => by simp only [osP]; simp only [List.mem_cons, List.mem_append]; exact .inr (.inl hy)), optOpd_of h (x := hi) (fun y hy => by simp only [osP]; simp only [List.mem_cons, List.mem_append]; exact .inr (.inr (.inl hy))),
      optOpd_of h (x := mx) (fun y hy => by simp only [osP]; simp only [List.mem_cons, List.mem_append]; exact .inr (.inr (.inr hy)))]
  | sls x lo hi => simp only [op1, opd_of h (x := x) (by simp [osP]), optOpd_of h (x := lo) (fun y hy => by simp only [osP]; simp only [List.mem_cons, List.mem_append]; exact .inr (.inl hy)), optOpd_of h (x := hi) (fun y hy => by simp only [osP]; simp only [List.mem_cons, List.mem_append]; exact .inr (.inr hy))]
  | sla a b x lo hi => simp only [op1, opd_of h (x := x) (by simp [osP]), optOpd_of h (x := lo) (fun y hy => by simp only [osP]; simp only [List.mem_cons, List.mem_append]; exact .inr (.inl hy)), optOpd_of h (x := hi) (fun y hy => by simp only [osP]; simp only [List.mem_cons, List.mem_append]; exact .inr (.inr hy))]
  | cal f as q pr => simp only [op1, opds_of h (as := as) (fun x hx => by simp [osP, hx]), rowsOf_of h (as := pr) (fun x hx => by simp [osP, hx])]
  | clv f as q pr => simp only [op1, opd_of h (x := f) (by simp [osP]), opds_of h (as := as) (fun x hx => by simp [osP, hx]), rowsOf_of h (as := pr) (fun x hx => by simp [osP, hx])]
  | ext nm as => simp only [op1, opds_of h (as := as) (fun x hx => by simpa [osP] using hx)]
  | app a x y ap => simp only [op1, opd_of h (x := x) (by simp [osP]), opd_of h (x := y) (by simp [osP]), apart_of h (x := x) (ap := ap) (by simp [osP]) (fun y hy => by simp [osP, hy])]
  | mnx mx as => simp only [op1, opds_of h (as := as) (fun x hx => by simpa [osP] using hx)]
  | new z => rfl
  | lena n => rfl
  | bad => rfl
  | mv x => simp only [op1, opd_of h (x := x) (by simp [osP])]
  | box x => simp only [op1, opd_of h (x := x) (by simp [osP])]
  | not x => simp only [op1, opd_of h (x := x) (by simp [osP])]
  | inv x => simp only [op1, opd_of h (x := x) (by simp [osP])]
  | cvi k x => simp only [op1, opd_of h (x := x) (by simp [osP])]
  | cvs x => simp only [op1, opd_of h (x := x) (by simp [osP])]
  | nck x => simp only [op1, opd_of h (x := x) (by simp [osP])]
  | fa o x => simp only [op1, opd_of h (x := x) (by simp [osP])]
  | fld o n x => simp only [op1, opd_of h (x := x) (by simp [osP])]
  | ex x i => simp only [op1, opd_of h (x := x) (by simp [osP])]
  | len x => simp only [op1, opd_of h (x := x) (by simp [osP])]
  | lens x => simp only [op1, opd_of h (x := x) (by simp [osP])]
  | clr a z x => simp only [op1, opd_of h (x := x) (by simp [osP])]
  | bin op x y => simp only [op1, opd_of h (x := x) (by simp [osP]), opd_of h (x := y) (by simp [osP])]
  | eqa g n x y => simp only [op1, opd_of h (x := x) (by simp [osP]), opd_of h (x := y) (by simp [osP])]
  | eqn f g x y => simp only [op1, opd_of h (x := x) (by simp [osP]), opd_of h (x := y) (by simp [osP])]
  | mks a z x y => simp only [op1, opd_of h (x := x) (by simp [osP]), opd_of h (x := y) (by simp [osP])]
  | ia a x y => simp only [op1, opd_of h (x := x) (by simp [osP]), opd_of h (x := y) (by simp [osP])]
  | iaa a b x y => simp only [op1, opd_of h (x := x) (by simp [osP]), opd_of h (x := y) (by simp [osP])]
  | ix a b n x y => simp only [op1, opd_of h (x := x) (by simp [osP]), opd_of h (x := y) (by simp [osP])]
  | ixs x y => simp only [op1, opd_of h (x := x) (by simp [osP]), opd_of h (x := y) (by simp [osP])]
  | apps x y => simp only [op1, opd_of h (x := x) (by simp [osP]), opd_of h (x := y) (by simp [osP])]
  | cpy a x y => simp only [op1, opd_of h (x := x) (by simp [osP]), opd_of h (x := y) (by simp [osP])]
theorem step_env {i : I} (h : step ro K i e s = some (e', s')) {e2 : Env} (hl : ∀ t ∈ looksI i, lk e2 t = lk e t) : ∃ v, e' = setD i.d v e ∧ step ro K i e2 s = some (setD i.d v e2, s') ∧
    ((guardOn e i.g = some true ∧ op1 ro K i.p e s = some (v, s')) ∨ (guardOn e i.g = some false ∧ v = .tuple #[] ∧ s' = s)) := by
  have hg : guardOn e2 i.g = guardOn e i.g := by
    cases hgi : i.g with
    | none => rfl
    | some p => obtain ⟨t, b⟩ := p; simp only [guardOn]; rw [hl t (by simp [looksI, hgi])]
  have ho : op1 ro K i.p e2 s = op1 ro K i.p e s := op1_env fun t ht => hl t (by simp only [looksI]; exact List.mem_append_left _ ht)
  simp only [step] at h ⊢
  rw [hg, ho]
  split at h
  · rename_i h1
    split at h
    · rename_i u s1 h2
      cases h
      exact ⟨u, rfl, rfl, .inl ⟨h1, h2⟩⟩
    · cases h
  · rename_i h1
    cases h
    exact ⟨_, rfl, rfl, .inr ⟨h1, rfl, rfl⟩⟩
  · cases h
theorem ret_same {v u : Value} (h : ret v s = some (u, s')) : s' = s ∧ v = u := by simp only [ret, Option.some.injEq, Prod.mk.injEq] at h; exact ⟨h.2.symm, h.1⟩
theorem op1_keeps (hG : GrK K) {p : P} (hm : modP p = false) (h : op1 ro K p e s = some (v, s')) : Keeps s s' := by
  have hpush : ∀ r, Keeps s (s.push r) := fun r => ⟨by simp, by simp, fun k hk => St.get_push_old s r hk, fun _ _ => rfl⟩
  cases p with
  | cal f as q pr =>
    simp only [modP, Bool.not_eq_eq_eq_not, Bool.not_false] at hm
    subst hm
    simp only [op1, callK, if_true] at h
    split at h
    · exact (quiet_gr hG h).keeps
    · cases h
  | clv f as q pr =>
    simp only [modP, Bool.not_eq_eq_eq_not, Bool.not_false] at hm
    subst hm
    simp only [op1, callK, if_true] at h
    split at h
    · exact (quiet_gr hG h).keeps
    · cases h
  | new z => simp only [op1] at h; rw [(ret_same h).1]; exact hpush _
  | box x =>
    simp only [op1] at h
    split at h
    · split at h
      · rw [(ret_same h).1]; exact hpush _
      · cases h
    · cases h
  | bldS a z n ps =>
    simp only [op1] at h
    split at h
    · rw [(ret_same h).1]; exact hpush _
    · cases h
  | mks a z l c =>
    simp only [op1] at h
    split at h
    · split at h
      · rw [(ret_same h).1]; exact hpush _
      · cases h
    · cases h
  | st => cases hm
  | app => cases hm
  | apps => cases hm
  | cpy => cases hm
  | clr => cases hm
  | cvs => cases hm
  | bad => cases hm
  | _ =>
    simp only [op1] at h
    repeat' (first | (rw [(ret_same h).1]; exact Keeps.refl _) | (cases h; done) | split at h)
theorem op1_still {p : P} (hm : modP p = false) (hm2 : memP p = false) (h : op1 ro K p e s = some (v, s')) : s' = s := by
  cases p with
  | cal f as q pr => cases q <;> simp [modP, memP] at hm hm2
  | clv f as q pr => cases q <;> simp [modP, memP] at hm hm2
  | new => cases hm2
  | box => cases hm2
  | bldS => cases hm2
  | mks => cases hm2
  | st => cases hm
  | app => cases hm
  | apps => cases hm
  | cpy => cases hm
  | clr => cases hm
  | cvs => cases hm
  | bad => cases hm
  | _ =>
    simp only [op1] at h
    repeat' (first | exact (ret_same h).1 | (cases h; done) | split at h)
theorem op1_other {p : P} (hm : modP p = false) (hm2 : memP p = false) (h : op1 ro K p e s = some (v, s')) {s2 : St}
    (hx : ∀ x b, ldX p = some x → opd e x = some (.pointer (some b)) → b.spot.isSome = true → s2.get b.block = s.get b.block) : op1 ro K p e s2 = some (v, s2) := by
  cases p with
  | cal f as q pr => cases q <;> simp [modP, memP] at hm hm2
  | clv f as q pr => cases q <;> simp [modP, memP] at hm hm2
  | new => cases hm2
  | box => cases hm2
  | bldS => cases hm2
  | mks => cases hm2
  | st => cases hm
  | app => cases hm
  | apps => cases hm
  | cpy => cases hm
  | clr => cases hm
  | cvs => cases hm
  | bad => cases hm
  | ld n a ap =>
    simp only [op1] at h ⊢
    split at h
    · rename_i b hb
      have hrd : rdAt ro s2 b (n.getD 1) = rdAt ro s b (n.getD 1) := by
        unfold rdAt
        cases hsp : b.spot with
        | none => rfl
        | some sp => simp only; rw [hx a b rfl hb (by rw [hsp]; rfl)]
      simp only [hrd]
      split at h
      · rename_i hap
        simp only [hap, if_true]
        split at h
        · split at h
          · obtain ⟨_, rfl⟩ := ret_same h; first | rfl | (simp only [*]; rfl)
          · cases h
        · cases h
      · cases h
    · cases h
  | sla n esz a lo hi =>
    simp only [op1] at h ⊢
    split at h
    · rename_i b l hh hb hl hhi
      cases hsp : b.spot with
      | none => simp only [hsp] at h; repeat' (first | (cases h; done) | split at h)
      | some sp =>
        have hg := hx a b rfl hb (by rw [hsp]; rfl)
        simp only [hsp, hg] at h ⊢
        repeat' (first | (obtain ⟨_, rfl⟩ := ret_same h; first | rfl | (simp only [*]; rfl) | simp [*, ret]) | (cases h; done) | split at h)
    · cases h
  | _ =>
    simp only [op1] at h ⊢
    repeat' (first | (obtain ⟨_, rfl⟩ := ret_same h; first | rfl | (simp only [*]; rfl) | simp [*, ret]) | (cases h; done) | split at h)
end Go.Proofs.YtakdnpafdadblaaGreat.EV
namespace Go.Proofs.YtakdnpafdadblaaGreat.EV
open Go
def Tr (ro : Addr → Option Value) (K : H) (l : List I) (E : Nat → Env) (S : Nat → St) : Prop := ∀ i a, l[i]? = some a → step ro K a (E i) (S i) = some (E (i + 1), S (i + 1))
section
variable {ro : Addr → Option Value} {K : H} {l : List I} {E : Nat → Env} {S : Nat → St}
theorem trace_of : ∀ {l : List I} {e e' : Env} {s s' : St}, ops ro K l e s = some (e', s') → ∃ E S, Tr ro K l E S ∧ E 0 = e ∧ S 0 = s ∧ E l.length = e' ∧ S l.length = s'
  | [], e, e', s, s', h => by
    simp only [ops, Option.some.injEq, Prod.mk.injEq] at h
    obtain ⟨rfl, rfl⟩ := h
    exact ⟨fun _ => e, fun _ => s, fun i a ha => by simp at ha, rfl, rfl, rfl, rfl⟩
  | a :: r, e, e', s, s', h => by
    simp only [ops] at h
    split at h
    · rename_i e1 s1 h1
      obtain ⟨E, S, ht, h2, h3, h4, h5⟩ := trace_of h
      refine ⟨fun k => match k with | 0 => e | k + 1 => E k, fun k => match k with | 0 => s | k + 1 => S k, fun i b hb => ?_, rfl, rfl, h4, h5⟩
      cases i with
      | zero => simp at hb; subst hb; simp only; rw [h2, h3]; exact h1
      | succ i => simp at hb; exact ht i b hb
    · cases h
theorem Tr.parts (T : Tr ro K l E S) {i : Nat} {a : I} (ha : l[i]? = some a) : ∃ v, E (i + 1) = setD a.d v (E i) ∧ ((guardOn (E i) a.g = some true ∧ op1 ro K a.p (E i) (S i) = some (v, S (i + 1))) ∨ (guardOn (E i) a.g = some false ∧ v = .tuple #[] ∧ S (i + 1) = S i)) := by
  obtain ⟨v, h1, _, h3⟩ := step_env (T i a ha) (e2 := E i) (fun _ _ => rfl)
  exact ⟨v, h1, h3⟩
theorem lt_of_get {i : Nat} {a : I} (ha : l[i]? = some a) : i < l.length := (List.getElem?_eq_some_iff.1 ha).1
theorem get_of_lt {i : Nat} (h : i < l.length) : ∃ a, l[i]? = some a := ⟨l[i], List.getElem?_eq_getElem h⟩
theorem Tr.gr (T : Tr ro K l E S) (hG : GrK K) {i : Nat} (hi : i < l.length) : Gr (S i) (S (i + 1)) := by
  obtain ⟨a, ha⟩ := get_of_lt hi
  exact step_gr hG (T i a ha)
theorem Tr.mono (T : Tr ro K l E S) (hG : GrK K) {x y : Nat} (hxy : x ≤ y) (hy : y ≤ l.length) : (S x).n ≤ (S y).n ∧ (S x).nl ≤ (S y).nl := by
  induction hxy with
  | refl => exact ⟨Nat.le_refl _, Nat.le_refl _⟩
  | @step y hxy ih =>
    have h1 := ih (by omega)
    have h2 := T.gr hG (i := y) (by omega)
    exact ⟨Nat.le_trans h1.1 h2.n, Nat.le_trans h1.2 h2.nl⟩
theorem Tr.keep1 (T : Tr ro K l E S) (hG : GrK K) {i : Nat} {a : I} (ha : l[i]? = some a) (hm : modP a.p = false) : Keeps (S i) (S (i + 1)) := by
  obtain ⟨v, _, ⟨_, h⟩ | ⟨_, _, h⟩⟩ := T.parts ha
  · exact op1_keeps hG hm h
  · rw [h]; exact Keeps.refl _
theorem Tr.keeps (T : Tr ro K l E S) (hG : GrK K) {x y : Nat} (hxy : x ≤ y) (hy : y ≤ l.length) (h : ∀ j a, x ≤ j → j < y → l[j]? = some a → modP a.p = false) : Keeps (S x) (S y) := by
  induction hxy with
  | refl => exact Keeps.refl _
  | @step y hxy ih =>
    obtain ⟨a, ha⟩ := get_of_lt (l := l) (i := y) (by omega)
    exact (ih (by omega) (fun j a h1 h2 => h j a h1 (by omega))).trans (T.keep1 hG ha (h y a hxy (by omega) ha))
theorem lk_setD {d : Option Nat} {v : Value} {e : Env} {t : Nat} : lk (setD d v e) t = if d = some t then some v else lk e t := by
  cases d with
  | none => simp [setD]
  | some d => simp only [setD, lk, Option.some.injEq]
theorem Tr.slot1 (T : Tr ro K l E S) {i : Nat} {a : I} (ha : l[i]? = some a) {t : Nat} (hd : a.d ≠ some t) : lk (E (i + 1)) t = lk (E i) t := by
  obtain ⟨v, h, _⟩ := T.parts ha
  rw [h, lk_setD, if_neg hd]
theorem Tr.slot (T : Tr ro K l E S) {x y t : Nat} (hxy : x ≤ y) (hy : y ≤ l.length) (h : ∀ j a, x ≤ j → j < y → l[j]? = some a → a.d ≠ some t) : lk (E y) t = lk (E x) t := by
  induction hxy with
  | refl => rfl
  | @step y hxy ih =>
    obtain ⟨a, ha⟩ := get_of_lt (l := l) (i := y) (by omega)
    rw [T.slot1 ha (h y a hxy (by omega) ha)]
    exact ih (by omega) (fun j a h1 h2 => h j a h1 (by omega))
structure Ck (os : Array Oper) (l : List I) (bs : List Nat) : Prop where
  topo : ∀ i o, os[i]? = some o → ∀ k ∈ edges o, k < i
  pair : ∀ i j a b, l[i]? = some a → l[j]? = some b → pairOk l bs i j a b = true
  clo : ∀ X : Nat → Prop, (∀ j o, os[j]? = some o → X j → ∀ i ∈ edges o, X i) → ∀ j i, (bs.getD j 0).testBit i = true → X j → X i
theorem topo_of : ∀ {es : List (List Nat)} {n : Nat}, topo n es = true → ∀ i e, es[i]? = some e → ∀ k ∈ e, k < n + i
  | [], n, _, i, e, he => by simp at he
  | e0 :: r, n, h, i, e, he => by
    simp only [EV.topo, Bool.and_eq_true, List.all_eq_true, decide_eq_true_eq] at h
    cases i with
    | zero => simp at he; subst he; intro k hk; have := h.1 k hk; omega
    | succ i => simp at he; intro k hk; have := topo_of h.2 i e he k hk; omega
theorem allOk_of {bs : List Nat} {i : Nat} {a : I} : ∀ {r : List I} {n : Nat}, allOk l bs i a n r = true → ∀ j b, r[j]? = some b → pairOk l bs i (n + j) a b = true
  | [], n, _, j, b, hb => by simp at hb
  | b0 :: r, n, h, j, b, hb => by
    simp only [allOk, Bool.and_eq_true] at h
    cases j with
    | zero => simp at hb; subst hb; exact h.1
    | succ j => simp at hb; have := allOk_of h.2 j b hb; rw [show n + (j + 1) = n + 1 + j by omega]; exact this
theorem allOks_of {bs : List Nat} : ∀ {r : List I} {n : Nat}, allOks l bs n r = true → ∀ i a, r[i]? = some a → allOk l bs (n + i) a 0 l = true
  | [], n, _, j, b, hb => by simp at hb
  | b0 :: r, n, h, j, b, hb => by
    simp only [allOks, Bool.and_eq_true] at h
    cases j with
    | zero => simp at hb; subst hb; exact h.1
    | succ j => simp at hb; have := allOks_of h.2 j b hb; rw [show n + (j + 1) = n + 1 + j by omega]; exact this
theorem maskE_of {acc : List Nat} : ∀ {e : List Nat} {i : Nat}, (maskE acc e).testBit i = true → ∃ k ∈ e, i = k ∨ (acc.getD k 0).testBit i = true
  | [], i, h => by simp [maskE] at h
  | k :: r, i, h => by
    simp only [maskE, Nat.testBit_or, Bool.or_eq_true] at h
    rcases h with h | h | h
    · rw [Nat.testBit_two_pow] at h
      exact ⟨k, by simp, .inl (by simpa using (of_decide_eq_true h).symm)⟩
    · exact ⟨k, by simp, .inr h⟩
    · obtain ⟨k', h1, h2⟩ := maskE_of h
      exact ⟨k', by simp [h1], h2⟩
theorem befs_of {X : Nat → Prop} : ∀ {es : List (List Nat)} {acc : List Nat}, (∀ j e, es[j]? = some e → X (acc.length + j) → ∀ i ∈ e, X i) → (∀ j i, (acc.getD j 0).testBit i = true → X j → X i) →
    ∀ j i, ((befs acc es).getD j 0).testBit i = true → X j → X i
  | [], acc, _, h => h
  | e :: r, acc, he, h => by
    simp only [befs]
    refine befs_of (es := r) (acc := acc ++ [maskE acc e]) (fun j e' he' hx => ?_) (fun j i hb hx => ?_)
    · refine he (j + 1) e' (by simpa using he') ?_
      simp only [List.length_append, List.length_cons, List.length_nil] at hx
      rw [show acc.length + (j + 1) = acc.length + (0 + 1) + j by omega]; exact hx
    · rcases Nat.lt_trichotomy j acc.length with hj | hj | hj
      · have : (acc ++ [maskE acc e]).getD j 0 = acc.getD j 0 := by
          simp only [List.getD_eq_getElem?_getD]; rw [List.getElem?_append_left hj]
        rw [this] at hb; exact h j i hb hx
      · subst hj
        have : (acc ++ [maskE acc e]).getD acc.length 0 = maskE acc e := by
          simp [List.getD_eq_getElem?_getD]
        rw [this] at hb
        obtain ⟨k, hk, hh⟩ := maskE_of hb
        have hxk := he 0 e (by simp) (by simpa using hx) k hk
        rcases hh with rfl | hh
        · exact hxk
        · exact h k i hh hxk
      · have : (acc ++ [maskE acc e]).getD j 0 = 0 := by
          simp only [List.getD_eq_getElem?_getD]; rw [List.getElem?_eq_none (by simp; omega)]; rfl
        rw [this] at hb; simp at hb
theorem ck_of {os : Array Oper} (h : chk os l = true) : Ck os l (befs [] (os.toList.map edges)) := by
  simp only [chk, Bool.and_eq_true] at h
  refine ⟨fun i o ho k hk => ?_, fun i j a b ha hb => ?_, fun X hX => ?_⟩
  · have := topo_of h.1 i (edges o) (by simp [ho]) k hk
    omega
  · have h1 := allOks_of h.2 i a ha
    rw [Nat.zero_add] at h1
    have h2 := allOk_of h1 j b hb
    rw [Nat.zero_add] at h2; exact h2
  · refine befs_of (fun j e he hx => ?_) (fun j i hb => by simp at hb)
    simp only [List.getElem?_map, Option.map_eq_some_iff, Array.getElem?_toList] at he
    obtain ⟨o, ho, rfl⟩ := he
    exact hX j o ho (by simpa using hx)
variable {os : Array Oper} {bs : List Nat}
theorem Ck.nodup (C : Ck os l bs) {i j : Nat} {a b : I} (ha : l[i]? = some a) (hb : l[j]? = some b) (hij : i ≠ j) {t : Nat} (hd : a.d = some t) : b.d ≠ some t := by
  have h := C.pair i j a b ha hb
  simp only [pairOk, Bool.and_eq_true] at h
  have h1 := h.1.1.1
  intro hb2
  rw [hd, hb2] at h1
  simp at h1; exact hij h1
theorem Ck.looks (C : Ck os l bs) {i j : Nat} {a b : I} (ha : l[i]? = some a) (hb : l[j]? = some b) {t : Nat} (ht : t ∈ looksI a) (hd : b.d = some t) : (j < i ∧ (bs.getD i 0).testBit j = true) ∨ (i < j ∧ (bs.getD j 0).testBit i = true) := by
  have h := C.pair i j a b ha hb
  simp only [pairOk, Bool.and_eq_true, List.all_eq_true] at h
  have h1 := h.1.1.2 t ht
  rw [hd] at h1
  simpa using h1
theorem Ck.fix (C : Ck os l bs) {i j : Nat} {a b : I} (ha : l[i]? = some a) (hb : l[j]? = some b) {t : Nat} (ht : t ∈ fixI a.p) (hd : b.d = some t) : j < i := by
  have h := C.pair i j a b ha hb
  simp only [pairOk, Bool.and_eq_true, List.all_eq_true] at h
  have h1 := h.1.2 t ht
  rw [hd] at h1
  simpa using h1
theorem Ck.two (C : Ck os l bs) {i j : Nat} {a b : I} (ha : l[i]? = some a) (hb : l[j]? = some b) (hij : i < j) : (bs.getD j 0).testBit i = true ∨ chkPair l i a.p b.p = true := by
  have h := C.pair i j a b ha hb
  simp only [pairOk, Bool.and_eq_true] at h
  have h1 := h.2
  simp only [hij, decide_true, Bool.not_true, Bool.false_or, Bool.or_eq_true] at h1
  exact h1
theorem fixed (T : Tr ro K l E S) (C : Ck os l bs) {i : Nat} {a : I} (ha : l[i]? = some a) {t : Nat} (ht : t ∈ fixI a.p) : lk (E l.length) t = lk (E i) t :=
  T.slot (Nat.le_of_lt (lt_of_get ha)) (Nat.le_refl _) (fun j b hj _ hb hd => by have := C.fix ha hb ht hd; omega)
theorem fixedO (T : Tr ro K l E S) (C : Ck os l bs) {i : Nat} {a : I} (ha : l[i]? = some a) {x : Operand} (hx : ∀ t, x = .tmp t → t ∈ fixI a.p) : opd (E l.length) x = opd (E i) x :=
  opd_congr fun t ht => fixed T C ha (hx t ht)
theorem written (T : Tr ro K l E S) (C : Ck os l bs) {i : Nat} {a : I} (ha : l[i]? = some a) {t : Nat} (hd : a.d = some t) : ∃ v, lk (E l.length) t = some v ∧ E (i + 1) = setD a.d v (E i) ∧
    ((guardOn (E i) a.g = some true ∧ op1 ro K a.p (E i) (S i) = some (v, S (i + 1))) ∨ (guardOn (E i) a.g = some false ∧ v = .tuple #[] ∧ S (i + 1) = S i)) := by
  obtain ⟨v, h1, h2⟩ := T.parts ha
  refine ⟨v, ?_, h1, h2⟩
  rw [T.slot (x := i + 1) (lt_of_get ha) (Nat.le_refl _) (fun j b hj _ hb => C.nodup ha hb (by omega) hd), h1, lk_setD, if_pos hd]
theorem rowOf_shift {e : Env} {x y : Operand} {b : Addr} {n : Nat} (hx : opd e x = some (.pointer (some (shift b n)))) : rowOf e x = some (if b.spot.isSome then [b.block] else []) := by
  simp [rowOf, hx, shift]
theorem root_row (T : Tr ro K l E S) (C : Ck os l bs) : ∀ (F : Nat) (x : Operand) (r : List Nat), rowOf (E l.length) x = some r → rowOf (E l.length) (rootOf l F x) = some r
  | 0, x, r, h => h
  | F + 1, x, r, h => by
    cases x with
    | tmp t =>
      simp only [rootOf]
      split
      · rename_i a hf
        have hd : a.d = some t := by have := List.find?_some hf; simpa using this
        obtain ⟨j, hj⟩ := List.getElem?_of_mem (List.mem_of_find?_eq_some hf)
        obtain ⟨v, hv, _, hop⟩ := written T C hj hd
        split
        · rename_i off y hp
          have hy : opd (E l.length) y = opd (E j) y := fixedO T C hj (fun t ht => by rw [hp, ht]; simp [fixI, opTmps])
          refine root_row T C F y r ?_
          rcases hop with ⟨_, hop⟩ | ⟨_, rfl, _⟩
          · rw [hp] at hop
            simp only [op1] at hop
            split at hop
            · rename_i b hb
              obtain ⟨_, rfl⟩ := ret_same hop
              rw [rowOf_shift (y := y) (show opd (E l.length) (.tmp t) = _ from hv)] at h
              rw [← h]; simp [rowOf, hy, hb]
            · cases hop
          · simp [rowOf, opd, hv] at h
        · rename_i esz y k hp
          have hy : opd (E l.length) y = opd (E j) y := fixedO T C hj (fun t ht => by rw [hp, ht]; simp [fixI, opTmps])
          refine root_row T C F y r ?_
          rcases hop with ⟨_, hop⟩ | ⟨_, rfl, _⟩
          · rw [hp] at hop
            simp only [op1] at hop
            split at hop
            · rename_i b n c kk q hb hq
              split at hop
              · obtain ⟨_, rfl⟩ := ret_same hop
                rw [rowOf_shift (y := y) (show opd (E l.length) (.tmp t) = _ from hv)] at h
                rw [← h]; simp [rowOf, hy, hb]
              · cases hop
            · cases hop
          · simp [rowOf, opd, hv] at h
        · rename_i n esz y k hp
          have hy : opd (E l.length) y = opd (E j) y := fixedO T C hj (fun t ht => by rw [hp, ht]; simp [fixI, opTmps])
          refine root_row T C F y r ?_
          rcases hop with ⟨_, hop⟩ | ⟨_, rfl, _⟩
          · rw [hp] at hop
            simp only [op1] at hop
            split at hop
            · rename_i b kk q hb hq
              split at hop
              · obtain ⟨_, rfl⟩ := ret_same hop
                rw [rowOf_shift (y := y) (show opd (E l.length) (.tmp t) = _ from hv)] at h
                rw [← h]; simp [rowOf, hy, hb]
              · cases hop
            · cases hop
          · simp [rowOf, opd, hv] at h
        · exact h
      · exact h
    | _ => exact h
theorem rowsOf_mem {e : Env} : ∀ {ap : List Operand} {L : List Nat}, rowsOf e ap = some L → ∀ y ∈ ap, ∃ r, rowOf e y = some r ∧ ∀ k ∈ r, k ∈ L
  | [], L, _, y, hy => by cases hy
  | x :: r, L, h, y, hy => by
    simp only [rowsOf] at h
    split at h
    · rename_i A B hA hB
      cases h
      rcases List.mem_cons.1 hy with rfl | hy
      · exact ⟨A, hA, fun k hk => List.mem_append_left _ hk⟩
      · obtain ⟨r', h1, h2⟩ := rowsOf_mem hB y hy
        exact ⟨r', h1, fun k hk => List.mem_append_right _ (h2 k hk)⟩
    · cases h
theorem apart_ne {e : Env} {x : Operand} {ap : List Operand} (h : apart e x ap = true) {y : Operand} (hy : y ∈ ap) {k : Nat} (hk : rowOf e y = some [k]) {A : List Nat} (hA : rowOf e x = some A) : k ∉ A := by
  cases ap with
  | nil => cases hy
  | cons z r =>
    simp only [apart] at h
    split at h
    · rename_i A' L h1 h2
      rw [hA] at h1; cases h1
      obtain ⟨r', q1, q2⟩ := rowsOf_mem h2 y hy
      rw [hk] at q1; cases q1
      intro hkA
      have := List.all_eq_true.1 h k hkA
      simp at this
      exact this (q2 k (by simp))
    · cases h
theorem memO_of {x : Operand} {ap : List Operand} (h : memO x ap = true) : x ∈ ap ∧ ∃ t, x = .tmp t := by
  simp only [memO, List.any_eq_true] at h
  obtain ⟨y, hy, he⟩ := h
  cases x <;> cases y <;> simp [operandEq] at he
  subst he; exact ⟨hy, _, rfl⟩
theorem wr_other {s s' : St} {a : Addr} {x : List Value} (h : wr s a x = some s') {k : Nat} (hk : a.spot.isSome = true → k ≠ a.block) (hn : k < s.n) : s'.get k = s.get k := by
  cases x with
  | nil => simp only [wr, Option.some.injEq] at h; rw [h]
  | cons u us =>
    simp only [wr] at h
    split at h
    · cases h
    · rename_i sp hsp
      split at h
      · split at h
        · rename_i r hr
          split at h
          · cases h
            exact St.get_put_other s _ (hk (by rw [hsp]; rfl)) (St.get_lt hr)
          · cases h
        · cases h
      · cases h
theorem appendTo_other {s s' : St} {esz n c q : Nat} {a : Option Addr} {new : List Value} {v : Value} (h : appendTo s esz a n c new q = some (v, s')) {k : Nat} (hk : ∀ b, a = some b → b.spot.isSome = true → k ≠ b.block) (hn : k < s.n) : s'.get k = s.get k := by
  unfold appendTo at h
  split at h
  · cases h
  · split at h
    · split at h
      · cases h
      · cases h; rfl
    · split at h
      · cases h; exact St.get_push_old s _ hn
      · split at h
        · cases h
        · rename_i b
          split at h
          · cases h
          · rename_i sp hsp
            split at h
            · split at h
              · rename_i r hr
                split at h
                · cases h
                  rw [St.get_push_old _ _ (by simpa using hn)]
                  exact St.get_put_other s _ (hk b rfl (by rw [hsp]; rfl)) (St.get_lt hr)
                · cases h
              · cases h
            · cases h
theorem sep_keeps (T : Tr ro K l E S) (C : Ck os l bs) (hG : GrK K) {i j : Nat} {a b : I} (ha : l[i]? = some a) (hb : l[j]? = some b) {x : Operand} (hx : ldX a.p = some x) {q : Addr} (hv : opd (E i) x = some (.pointer (some q))) (hq : q.spot.isSome = true)
    (hs : sepO l x b.p = true) (hk : q.block < (S j).n) : (S (j + 1)).get q.block = (S j).get q.block := by
  have hxf : opd (E l.length) x = opd (E i) x := fixedO T C ha (fun t ht => by
    cases hp : a.p <;> rw [hp] at hx <;> simp [ldX] at hx
    · subst hx; subst ht; simp [fixI, opTmps]
    · subst hx; subst ht; simp [fixI, opTmps])
  have hrow : rowOf (E l.length) x = some [q.block] := by simp [rowOf, hxf, hv, hq]
  have hroot := root_row T C l.length x _ hrow
  obtain ⟨v, _, ⟨_, hop⟩ | ⟨_, _, h⟩⟩ := T.parts hb
  · have key : ∀ ap : List Operand, (∀ y ∈ ap, ∀ t, y = .tmp t → t ∈ fixI b.p) → memO (rootOf l l.length x) ap = true → rootOf l l.length x ∈ ap ∧ rowOf (E j) (rootOf l l.length x) = some [q.block] := by
      intro ap hfx hm
      obtain ⟨h1, t, h2⟩ := memO_of hm
      refine ⟨h1, ?_⟩
      have : opd (E l.length) (rootOf l l.length x) = opd (E j) (rootOf l l.length x) := fixedO T C hb (fun t ht => hfx _ h1 t ht)
      rw [← hroot]; simp only [rowOf, this]
    cases hp : b.p with
    | st n y z ap =>
      rw [hp] at hop hs
      simp only [sepO] at hs
      obtain ⟨h1, h2⟩ := key ap (fun y hy t ht => by rw [hp]; simp only [fixI]; exact mem_opTmps (by rw [← ht]; simp [hy])) hs
      simp only [op1] at hop
      split at hop
      · rename_i ad u had hu
        split at hop
        · rename_i hc
          split at hop
          · rename_i s1 hw
            obtain ⟨rfl, _⟩ := ret_same hop
            refine wr_other hw (fun hsp e1 => ?_) hk
            have := apart_ne hc.2.2 h1 h2 (A := [ad.block]) (by simp [rowOf, had, hsp])
            rw [e1] at this; simp at this
          · cases hop
        · cases hop
      · cases hop
    | app esz y z ap =>
      rw [hp] at hop hs
      simp only [sepO] at hs
      obtain ⟨h1, h2⟩ := key ap (fun y hy t ht => by rw [hp]; simp only [fixI]; exact mem_opTmps (by rw [← ht]; simp [hy])) hs
      simp only [op1] at hop
      split at hop
      · rename_i ax nx cx ay ny cy hay haz
        split at hop
        · rename_i hap
          split at hop
          · refine appendTo_other hop (fun b' hb' hsp e1 => ?_) hk
            subst hb'
            have := apart_ne hap h1 h2 (A := [b'.block]) (by simp [rowOf, hay, hsp])
            rw [e1] at this; simp at this
          · cases hop
        · cases hop
      · cases hop
    | cal f as qq pr =>
      rw [hp] at hop hs
      cases qq
      · simp only [sepO] at hs
        obtain ⟨h1, h2⟩ := key pr (fun y hy t ht => by rw [hp]; simp only [fixI]; exact mem_opTmps (by rw [← ht]; exact hy)) hs
        simp only [op1, callK, Bool.false_eq_true, if_false] at hop
        split at hop
        · obtain ⟨_, L, hL, hkp⟩ := prot_gr hG hop
          obtain ⟨r', q1, q2⟩ := rowsOf_mem hL _ h1
          rw [h2] at q1; cases q1
          exact hkp _ hk (q2 _ (by simp))
        · cases hop
      · simp [sepO] at hs
    | clv f as qq pr =>
      rw [hp] at hop hs
      cases qq
      · simp only [sepO] at hs
        obtain ⟨h1, h2⟩ := key pr (fun y hy t ht => by rw [hp]; simp only [fixI]; exact mem_opTmps (by rw [← ht]; exact hy)) hs
        simp only [op1, callK, Bool.false_eq_true, if_false] at hop
        split at hop
        · obtain ⟨_, L, hL, hkp⟩ := prot_gr hG hop
          obtain ⟨r', q1, q2⟩ := rowsOf_mem hL _ h1
          rw [h2] at q1; cases q1
          exact hkp _ hk (q2 _ (by simp))
        · cases hop
      · simp [sepO] at hs
    | _ => rw [hp] at hs; simp [sepO] at hs
  · rw [h]
theorem new_keeps (T : Tr ro K l E S) (C : Ck os l bs) (hG : GrK K) {i j : Nat} {b : I} (hb : l[j]? = some b) (hs : newO l i b.p = true) {k : Nat} (hk : k < (S i).n) (hkj : k < (S j).n) : (S (j + 1)).get k = (S j).get k := by
  obtain ⟨v, _, ⟨_, hop⟩ | ⟨_, _, h⟩⟩ := T.parts hb
  · cases hp : b.p with
    | st n y z ap =>
      rw [hp] at hop hs
      simp only [newO] at hs
      simp only [op1] at hop
      split at hop
      · rename_i ad u had hu
        split at hop
        · split at hop
          · rename_i s1 hw
            obtain ⟨rfl, _⟩ := ret_same hop
            refine wr_other hw (fun hsp e1 => ?_) hkj
            have hyf : opd (E l.length) y = opd (E j) y := fixedO T C hb (fun t ht => by rw [hp, ht]; simp [fixI, opTmps])
            have hrow : rowOf (E l.length) y = some [ad.block] := by simp [rowOf, hyf, had, hsp]
            have hroot := root_row T C l.length y _ hrow
            split at hs
            · rename_i t ht
              rw [ht] at hroot
              simp only [List.any_eq_true, Bool.and_eq_true, beq_iff_eq] at hs
              obtain ⟨x0, hx0, hd, hnew⟩ := hs
              obtain ⟨r0, hr0⟩ := List.getElem?_of_mem hx0
              rw [List.getElem?_drop] at hr0
              obtain ⟨u2, hu2, _, hop2⟩ := written T C hr0 hd
              have hmono := T.mono hG (x := i) (y := i + 1 + r0) (by omega) (Nat.le_of_lt (lt_of_get hr0))
              rcases hop2 with ⟨_, hop2⟩ | ⟨_, rfl, _⟩
              · have : u2 = .pointer (some (own (S (i + 1 + r0)).n 0)) := by
                  cases hp2 : x0.p <;> rw [hp2] at hnew hop2 <;> simp at hnew
                  · simp only [op1] at hop2; exact (ret_same hop2).2.symm
                  · simp only [op1] at hop2
                    split at hop2
                    · split at hop2
                      · exact (ret_same hop2).2.symm
                      · cases hop2
                    · cases hop2
                subst this
                simp [rowOf, opd, hu2, own] at hroot
                omega
              · simp [rowOf, opd, hu2] at hroot
            · cases hs
          · cases hop
        · cases hop
      · cases hop
    | _ => rw [hp] at hs; simp [newO] at hs
  · rw [h]
end
end Go.Proofs.YtakdnpafdadblaaGreat.EV
namespace Go.Proofs.YtakdnpafdadblaaGreat.EV
open Go
def Ex (listed : Array Bool) (i : Nat) : Prop := listed.getD i false = true
def Valid (l : List I) (listed : Array Bool) (x : Nat) : Prop := x ≤ l.length ∧ ∀ j b, l[j]? = some b → modP b.p = true → (Ex listed j ↔ j < x)
theorem exists_min {P : Nat → Prop} : ∀ n, P n → ∃ x, P x ∧ ∀ y, P y → x ≤ y := by
  intro n
  induction n using Nat.strongRecOn with
  | _ n ih =>
    intro h
    by_cases hh : ∃ m, m < n ∧ P m
    · obtain ⟨m, h1, h2⟩ := hh; exact ih m h1 h2
    · exact ⟨n, h, fun y hy => Nat.le_of_not_lt fun hlt => hh ⟨y, hlt, hy⟩⟩
theorem exists_max {P : Nat → Prop} {N : Nat} (hN : ∀ n, P n → n ≤ N) {n : Nat} (h : P n) : ∃ x, P x ∧ ∀ y, P y → y ≤ x := by
  obtain ⟨k, ⟨x, hx, hk⟩, hmin⟩ := exists_min (P := fun k => ∃ x, P x ∧ N - x = k) (N - n) ⟨n, h, rfl⟩
  refine ⟨x, hx, fun y hy => ?_⟩
  have := hmin (N - y) ⟨y, hy, rfl⟩
  have h1 := hN x hx
  have h2 := hN y hy
  omega
theorem setD_inj {d : Option Nat} {v u : Value} {e : Env} (h : setD d v e = setD d u e) : d = none ∨ v = u := by
  cases d with
  | none => exact .inl rfl
  | some d => simp only [setD, List.cons.injEq, Prod.mk.injEq, true_and, and_true] at h; exact .inr h
theorem lk_keep (e : Env) : ∀ (l : List Nat) (t : Nat), lk (keep e l) t = if t ∈ l then lk e t else none
  | [], t => by simp [keep, lk]
  | u :: r, t => by
    simp only [keep]
    cases hu : lk e u with
    | none =>
      simp only [lk_keep e r t, List.mem_cons]
      by_cases h1 : t = u
      · subst h1; simp [hu]
      · simp [h1]
    | some v =>
      simp only [lk, lk_keep e r t, List.mem_cons]
      by_cases h1 : u = t
      · subst h1; simp [hu]
      · simp [h1, Ne.symm h1]
theorem ldX_live {ro : Addr → Option Value} {K : H} {p : P} {e : Env} {s s' : St} {v : Value} {x : Operand} {q : Addr} (hx : ldX p = some x) (h : op1 ro K p e s = some (v, s')) (hq : opd e x = some (.pointer (some q))) (hs : q.spot.isSome = true) : q.block < s.n := by
  cases p <;> simp [ldX] at hx
  · subst hx
    simp only [op1, hq] at h
    split at h
    · split at h
      · rename_i l hl
        unfold rdAt at hl
        split at hl
        · split at hl
          · rename_i r hr; exact St.get_lt hr
          · cases hl
        · rename_i hsp; rw [hsp] at hs; cases hs
      · cases h
    · cases h
  · subst hx
    simp only [op1, hq] at h
    split at h
    · rename_i b l hh hb hl hhi
      cases hb
      split at h
      · split at h
        · split at h
          · rename_i sp r hsp hr; exact St.get_lt hr
          · cases h
        · cases h
      · cases h
    · cases h
section
variable {c : Cfg} {W0 : World} {ro : Addr → Option Value} {K : H} {l : List I} {E : Nat → Env} {S : Nat → St} {os : Array Oper} {bs : List Nat} {N : Nat} {m0 m : Mp} {w0 w : World} {a0 a : Act} {listed : Array Bool}
structure Inv (c : Cfg) (W0 : World) (l : List I) (E : Nat → Env) (S : Nat → St) (os : Array Oper) (N : Nat) (m0 : Mp) (w0 : World) (a0 : Act) (m : Mp) (listed : Array Bool) (a : Act) (w : World) : Prop where
  size : listed.size = os.size
  clo : ∀ j o, os[j]? = some o → Ex listed j → ∀ i ∈ edges o, Ex listed i
  val : ∃ x, Valid l listed x
  rel : ∀ x, Valid l listed x → RC c W0 (m.cut (S x)) (S x) w
  born : ∀ k y, m.r k = some y → k < (S 0).n ∨ ∃ b, Ex listed b ∧ b < l.length ∧ (S b).n ≤ k ∧ k < (S (b + 1)).n
  bornL : ∀ k y, m.l k = some y → k < (S 0).nl ∨ ∃ b, Ex listed b ∧ b < l.length ∧ (S b).nl ≤ k ∧ k < (S (b + 1)).nl
  base : ∀ k, k < (S 0).n → m.r k = m0.r k
  baseL : ∀ k, k < (S 0).nl → m.l k = m0.l k
  envA : ∀ t v, (∀ j b, l[j]? = some b → b.d = some t → ¬ Ex listed j) → lk (E 0) t = some v → ∃ v', a.tmps[t]? = some v' ∧ VR (m.cut (S 0)) v v'
  envB : ∀ t v j b, l[j]? = some b → b.d = some t → Ex listed j → lk (E (j + 1)) t = some v → ∃ v' y, a.tmps[t]? = some v' ∧ y ≤ l.length ∧ VR (m.cut (S y)) v v' ∧ (y ≤ j + 1 ∨ ∀ x, Valid l listed x → y ≤ x)
  tsz : a.tmps.size = N
  dfs : a.defers = a0.defers
  sz : w0.heap.size ≤ w.heap.size
  os_ : w.os = w0.os
  tape : w.tape = w0.tape
  output : w.output = w0.output
  fr : ∀ b, b < w0.heap.size → ¬ Im m0 (S 0) b → w.heap[b]? = w0.heap[b]?
  im : ∀ x, Valid l listed x → ∀ b, b < w0.heap.size → Im (m.cut (S x)) (S x) b → Im m0 (S 0) b
theorem valid_between {x y : Nat} (hx : Valid l listed x) (hy : Valid l listed y) {j : Nat} {b : I} (h1 : x ≤ j) (h2 : j < y) (hb : l[j]? = some b) : modP b.p = false := by
  cases hm : modP b.p with
  | false => rfl
  | true => have a1 := (hx.2 j b hb hm); have a2 := (hy.2 j b hb hm); have := a1.1 (a2.2 h2); omega
theorem valid_keeps (T : Tr ro K l E S) (hG : GrK K) {x y : Nat} (hx : Valid l listed x) (hy : Valid l listed y) (hxy : x ≤ y) : Keeps (S x) (S y) :=
  T.keeps hG hxy hy.1 fun _ _ h1 h2 hb => valid_between hx hy h1 h2 hb
structure Next1 (os : Array Oper) (l : List I) (listed : Array Bool) (i : Nat) (b : I) : Prop where
  b : l[i]? = some b
  no : ¬ Ex listed i
  anc : ∀ o, os[i]? = some o → ∀ k ∈ edges o, Ex listed k
theorem anc_ex (C : Ck os l bs) (hI : Inv c W0 l E S os N m0 w0 a0 m listed a w) {i : Nat} {b : I} (hn : Next1 os l listed i b) {j : Nat} (hj : (bs.getD i 0).testBit j = true) (hne : j ≠ i) : Ex listed j := by
  have := C.clo (fun k => Ex listed k ∨ k = i) (fun j o ho hx k hk => by
    rcases hx with hx | rfl
    · exact .inl (hI.clo j o ho hx k hk)
    · exact .inl (hn.anc o ho k hk)) i j hj (.inr rfl)
  exact this.resolve_right hne
theorem desc_no (C : Ck os l bs) (hI : Inv c W0 l E S os N m0 w0 a0 m listed a w) {i : Nat} {b : I} (hn : Next1 os l listed i b) {j : Nat} (hj : (bs.getD j 0).testBit i = true) : ¬ Ex listed j := fun hx =>
  hn.no (C.clo (Ex listed) (fun j o ho hx k hk => hI.clo j o ho hx k hk) j i hj hx)
theorem chkPair_mm {i : Nat} {p q : P} (h : chkPair l i p q = true) (hp : modP p = true) : modP q = false ∧ memP q = false := by
  unfold chkPair at h
  rw [if_pos hp] at h
  cases h1 : modP q with
  | true => simp [h1] at h
  | false => cases h2 : memP q with
    | true => simp [h1, h2] at h
    | false => exact ⟨rfl, rfl⟩
theorem chkPair_m {i : Nat} {p q : P} (h : chkPair l i p q = true) (hq : modP q = true) : modP p = false ∧ memP p = false := by
  cases h1 : modP p with
  | true => have := (chkPair_mm h h1).1; rw [hq] at this; cases this
  | false =>
    unfold chkPair at h
    rw [h1, if_neg (by simp), if_pos hq] at h
    cases h2 : memP p with
    | true => simp [h2] at h
    | false => exact ⟨rfl, rfl⟩
theorem valid_of (C : Ck os l bs) (hI : Inv c W0 l E S os N m0 w0 a0 m listed a w) {i : Nat} {b : I} (hn : Next1 os l listed i b) (hm : modP b.p = true ∨ memP b.p = true) : Valid l listed i := by
  refine ⟨Nat.le_of_lt (lt_of_get hn.b), fun j bj hj hmj => ?_⟩
  rcases Nat.lt_trichotomy j i with hlt | rfl | hgt
  · refine ⟨fun _ => hlt, fun _ => ?_⟩
    rcases C.two hj hn.b hlt with h | h
    · exact anc_ex C hI hn h (by omega)
    · obtain ⟨h1, h2⟩ := chkPair_mm h hmj
      rcases hm with hm | hm <;> simp_all
  · exact ⟨fun h => absurd h hn.no, fun h => absurd h (Nat.lt_irrefl _)⟩
  · refine ⟨fun h => ?_, fun h => by omega⟩
    rcases C.two hn.b hj hgt with h' | h'
    · exact absurd h (desc_no C hI hn h')
    · obtain ⟨h1, h2⟩ := chkPair_m h' hmj
      rcases hm with hm | hm <;> simp_all
theorem maker (T : Tr ro K l E S) {b : Nat} {x : I} (hb : l[b]? = some x) (h : (S b).n < (S (b + 1)).n ∨ (S b).nl < (S (b + 1)).nl) : modP x.p = true ∨ memP x.p = true := by
  cases h1 : modP x.p with
  | true => exact .inl rfl
  | false => cases h2 : memP x.p with
    | true => exact .inr rfl
    | false =>
      obtain ⟨v, _, ⟨_, h3⟩ | ⟨_, _, h3⟩⟩ := T.parts hb
      · rw [op1_still h1 h2 h3] at h; omega
      · rw [h3] at h; omega
theorem env_at (T : Tr ro K l E S) (C : Ck os l bs) (hG : GrK K) (hI : Inv c W0 l E S os N m0 w0 a0 m listed a w) {i : Nat} {b : I} (hn : Next1 os l listed i b) {x : Nat}
    (hx : ∀ y, y ≤ l.length → (y ≤ i ∨ ∀ z, Valid l listed z → y ≤ z) → Sub (m.cut (S y)) (m.cut (S x))) : EnvR (m.cut (S x)) (keep (E i) (looksI b)) a.tmps := by
  intro t v hv
  rw [lk_keep] at hv
  split at hv
  · rename_i ht
    by_cases hw : ∃ (j : Nat) (bj : I), l[j]? = some bj ∧ bj.d = some t
    · obtain ⟨j, bj, hj, hd⟩ := hw
      rcases C.looks hn.b hj ht hd with ⟨h1, h2⟩ | ⟨h1, h2⟩
      · have hex := anc_ex C hI hn h2 (by omega)
        rw [T.slot (x := j + 1) h1 (Nat.le_of_lt (lt_of_get hn.b)) (fun k bk hk _ hbk => C.nodup hj hbk (by omega) hd)] at hv
        obtain ⟨v', y, q1, q2, q3, q4⟩ := hI.envB t v j bj hj hd hex hv
        exact ⟨v', q1, q3.sub (hx y q2 (q4.imp (fun h => by omega) id))⟩
      · rw [T.slot (x := 0) (Nat.zero_le _) (Nat.le_of_lt (lt_of_get hn.b)) (fun k bk hk hki hbk hdk => by
          by_cases e1 : j = k
          · omega
          · exact C.nodup hj hbk e1 hd hdk)] at hv
        obtain ⟨v', q1, q2⟩ := hI.envA t v (fun k bk hk hdk hex => by
          by_cases e1 : j = k
          · subst e1; exact desc_no C hI hn h2 hex
          · exact C.nodup hj hk e1 hd hdk) hv
        exact ⟨v', q1, q2.sub (hx 0 (Nat.zero_le _) (.inl (Nat.zero_le _)))⟩
    · rw [T.slot (x := 0) (Nat.zero_le _) (Nat.le_of_lt (lt_of_get hn.b)) (fun k bk _ _ hbk hdk => hw ⟨k, bk, hbk, hdk⟩)] at hv
      obtain ⟨v', q1, q2⟩ := hI.envA t v (fun k bk hk hdk _ => hw ⟨k, bk, hk, hdk⟩) hv
      exact ⟨v', q1, q2.sub (hx 0 (Nat.zero_le _) (.inl (Nat.zero_le _)))⟩
  · cases hv
theorem ex_set {i j : Nat} (hi : i < listed.size) : Ex (listed.setIfInBounds i true) j ↔ (Ex listed j ∨ j = i) := by
  unfold Ex
  by_cases h : i = j
  · subst h; simp [hi]
  · rw [getD_set_ne false h]
    constructor
    · exact .inl
    · rintro (h1 | rfl)
      · exact h1
      · exact absurd rfl h
theorem inv_next (T : Tr ro K l E S) (C : Ck os l bs) (hG : GrK K) (hI : Inv c W0 l E S os N m0 w0 a0 m listed a w) {i : Nat} {b : I} (hn : Next1 os l listed i b) (hlen : l.length = os.size) {v : Value} (hE : E (i + 1) = setD b.d v (E i)) (hdst : dstOk N b.d = true)
    {x0 : Nat} (hv0 : Valid l listed x0) {s2 : St} (hs : (x0 = i ∧ s2 = S (i + 1)) ∨ (modP b.p = false ∧ s2 = S x0 ∧ (x0 ≤ i + 1 ∨ ∀ z, Valid l listed z → x0 ≤ z)))
    {m' : Mp} {v' : Value} {w' : World} (h' : RC c W0 m' s2 w') (st : Stp (m.cut (S x0)) (S x0) w m' s2 w') (hvr : VR m' v v') :
    Inv c W0 l E S os N m0 w0 a0 (m.mix m' (S x0) s2) (listed.setIfInBounds i true) (a.put b.d v') w' := by
  have hi : i < l.length := lt_of_get hn.b
  have hil : i < listed.size := by rw [hI.size, ← hlen]; exact hi
  have hex : ∀ j, Ex (listed.setIfInBounds i true) j ↔ (Ex listed j ∨ j = i) := fun j => ex_set hil
  have hu : ∀ k, (S x0).n ≤ k → k < s2.n → m.r k = none := by
    intro k h1 h2
    rcases hs with ⟨rfl, rfl⟩ | ⟨_, rfl, _⟩
    · cases hk : m.r k with
      | none => rfl
      | some y =>
        rcases hI.born k y hk with h3 | ⟨j, hj, hjl, h3, h4⟩
        · have := (T.mono hG (Nat.zero_le x0) hv0.1).1; omega
        · rcases Nat.lt_trichotomy j x0 with h5 | rfl | h5
          · have := (T.mono hG (x := j + 1) (y := x0) h5 hv0.1).1; omega
          · exact absurd hj hn.no
          · have := (T.mono hG (x := x0 + 1) (y := j) h5 (Nat.le_of_lt hjl)).1; omega
    · omega
  have hul : ∀ k, (S x0).nl ≤ k → k < s2.nl → m.l k = none := by
    intro k h1 h2
    rcases hs with ⟨rfl, rfl⟩ | ⟨_, rfl, _⟩
    · cases hk : m.l k with
      | none => rfl
      | some y =>
        rcases hI.bornL k y hk with h3 | ⟨j, hj, hjl, h3, h4⟩
        · have := (T.mono hG (Nat.zero_le x0) hv0.1).2; omega
        · rcases Nat.lt_trichotomy j x0 with h5 | rfl | h5
          · have := (T.mono hG (x := j + 1) (y := x0) h5 hv0.1).2; omega
          · exact absurd hj hn.no
          · have := (T.mono hG (x := x0 + 1) (y := j) h5 (Nat.le_of_lt hjl)).2; omega
    · omega
  have hsub : Sub m (m.mix m' (S x0) s2) := mix_sub hu hul
  have hcut2 : (m.mix m' (S x0) s2).cut s2 = m' := mix_cut st.ext h'.dom st.n st.nl
  have h00 : (S 0).n ≤ (S x0).n ∧ (S 0).nl ≤ (S x0).nl := T.mono hG (Nat.zero_le _) hv0.1
  have hvalid : ∀ x, Valid l (listed.setIfInBounds i true) x → (modP b.p = false ∧ Valid l listed x) ∨ (modP b.p = true ∧ i < x ∧ x ≤ l.length ∧ ∀ j bj, i < j → j < x → l[j]? = some bj → modP bj.p = false) := by
    intro x hx
    cases hm : modP b.p with
    | false =>
      refine .inl ⟨rfl, hx.1, fun j bj hj hmj => ?_⟩
      have hne : j ≠ i := fun e1 => by subst e1; rw [hn.b] at hj; cases hj; rw [hm] at hmj; cases hmj
      rw [← hx.2 j bj hj hmj, hex]
      exact ⟨.inl, fun h => h.resolve_right hne⟩
    | true =>
      have hiv := valid_of C hI hn (.inl hm)
      refine .inr ⟨rfl, (hx.2 i b hn.b hm).1 ((hex i).2 (.inr rfl)), hx.1, fun j bj h1 h2 hj => ?_⟩
      cases hmj : modP bj.p with
      | false => rfl
      | true =>
        have h3 := (hx.2 j bj hj hmj).2 h2
        rcases (hex j).1 h3 with h4 | h4
        · have := (hiv.2 j bj hj hmj).1 h4; omega
        · omega
  have hup : modP b.p = true → x0 = i ∧ s2 = S (i + 1) ∧ (∀ k, (S (i + 1)).n ≤ k → m.r k = none) ∧ (∀ k, (S (i + 1)).nl ≤ k → m.l k = none) := by
    intro hm
    have hiv := valid_of C hI hn (.inl hm)
    have hxi : x0 = i ∧ s2 = S (i + 1) := by
      rcases hs with h | ⟨h, _⟩
      · exact h
      · rw [hm] at h; cases h
    have hno : ∀ j bj, l[j]? = some bj → Ex listed j → i < j → (modP bj.p = true ∨ memP bj.p = true) → False := by
      intro j bj hj hexj hij hmj
      rcases C.two hn.b hj hij with h | h
      · exact desc_no C hI hn h hexj
      · obtain ⟨h1, h2⟩ := chkPair_mm h hm
        rcases hmj with h3 | h3 <;> simp_all
    refine ⟨hxi.1, hxi.2, fun k hk => ?_, fun k hk => ?_⟩
    · cases hmk : m.r k with
      | none => rfl
      | some y =>
        exfalso
        have m0i := (T.mono hG (Nat.zero_le (i + 1)) hi).1
        rcases hI.born k y hmk with h3 | ⟨j, hj, hjl, h3, h4⟩
        · omega
        · obtain ⟨bj, hbj⟩ := get_of_lt hjl
          rcases Nat.lt_or_ge i j with h5 | h5
          · exact hno j bj hbj hj h5 (maker T hbj (.inl (by omega)))
          · have := (T.mono hG (x := j + 1) (y := i + 1) (by omega) hi).1; omega
    · cases hmk : m.l k with
      | none => rfl
      | some y =>
        exfalso
        have m0i := (T.mono hG (Nat.zero_le (i + 1)) hi).2
        rcases hI.bornL k y hmk with h3 | ⟨j, hj, hjl, h3, h4⟩
        · omega
        · obtain ⟨bj, hbj⟩ := get_of_lt hjl
          rcases Nat.lt_or_ge i j with h5 | h5
          · exact hno j bj hbj hj h5 (maker T hbj (.inr (by omega)))
          · have := (T.mono hG (x := j + 1) (y := i + 1) (by omega) hi).2; omega
  have hrel : ∀ x, Valid l (listed.setIfInBounds i true) x → RC c W0 ((m.mix m' (S x0) s2).cut (S x)) (S x) w' ∧ ∀ k, k < w.heap.size → Im ((m.mix m' (S x0) s2).cut (S x)) (S x) k → ∃ z, Valid l listed z ∧ Im (m.cut (S z)) (S z) k := by
    intro x hx
    rcases hvalid x hx with ⟨hm, hxv⟩ | ⟨hm, hix, hxl, hbetween⟩
    · have k12 : Keeps (S x0) s2 := by
        rcases hs with ⟨rfl, rfl⟩ | ⟨_, rfl, _⟩
        · exact T.keep1 hG hn.b hm
        · exact Keeps.refl _
      rcases Nat.lt_or_ge x0 x with hlt | hge
      · have kx : Keeps (S x0) (S x) := valid_keeps T hG hv0 hxv (Nat.le_of_lt hlt)
        have k2x : Keeps s2 (S x) := by
          rcases hs with ⟨rfl, rfl⟩ | ⟨_, rfl, _⟩
          · exact T.keeps hG hlt hxv.1 fun j bj h1 h2 hbj => valid_between hv0 hxv (by omega) h2 hbj
          · exact kx
        obtain ⟨r1, r2⟩ := (hI.rel x hxv).mix h' st hu hul kx k2x
        exact ⟨r1, fun k hk hik => ⟨x, hxv, r2 k hk hik⟩⟩
      · have kx : Keeps (S x) (S x0) := valid_keeps T hG hxv hv0 hge
        have hc := mix_cut_low (m := m) (m' := m') (s2 := s2) kx.n kx.nl
        rw [hc]
        refine ⟨(hI.rel x hxv).restoreE h' ⟨fun k hk => ?_, fun k hk => ?_⟩ (kx.trans k12), fun k _ hik => ⟨x, hxv, hik⟩⟩
        · have := kx.n; rw [st.ext.1 k (by omega)]; simp only [Mp.cut]; rw [if_pos hk, if_pos (by omega)]
        · have := kx.nl; rw [st.ext.2 k (by omega)]; simp only [Mp.cut]; rw [if_pos hk, if_pos (by omega)]
    · obtain ⟨rfl, rfl, hno, hnol⟩ := hup hm
      have k2x : Keeps (S (x0 + 1)) (S x) := T.keeps hG hix hxl fun j bj h1 h2 hbj => hbetween j bj (by omega) h2 hbj
      have hc : (m.mix m' (S x0) (S (x0 + 1))).cut (S x) = m' := by
        refine Eq.trans ?_ hcut2
        refine mp_ext (fun k => ?_) (fun k => ?_)
        · simp only [Mp.cut]
          by_cases h1 : k < (S (x0 + 1)).n
          · rw [if_pos h1, if_pos (Nat.lt_of_lt_of_le h1 k2x.n)]
          · rw [if_neg h1]; split
            · simp only [Mp.mix]; rw [if_neg (by omega)]; exact hno k (by omega)
            · rfl
        · simp only [Mp.cut]
          by_cases h1 : k < (S (x0 + 1)).nl
          · rw [if_pos h1, if_pos (Nat.lt_of_lt_of_le h1 k2x.nl)]
          · rw [if_neg h1]; split
            · simp only [Mp.mix]; rw [if_neg (by omega)]; exact hnol k (by omega)
            · rfl
      rw [hc]
      refine ⟨h'.later k2x, fun k hk hik => ⟨x0, hv0, st.im k hk ?_⟩⟩
      rcases hik with ⟨j, f, t, hj, hl⟩ | ⟨j, hj, hl⟩
      · exact .inl ⟨j, f, t, hj, by rw [← k2x.row j (h'.dom.1 j _ hj)]; exact hl⟩
      · exact .inr ⟨j, hj, by rw [← k2x.lp j (h'.dom.2 j _ hj)]; exact hl⟩
  have hval' : ∀ y, (∀ z, Valid l listed z → y ≤ z) → ∀ x, Valid l (listed.setIfInBounds i true) x → y ≤ x := by
    intro y hy x hx
    rcases hvalid x hx with ⟨_, hxv⟩ | ⟨hm, hix, _⟩
    · exact hy x hxv
    · have := hy i (valid_of C hI hn (.inl hm)); omega
  have hput : ∀ t, b.d ≠ some t → (a.put b.d v').tmps[t]? = a.tmps[t]? := by
    intro t ht
    cases hd : b.d with
    | none => rfl
    | some d => simp only [Act.put]; exact Array.getElem?_setIfInBounds_ne (fun e1 => ht (by rw [hd, e1]))
  refine ⟨by simpa using hI.size, ?_, ?_, fun x hx => (hrel x hx).1, ?_, ?_, ?_, ?_, ?_, ?_, ?_, ?_, Nat.le_trans hI.sz st.sz, st.os.trans hI.os_, st.tape.trans hI.tape, st.output.trans hI.output, ?_, ?_⟩
  · intro j o ho hj k hk
    rcases (hex j).1 hj with h | rfl
    · exact (hex k).2 (.inl (hI.clo j o ho h k hk))
    · exact (hex k).2 (.inl (hn.anc o ho k hk))
  · cases hm : modP b.p with
    | false =>
      refine ⟨x0, hv0.1, fun j bj hj hmj => ?_⟩
      have hne : j ≠ i := fun e1 => by subst e1; rw [hn.b] at hj; cases hj; rw [hm] at hmj; cases hmj
      rw [hex, ← hv0.2 j bj hj hmj]
      exact ⟨fun h => h.resolve_right hne, .inl⟩
    | true =>
      have hiv := valid_of C hI hn (.inl hm)
      refine ⟨i + 1, hi, fun j bj hj hmj => ?_⟩
      rw [hex, hiv.2 j bj hj hmj]; omega
  · intro k y hk
    simp only [Mp.mix] at hk
    split at hk
    · rename_i h1
      rcases hs with ⟨rfl, rfl⟩ | ⟨_, rfl, _⟩
      · exact .inr ⟨x0, (hex x0).2 (.inr rfl), hi, h1.1, h1.2⟩
      · omega
    · rcases hI.born k y hk with h | ⟨j, h1, h2, h3, h4⟩
      · exact .inl h
      · exact .inr ⟨j, (hex j).2 (.inl h1), h2, h3, h4⟩
  · intro k y hk
    simp only [Mp.mix] at hk
    split at hk
    · rename_i h1
      rcases hs with ⟨rfl, rfl⟩ | ⟨_, rfl, _⟩
      · exact .inr ⟨x0, (hex x0).2 (.inr rfl), hi, h1.1, h1.2⟩
      · omega
    · rcases hI.bornL k y hk with h | ⟨j, h1, h2, h3, h4⟩
      · exact .inl h
      · exact .inr ⟨j, (hex j).2 (.inl h1), h2, h3, h4⟩
  · intro k hk
    simp only [Mp.mix]; rw [if_neg (by omega)]; exact hI.base k hk
  · intro k hk
    simp only [Mp.mix]; rw [if_neg (by omega)]; exact hI.baseL k hk
  · intro t u hno hu'
    have hd : b.d ≠ some t := fun hd => hno i b hn.b hd ((hex i).2 (.inr rfl))
    obtain ⟨u', q1, q2⟩ := hI.envA t u (fun j bj hj hdj hx => hno j bj hj hdj ((hex j).2 (.inl hx))) hu'
    exact ⟨u', by rw [hput t hd]; exact q1, by rw [mix_cut_low h00.1 h00.2]; exact q2⟩
  · intro t u j bj hj hd hx hu'
    by_cases e1 : j = i
    · subst e1
      rw [hn.b] at hj; cases hj
      rw [hE, lk_setD, if_pos hd] at hu'
      cases hu'
      have hN : t < a.tmps.size := by rw [hI.tsz]; rw [hd] at hdst; simpa [dstOk] using hdst
      have ht : (a.put b.d v').tmps[t]? = some v' := by rw [hd]; simp [Act.put, hN]
      have hv2 : VR ((m.mix m' (S x0) s2).cut s2) v v' := by rw [hcut2]; exact hvr
      rcases hs with ⟨rfl, rfl⟩ | ⟨_, rfl, h3⟩
      · exact ⟨v', x0 + 1, ht, hi, hv2, .inl (Nat.le_refl _)⟩
      · exact ⟨v', x0, ht, hv0.1, hv2, h3.imp id (hval' x0)⟩
    · have hx' := ((hex j).1 hx).resolve_right e1
      obtain ⟨u', y, q1, q2, q3, q4⟩ := hI.envB t u j bj hj hd hx' hu'
      refine ⟨u', y, by rw [hput t (fun hd2 => C.nodup hj hn.b e1 hd hd2)]; exact q1, q2, q3.sub (cut_sub hsub (Nat.le_refl _) (Nat.le_refl _)), q4.imp id (hval' y)⟩
  · cases hd : b.d <;> simp [Act.put, hI.tsz]
  · cases hd : b.d <;> simp [Act.put, hI.dfs]
  · intro k hk hik
    rw [st.fr k (Nat.lt_of_lt_of_le hk hI.sz) (fun h => hik (hI.im x0 hv0 k hk h))]
    exact hI.fr k hk hik
  · intro x hx k hk hik
    obtain ⟨z, hz, hzi⟩ := (hrel x hx).2 k (Nat.lt_of_lt_of_le hk hI.sz) hik
    exact hI.im z hz k hk hzi
end
end Go.Proofs.YtakdnpafdadblaaGreat.EV
namespace Go.Proofs.YtakdnpafdadblaaGreat.EV
open Go
section
variable {c : Cfg} {W0 : World} {ro : Addr → Option Value} {K : H} {l : List I} {E : Nat → Env} {S : Nat → St} {os : Array Oper} {bs : List Nat} {N : Nat} {m0 m : Mp} {w0 w : World} {a0 a : Act} {listed : Array Bool}
theorem cOpers_get {ops : Array Oper} : ∀ {L : List Oper} {xs l : List I}, cOpers c N ops L xs = some l → l.length = L.length ∧ ∀ (i : Nat) (o : Oper), L[i]? = some o → ∃ x b, l[i]? = some b ∧ cOper c N ops o x = some b
  | [], [], l, h => by simp only [cOpers, Option.some.injEq] at h; subst h; exact ⟨rfl, fun i o ho => by simp at ho⟩
  | [], _ :: _, l, h => by simp [cOpers] at h
  | _ :: _, [], l, h => by simp [cOpers] at h
  | o0 :: L, x0 :: xs, l, h => by
    simp only [cOpers] at h
    split at h
    · rename_i i0 is h1 h2
      cases h
      obtain ⟨g1, g2⟩ := cOpers_get h2
      refine ⟨by simp [g1], fun i o ho => ?_⟩
      cases i with
      | zero => simp at ho; subst ho; exact ⟨x0, i0, rfl, h1⟩
      | succ i => simp at ho; simpa using g2 i o ho
    · cases h
theorem plainC_ptr {q : Addr} (h : plainC (.pointer (some q)) = true) : False := by simp [plainC] at h
theorem ld_ok {o : Op} {x : P} {n : Option Nat} {y : Operand} {ap : List Operand} (h : cOp c o x = some (.ld n y ap)) : okO y = true := by
  cases o <;> simp only [cOp, cNew, cBuild, cBuildS, cLd, cSt, cBin, cUn, cConv, cMkf, cMks, cSli, cFa, cFld, cIa, cIx, cCall] at h <;>
    repeat' (first | (cases h; done) | (obtain ⟨h1, h2⟩ := ok_eq h; cases h2; done) | (obtain ⟨h1, h2⟩ := ok_eq h; cases h2; simp only [Bool.and_eq_true] at h1; exact h1.1) | split at h)
theorem sla_ok {o : Op} {x : P} {k n : Nat} {y : Operand} {lo hi : Option Operand} (h : cOp c o x = some (.sla k n y lo hi)) : okO y = true := by
  cases o <;> simp only [cOp, cNew, cBuild, cBuildS, cLd, cSt, cBin, cUn, cConv, cMkf, cMks, cSli, cFa, cFld, cIa, cIx, cCall] at h <;>
    repeat' (first | (cases h; done) | (obtain ⟨h1, h2⟩ := ok_eq h; cases h2; done) | (obtain ⟨h1, h2⟩ := ok_eq h; cases h2; simp only [Bool.and_eq_true] at h1; exact h1.1.1.1.1) | split at h)
theorem row_stays {S : Nat → St} {l : List I} {x y k : Nat} (hxy : x ≤ y) (hy : y ≤ l.length) (h : ∀ j, x ≤ j → j < y → (S (j + 1)).get k = (S j).get k) : (S y).get k = (S x).get k := by
  induction hxy with
  | refl => rfl
  | @step y hxy ih =>
    rw [h y hxy (by omega)]
    exact ih (by omega) (fun j h1 h2 => h j h1 (by omega))
theorem draw_step (hc : c.Ok) (hro : RoOk ro W0) (hK : SimK c W0 K) (hG : GrK K) (T : Tr ro K l E S) (C : Ck os l bs) (hlen : l.length = os.size) (hI : Inv c W0 l E S os N m0 w0 a0 m listed a w) {i : Nat} {b x : I} (hn : Next1 os l listed i b) {o : Oper} (ho : os[i]? = some o) (hb : cOper c N os o x = some b)
    {r : Option Nat} {n : Nat} {next : Act → World → Prop} {Q : Exit → Act → World → Prop} (hnext : ∀ m' a' w', Inv c W0 l E S os N m0 w0 a0 m' (listed.setIfInBounds i true) a' w' → next a' w') : wpOpIn (Fr r) n c.G os Q i next a w := by
  obtain ⟨_, hbd, hdst⟩ := cOper_some hb
  have hi : i < l.length := lt_of_get hn.b
  obtain ⟨v, hE, hst, hparts⟩ := step_env (T i b hn.b) (e2 := keep (E i) (looksI b)) (fun t ht => by rw [lk_keep, if_pos ht])
  have rule : ∀ (x0 : Nat) (s2 : St), Valid l listed x0 → step ro K b (keep (E i) (looksI b)) (S x0) = some (setD b.d v (keep (E i) (looksI b)), s2) → EnvR (m.cut (S x0)) (keep (E i) (looksI b)) a.tmps →
      ((x0 = i ∧ s2 = S (i + 1)) ∨ (modP b.p = false ∧ s2 = S x0 ∧ (x0 ≤ i + 1 ∨ ∀ z, Valid l listed z → x0 ≤ z))) → wpOpIn (Fr r) n c.G os Q i next a w := by
    intro x0 s2 hv0 hs0 he0 hs
    unfold wpOpIn
    rw [ho]
    refine step_sim hc hro hK hG hb (hI.rel x0 hv0) he0 hs0 fun u hu => ?_
    intro m' v' w' h1 h2 h3
    have hEu : E (i + 1) = setD b.d u (E i) := by
      rw [← hbd] at hu
      rcases setD_inj hu with hd | hd
      · rw [hE, hd]; rfl
      · rw [hE, hd]
    rw [← hbd]
    exact hnext _ _ _ (inv_next T C hG hI hn hlen hEu (by rw [hbd]; exact hdst) hv0 hs h1 h2 h3)
  by_cases hv : Valid l listed i
  · refine rule i (S (i + 1)) hv hst (env_at T C hG hI hn fun y hyl hy => ?_) (.inl ⟨rfl, rfl⟩)
    have : y ≤ i := hy.elim id (fun h => h i hv)
    have hm := T.mono hG this hv.1
    exact cut_sub (Sub.refl _) hm.1 hm.2
  ·
    have hmod : modP b.p = false := by
      cases h : modP b.p with
      | false => rfl
      | true => exact absurd (valid_of C hI hn (.inl h)) hv
    have hmem : memP b.p = false := by
      cases h : memP b.p with
      | false => rfl
      | true => exact absurd (valid_of C hI hn (.inr h)) hv
    have other : ∀ x0, (∀ y q, ldX b.p = some y → opd (keep (E i) (looksI b)) y = some (.pointer (some q)) → q.spot.isSome = true → q.block < (S i).n → (S x0).get q.block = (S i).get q.block) →
        step ro K b (keep (E i) (looksI b)) (S x0) = some (setD b.d v (keep (E i) (looksI b)), S x0) := by
      intro x0 hx
      have hgk : guardOn (keep (E i) (looksI b)) b.g = guardOn (E i) b.g := by
        cases hgi : b.g with
        | none => rfl
        | some p => obtain ⟨t, bb⟩ := p; simp only [guardOn]; rw [lk_keep, if_pos (by simp [looksI, hgi])]
      rcases hparts with ⟨hg, hop⟩ | ⟨hg, rfl, _⟩
      · have hop2 : op1 ro K b.p (keep (E i) (looksI b)) (S i) = some (v, S (i + 1)) := by
          rw [op1_env (e := E i) (fun t ht => by rw [lk_keep, if_pos (by simp only [looksI]; exact List.mem_append_left _ ht)])]; exact hop
        have := op1_other hmod hmem hop2 (s2 := S x0) (fun y q hy hq hs => hx y q hy hq hs (ldX_live hy hop2 hq hs))
        simp only [step, hgk, hg, this]
      · simp only [step, hgk, hg]
    have hxE : ∀ y q, ldX b.p = some y → opd (keep (E i) (looksI b)) y = some (.pointer (some q)) → opd (E i) y = some (.pointer (some q)) := by
      intro y q hy hq
      rw [← hq]
      refine (opd_of (l := osP b.p) (fun t ht => by rw [lk_keep, if_pos (by simp only [looksI]; exact List.mem_append_left _ ht)]) ?_).symm
      cases hp : b.p <;> rw [hp] at hy <;> simp [ldX] at hy <;> subst hy <;> simp [osP]
    have hwhy : (∃ j bj, l[j]? = some bj ∧ modP bj.p = true ∧ Ex listed j ∧ i < j) ∨ (∃ j bj, l[j]? = some bj ∧ modP bj.p = true ∧ ¬ Ex listed j ∧ j < i) := by
      apply Classical.byContradiction
      intro hcon
      refine hv ⟨Nat.le_of_lt hi, fun j bj hj hmj => ⟨fun hx => ?_, fun hlt => ?_⟩⟩
      · rcases Nat.lt_trichotomy j i with h | rfl | h
        · exact h
        · exact absurd hx hn.no
        · exact absurd (.inl ⟨j, bj, hj, hmj, hx, h⟩) hcon
      · apply Classical.byContradiction
        intro hx
        exact hcon (.inr ⟨j, bj, hj, hmj, hx, hlt⟩)
    obtain ⟨xv, hxv⟩ := hI.val
    rcases hwhy with ⟨j, bj, hj, hmj, hxj, hij⟩ | ⟨j, bj, hj, hmj, hxj, hij⟩
    ·
      obtain ⟨x0, hx0, hmin⟩ := exists_min (P := Valid l listed) xv hxv
      have hlt : j < x0 := (hx0.2 j bj hj hmj).1 hxj
      refine rule x0 (S x0) hx0 (other x0 fun y q hy hq hs hlive => ?_) (env_at T C hG hI hn fun y hyl hy => ?_) (.inr ⟨hmod, rfl, .inr hmin⟩)
      · refine row_stays (l := l) (Nat.le_of_lt (Nat.lt_trans hij hlt)) hx0.1 fun k h1 h2 => ?_
        obtain ⟨bk, hbk⟩ := get_of_lt (l := l) (i := k) (Nat.lt_of_lt_of_le h2 hx0.1)
        have hqk : q.block < (S k).n := Nat.lt_of_lt_of_le hlive (T.mono hG h1 (Nat.le_of_lt (lt_of_get hbk))).1
        cases hmk : modP bk.p with
        | false => exact (T.keep1 hG hbk hmk).row _ hqk
        | true =>
          have hxk := (hx0.2 k bk hbk hmk).2 h2
          have hik : i < k := by
            rcases Nat.lt_or_ge i k with h | h
            · exact h
            · have : i = k := by omega
              subst this; exact absurd hxk hn.no
          rcases C.two hn.b hbk hik with h | h
          · exact absurd hxk (desc_no C hI hn h)
          · unfold chkPair at h
            rw [hmod, if_neg (by simp), if_pos hmk, hmem, if_neg (by simp)] at h
            simp only [hy, Bool.or_eq_true] at h
            rcases h with h | h
            · exact sep_keeps T C hG hn.b hbk hy (hxE y q hy hq) hs h hqk
            · exact new_keeps T C hG hbk h hlive hqk
      · have : y ≤ x0 := hy.elim (fun h => by omega) (fun h => h x0 hx0)
        have hm := T.mono hG this hx0.1
        exact cut_sub (Sub.refl _) hm.1 hm.2
    ·
      obtain ⟨x0, hx0, hmax⟩ := exists_max (P := Valid l listed) (N := l.length) (fun n hn => hn.1) hxv
      have hle : x0 ≤ j := by
        rcases Nat.lt_or_ge j x0 with h | h
        · exact absurd ((hx0.2 j bj hj hmj).2 h) hxj
        · exact h
      obtain ⟨b0, hb0⟩ := get_of_lt (l := l) (i := x0) (by omega)
      have hm0 : modP b0.p = true := by
        cases h : modP b0.p with
        | true => rfl
        | false =>
          have : Valid l listed (x0 + 1) := by
            refine ⟨by omega, fun k bk hk hmk => ?_⟩
            have hne : k ≠ x0 := fun e1 => by subst e1; rw [hb0] at hk; cases hk; rw [h] at hmk; cases hmk
            rw [hx0.2 k bk hk hmk]; omega
          have := hmax _ this; omega
      have hn0 : ¬ Ex listed x0 := fun h => Nat.lt_irrefl _ ((hx0.2 x0 b0 hb0 hm0).1 h)
      have below : ∀ k bk, l[k]? = some bk → Ex listed k → (modP bk.p = true ∨ memP bk.p = true) → k < x0 := by
        intro k bk hk hxk hmk
        rcases hmk with h | h
        · exact (hx0.2 k bk hk h).1 hxk
        · rcases Nat.lt_trichotomy k x0 with h1 | rfl | h1
          · exact h1
          · exact absurd hxk hn0
          · rcases C.two hb0 hk h1 with h2 | h2
            · exact absurd (C.clo (Ex listed) hI.clo k x0 h2 hxk) hn0
            · have := (chkPair_mm h2 hm0).2; rw [h] at this; cases this
      have allr : ∀ k y, m.r k = some y → k < (S x0).n := by
        intro k y hk
        rcases hI.born k y hk with h | ⟨d, hd, hdl, h1, h2⟩
        · exact Nat.lt_of_lt_of_le h (T.mono hG (Nat.zero_le _) hx0.1).1
        · obtain ⟨bd, hbd'⟩ := get_of_lt hdl
          have := below d bd hbd' hd (maker T hbd' (.inl (by omega)))
          exact Nat.lt_of_lt_of_le h2 (T.mono hG (x := d + 1) this hx0.1).1
      have alll : ∀ k y, m.l k = some y → k < (S x0).nl := by
        intro k y hk
        rcases hI.bornL k y hk with h | ⟨d, hd, hdl, h1, h2⟩
        · exact Nat.lt_of_lt_of_le h (T.mono hG (Nat.zero_le _) hx0.1).2
        · obtain ⟨bd, hbd'⟩ := get_of_lt hdl
          have := below d bd hbd' hd (maker T hbd' (.inr (by omega)))
          exact Nat.lt_of_lt_of_le h2 (T.mono hG (x := d + 1) this hx0.1).2
      have henv : EnvR (m.cut (S x0)) (keep (E i) (looksI b)) a.tmps := env_at T C hG hI hn fun y hyl hy =>
        ⟨fun k z hk => cut_r' (allr k z (cut_r hk).2) (cut_r hk).2, fun k z hk => cut_l' (alll k z (cut_l hk).2) (cut_l hk).2⟩
      refine rule x0 (S x0) hx0 (other x0 fun y q hy hq hs hlive => ?_) henv (.inr ⟨hmod, rfl, .inl (by omega)⟩)
      have hq0 : q.block < (S x0).n := by
        cases y with
        | tmp t =>
          obtain ⟨v', _, hv'⟩ := henv t _ hq
          generalize hpq : Value.pointer (some q) = pq at hv'
          cases hv' with
          | ptrO k o' b' f t' hk => cases hpq; exact (cut_r hk).1
          | ptrR => cases hpq; simp at hs
          | _ => cases hpq
        | const u =>
          obtain ⟨hcp, _, _⟩ := cOper_some hb
          cases hp : b.p <;> rw [hp] at hy hcp <;> simp [ldX] at hy
          · subst hy
            simp only [opd, Option.some.injEq] at hq
            subst hq
            exact (plainC_ptr (q := q) (ld_ok hcp)).elim
          · subst hy
            simp only [opd, Option.some.injEq] at hq
            subst hq
            exact (plainC_ptr (q := q) (sla_ok hcp)).elim
        | func f => simp [opd] at hq
        | global g => simp [opd] at hq
      refine (row_stays (l := l) (by omega) (Nat.le_of_lt hi) fun k h1 h2 => ?_).symm
      obtain ⟨bk, hbk⟩ := get_of_lt (l := l) (i := k) (by omega)
      have hqk : q.block < (S k).n := Nat.lt_of_lt_of_le hq0 (T.mono hG h1 (Nat.le_of_lt (lt_of_get hbk))).1
      cases hmk : modP bk.p with
      | false => exact (T.keep1 hG hbk hmk).row _ hqk
      | true =>
        have hxk : ¬ Ex listed k := fun h => by have := (hx0.2 k bk hbk hmk).1 h; omega
        rcases C.two hbk hn.b h2 with h | h
        · exact absurd (anc_ex C hI hn h (by omega)) hxk
        · unfold chkPair at h
          rw [if_pos hmk, hmod, if_neg (by simp), hmem, if_neg (by simp)] at h
          simp only [hy] at h
          exact sep_keeps T C hG hn.b hbk hy (hxE y q hy hq) hs h hqk
theorem filter_lt {p q : Nat → Bool} : ∀ {L : List Nat} {i : Nat}, i ∈ L → p i = true → q i = false → (∀ j, q j = true → p j = true) → (L.filter q).length < (L.filter p).length
  | [], i, h, _, _, _ => by cases h
  | x :: r, i, h, hp, hq, hpq => by
    have hle : ∀ {L : List Nat}, (L.filter q).length ≤ (L.filter p).length := by
      intro L
      induction L with
      | nil => simp
      | cons y L ih =>
        simp only [List.filter_cons]
        cases h1 : q y with
        | true => rw [hpq y h1]; simp; exact ih
        | false => cases h2 : p y <;> simp <;> omega
    simp only [List.filter_cons]
    rcases List.mem_cons.1 h with rfl | h
    · rw [hp, hq]; simp; have := hle (L := r); omega
    · have ih := filter_lt h hp hq hpq
      cases h1 : q x with
      | true => rw [hpq x h1]; simp; exact ih
      | false => cases h2 : p x <;> simp <;> omega
theorem inv_end (T : Tr ro K l E S) (C : Ck os l bs) (hG : GrK K) (hI : Inv c W0 l E S os N m0 w0 a0 m listed a w) (hall : ∀ i, i < l.length → Ex listed i) (hd0 : Dom (S 0).n (S 0).nl m0) :
    ∃ m', RC c W0 m' (S l.length) w ∧ Stp m0 (S 0) w0 m' (S l.length) w ∧ EnvR m' (E l.length) a.tmps := by
  have hv : Valid l listed l.length := ⟨Nat.le_refl _, fun j b hj _ => ⟨fun _ => lt_of_get hj, fun h => hall j h⟩⟩
  have hm := T.mono hG (Nat.zero_le _) (Nat.le_refl l.length)
  refine ⟨m.cut (S l.length), hI.rel _ hv, ⟨⟨fun k hk => ?_, fun k hk => ?_⟩, hm.1, hm.2, hI.sz, hI.os_, hI.tape, hI.output, hI.fr, hI.im _ hv⟩, ?_⟩
  · simp only [Mp.cut]; rw [if_pos (by omega)]; exact hI.base k hk
  · simp only [Mp.cut]; rw [if_pos (by omega)]; exact hI.baseL k hk
  · intro t v hv
    by_cases hw : ∃ (j : Nat) (bj : I), l[j]? = some bj ∧ bj.d = some t
    · obtain ⟨j, bj, hj, hd⟩ := hw
      rw [T.slot (x := j + 1) (lt_of_get hj) (Nat.le_refl _) (fun k bk hk _ hbk => C.nodup hj hbk (by omega) hd)] at hv
      obtain ⟨v', y, q1, q2, q3, _⟩ := hI.envB t v j bj hj hd (hall j (lt_of_get hj)) hv
      have hmy := T.mono hG q2 (Nat.le_refl _)
      exact ⟨v', q1, q3.sub (cut_sub (Sub.refl _) hmy.1 hmy.2)⟩
    · rw [T.slot (x := 0) (Nat.zero_le _) (Nat.le_refl _) (fun k bk _ _ hbk hdk => hw ⟨k, bk, hbk, hdk⟩)] at hv
      obtain ⟨v', q1, q2⟩ := hI.envA t v (fun k bk hk hdk _ => hw ⟨k, bk, hk, hdk⟩) hv
      exact ⟨v', q1, q2.sub (cut_sub (Sub.refl _) hm.1 hm.2)⟩
theorem draw_any (hc : c.Ok) (hro : RoOk ro W0) (hK : SimK c W0 K) (hG : GrK K) (T : Tr ro K l E S) (C : Ck os l bs) {xs : List I} (hl : cOpers c N os os.toList xs = some l) (hd0 : Dom (S 0).n (S 0).nl m0) {r : Option Nat} {n : Nat} {Q : Exit → Act → World → Prop}
    (hQ : ∀ m' a' w', RC c W0 m' (S l.length) w' → Stp m0 (S 0) w0 m' (S l.length) w' → EnvR m' (E l.length) a'.tmps → a'.tmps.size = N → a'.defers = a0.defers → Q .normal a' w') :
    ∀ (fuel : Nat) (m : Mp) (listed : Array Bool) (a : Act) (w : World), Inv c W0 l E S os N m0 w0 a0 m listed a w → ((List.range os.size).filter fun i => !listed.getD i true).length ≤ fuel → wpAnyIn (Fr r) n c.G .any os Q fuel listed a w := by
  have hget := cOpers_get hl
  have hlen : l.length = os.size := by rw [hget.1]; simp
  have done : ∀ (m : Mp) (listed : Array Bool) (a : Act) (w : World), Inv c W0 l E S os N m0 w0 a0 m listed a w → Region.ready .any os listed = [] → Q .normal a w := by
    intro m listed a w hI hr
    have hall : ∀ i, i < l.length → Ex listed i := by
      intro i hi
      apply Classical.byContradiction
      intro hno
      obtain ⟨j, ⟨hjl, hjn⟩, hmin⟩ := exists_min (P := fun j => j < l.length ∧ ¬ Ex listed j) i ⟨hi, hno⟩
      have hjs : j < os.size := by omega
      have : j ∈ Region.ready .any os listed := by
        refine mem_ready.2 ⟨?_, os[j], Array.getElem?_eq_getElem hjs, fun e he hbe => ?_⟩
        · have hjl' : j < listed.size := by rw [hI.size]; exact hjs
          simp only [Ex, Array.getD_eq_getD_getElem?, Array.getElem?_eq_getElem hjl', Option.getD_some, Bool.not_eq_true] at hjn ⊢
          exact hjn
        · have hedge : e.on ∈ edges os[j] := by
            simp only [edges, List.mem_map, List.mem_filter]
            exact ⟨e, ⟨by simpa using he, hbe⟩, rfl⟩
          have hlt := C.topo j os[j] (Array.getElem?_eq_getElem hjs) _ hedge
          apply Classical.byContradiction
          intro hh
          have := hmin e.on ⟨by omega, hh⟩
          omega
      rw [hr] at this; cases this
    obtain ⟨m', q1, q2, q3⟩ := inv_end T C hG hI hall hd0
    exact hQ m' a w q1 q2 q3 hI.tsz hI.dfs
  intro fuel
  induction fuel with
  | zero =>
    intro m listed a w hI hf
    have hnil : Region.ready .any os listed = [] := by
      apply List.eq_nil_iff_forall_not_mem.2
      intro j hj
      obtain ⟨h1, o, ho, _⟩ := mem_ready.1 hj
      have hjs : j < os.size := (Array.getElem?_eq_some_iff.1 ho).1
      have h2 := List.eq_nil_of_length_eq_zero (Nat.le_zero.1 hf)
      have : j ∈ (List.range os.size).filter fun i => !listed.getD i true := List.mem_filter.2 ⟨List.mem_range.2 hjs, by rw [h1]; rfl⟩
      rw [h2] at this; cases this
    exact ⟨hnil, done m listed a w hI hnil⟩
  | succ fuel ih =>
    intro m listed a w hI hf
    refine ⟨done m listed a w hI, fun i hi => ?_⟩
    obtain ⟨h1, o, ho, hall⟩ := mem_ready.1 hi
    have his : i < os.size := (Array.getElem?_eq_some_iff.1 ho).1
    have hil : i < listed.size := by rw [hI.size]; exact his
    obtain ⟨x, b, hb1, hb2⟩ := hget.2 i o (by simpa using ho)
    have hn : Next1 os l listed i b := by
      refine ⟨hb1, ?_, fun o' ho' k hk => ?_⟩
      · simp only [Ex, Array.getD_eq_getD_getElem?, Array.getElem?_eq_getElem hil, Option.getD_some] at h1 ⊢
        simp [h1]
      · rw [ho] at ho'; cases ho'
        simp only [edges, List.mem_map, List.mem_filter] at hk
        obtain ⟨e, ⟨he, hbe⟩, rfl⟩ := hk
        exact hall e (by simpa using he) hbe
    refine draw_step hc hro hK hG T C hlen hI hn ho hb2 fun m' a' w' hI' => ih m' _ a' w' hI' ?_
    have := filter_lt (p := fun i => !listed.getD i true) (q := fun j => !(listed.setIfInBounds i true).getD j true) (List.mem_range.2 his) (by simp only [h1]; rfl) (by simp [hil]) (fun j hj => by
      by_cases e1 : i = j
      · subst e1; simp [hil] at hj
      · simp only [getD_set_ne true e1] at hj; exact hj)
    omega
theorem draw_sim (hc : c.Ok) (hro : RoOk ro W0) (hK : SimK c W0 K) (hG : GrK K) {xs : List I} (hl : cOpers c N os os.toList xs = some l) (hchk : chk os l = true) {e e' : Env} {s s' : St} (hR : RC c W0 m s w) (hE : EnvR m e a.tmps) (hN : a.tmps.size = N)
    (h : ops ro K l e s = some (e', s')) {r : Option Nat} {n id : Nat} {Q : Exit → Act → World → Prop}
    (hQ : ∀ m' a' w', RC c W0 m' s' w' → Stp m s w m' s' w' → EnvR m' e' a'.tmps → a'.tmps.size = N → a'.defers = a.defers → Q .normal a' w') : (Code.region id os true).wpIn (Fr r) n c.G Q a w := by
  obtain ⟨E, S, T, rfl, rfl, rfl, rfl⟩ := trace_of h
  have C := ck_of hchk
  refine wpIn_region_any hc.mixed (draw_any hc hro hK hG T C hl (m0 := m) (w0 := w) (a0 := a) hR.dom hQ os.size m _ a _ ?_ ?_)
  · have hex : ∀ j, ¬ Ex (Array.replicate os.size false) j := by
      intro j hj
      unfold Ex at hj
      rw [Array.getD_eq_getD_getElem?, Array.getElem?_replicate] at hj
      split at hj <;> simp at hj
    have hcut : ∀ x, x ≤ l.length → m.cut (S x) = m := fun x hx => by
      have hm := T.mono hG (Nat.zero_le x) hx
      exact cut_of_dom ⟨fun k y hk => Nat.lt_of_lt_of_le (hR.dom.1 k y hk) hm.1, fun k y hk => Nat.lt_of_lt_of_le (hR.dom.2 k y hk) hm.2⟩
    have hkp : ∀ x, Valid l (Array.replicate os.size false) x → Keeps (S 0) (S x) := fun x hx => T.keeps hG (Nat.zero_le _) hx.1 fun j b _ hj hb => by
      cases hm : modP b.p with
      | false => rfl
      | true => exact absurd ((hx.2 j b hb hm).2 hj) (hex j)
    refine ⟨by simp, fun j o _ hj => absurd hj (hex j), ⟨0, Nat.zero_le _, fun j b _ _ => ⟨fun h => absurd h (hex j), fun h => by omega⟩⟩, fun x hx => ?_, fun k y hk => .inl (hR.dom.1 k y hk), fun k y hk => .inl (hR.dom.2 k y hk), fun _ _ => rfl, fun _ _ => rfl,
      fun t v _ hv => ?_, fun t v j b _ _ hx => absurd hx (hex j), hN, rfl, Nat.le_refl _, rfl, rfl, rfl, fun _ _ _ => rfl, fun x hx b _ hi => ?_⟩
    · rw [hcut x hx.1]; exact (R.later hR (hkp x hx)).drew
    · rw [hcut 0 (Nat.zero_le _)]; exact hE t v hv
    · rw [hcut x hx.1] at hi
      have k := hkp x hx
      rcases hi with ⟨j, f, t, hj, hl⟩ | ⟨j, hj, hl⟩
      · exact .inl ⟨j, f, t, hj, by rw [← k.row j (hR.dom.1 j _ hj)]; exact hl⟩
      · exact .inr ⟨j, hj, by rw [← k.lp j (hR.dom.2 j _ hj)]; exact hl⟩
  · exact Nat.le_trans (List.length_filter_le _ _) (by simp)
end
end Go.Proofs.YtakdnpafdadblaaGreat.EV
namespace Go.Proofs.YtakdnpafdadblaaGreat.EV
open Go
section
variable {c : Cfg} {W0 : World} {ro : Addr → Option Value} {K : H} {N : Nat} {m : Mp} {w : World} {a : Act}
theorem seq_ops (hc : c.Ok) (hro : RoOk ro W0) (hK : SimK c W0 K) (hG : GrK K) {os : Array Oper} {r : Option Nat} {n : Nat} {Q : Exit → Act → World → Prop} {e' : Env} {s' : St} : ∀ (L : List Oper) (xs l : List I) (i0 : Nat) (m : Mp) (e : Env) (s : St) (a : Act) (w : World),
    cOpers c N os L xs = some l → (∀ j, j < L.length → os[i0 + j]? = L[j]?) → ops ro K l e s = some (e', s') → RC c W0 m s w → EnvR m e a.tmps → a.tmps.size = N →
    (∀ m' a' w', RC c W0 m' s' w' → Stp m s w m' s' w' → EnvR m' e' a'.tmps → a'.tmps.size = N → a'.defers = a.defers → Q .normal a' w') →
    wpOpsIn (Fr r) n c.G os Q (List.range' i0 L.length) a w
  | [], xs, l, i0, m, e, s, a, w, hl, hos, h, hR, hE, hN, hQ => by
    cases xs with
    | nil =>
      simp only [cOpers, Option.some.injEq] at hl; subst hl
      simp only [ops, Option.some.injEq, Prod.mk.injEq] at h
      obtain ⟨rfl, rfl⟩ := h
      exact hQ m a w hR (Stp.refl _ _ _) hE hN rfl
    | cons x xs => simp [cOpers] at hl
  | o :: L, xs, l, i0, m, e, s, a, w, hl, hos, h, hR, hE, hN, hQ => by
    cases xs with
    | nil => simp [cOpers] at hl
    | cons x xs =>
      simp only [cOpers] at hl
      split at hl
      · rename_i b bs h1 h2
        cases hl
        simp only [ops] at h
        split at h
        · rename_i e1 s1 hst
          obtain ⟨_, hbd, hdst⟩ := cOper_some h1
          have ho : os[i0]? = some o := by have := hos 0 (by simp); simpa using this
          simp only [List.length_cons, List.range'_succ, wpOpsIn, ho]
          refine step_sim hc hro hK hG h1 hR hE hst fun v hv => ?_
          intro m' v' w' q1 q2 q3
          obtain ⟨g1, g2, g3⟩ := hE.setD hR.dom q2.ext q3 hN hdst
          refine seq_ops hc hro hK hG L xs bs (i0 + 1) m' e1 s1 (a.put o.dst v') w' h2 (fun j hj => ?_) h q1 (by rw [hv]; exact g1) g2 (fun m2 a2 w2 p1 p2 p3 p4 p5 => hQ m2 a2 w2 p1 (q2.trans p2) p3 p4 (p5.trans g3))
          have := hos (j + 1) (by simp; omega)
          rw [show i0 + 1 + j = i0 + (j + 1) by omega]; simpa using this
        · cases h
      · cases hl
theorem seq_sim (hc : c.Ok) (hro : RoOk ro W0) (hK : SimK c W0 K) (hG : GrK K) {os : Array Oper} {xs l : List I} (hl : cOpers c N os os.toList xs = some l) {e e' : Env} {s s' : St} (hR : RC c W0 m s w) (hE : EnvR m e a.tmps) (hN : a.tmps.size = N)
    (h : ops ro K l e s = some (e', s')) {r : Option Nat} {n id : Nat} {Q : Exit → Act → World → Prop}
    (hQ : ∀ m' a' w', RC c W0 m' s' w' → Stp m s w m' s' w' → EnvR m' e' a'.tmps → a'.tmps.size = N → a'.defers = a.defers → Q .normal a' w') : (Code.region id os false).wpIn (Fr r) n c.G Q a w := by
  refine wpIn_region ?_
  rw [List.range_eq_range', show os.size = os.toList.length by simp]
  exact seq_ops hc hro hK hG os.toList xs l 0 m e s a w hl (fun j hj => by simp) h hR hE hN hQ
def DefOk (base : Nat) (a : Act) (w : World) : Prop :=
  ∃ Ds : List Nat, Ds.Nodup ∧ a.defers = Ds.map (fun D => { target := .collected D, args := #[] }) ∧ ∀ D ∈ Ds, base ≤ D ∧ w.heap[D]? = some (.deferred (some []))
theorem notIm {CR : Nat → Code → C → Prop} {s : St} (hR : R W0 CR m s w) {D : Nat} {x : Option (List Deferred)} (hD : w.heap[D]? = some (.deferred x)) : ¬ Im m s D := by
  rintro (⟨k, f, t, hk, hl⟩ | ⟨l, hl, hr⟩)
  · obtain ⟨row, hrow⟩ := Option.isSome_iff_exists.1 hl
    obtain ⟨_, cs, e, h1, _⟩ := hR.row k D f t hk row hrow
    rw [hD] at h1; cases h1
  · obtain ⟨r, hr⟩ := Option.isSome_iff_exists.1 hr
    obtain ⟨_, L, h1, _⟩ := hR.lp l D hl r hr
    rw [hD] at h1; cases h1
theorem DefOk.step {base : Nat} {a' : Act} {w' : World} {s s' : St} {m' : Mp} (h : DefOk base a w) (hR : RC c W0 m s w) (st : Stp m s w m' s' w') (hd : a'.defers = a.defers) : DefOk base a' w' := by
  obtain ⟨Ds, h1, h2, h3⟩ := h
  refine ⟨Ds, h1, hd.trans h2, fun D hD => ⟨(h3 D hD).1, ?_⟩⟩
  have h4 := (h3 D hD).2
  rw [st.fr D (Array.getElem?_eq_some_iff.1 h4).1 (notIm hR h4)]; exact h4
theorem R.poke {CR : Nat → Code → C → Prop} {s : St} (hR : R W0 CR m s w) {b : Nat} (o : Obj) (hb : W0.heap.size ≤ b) (hi : ¬ Im m s b) : R W0 CR m s (w.putObj b o) := by
  have hheap : ∀ j, j ≠ b → (w.putObj b o).heap[j]? = w.heap[j]? := fun j hj => World.putObj_heap_other hj
  refine ⟨by simpa using hR.size, fun k hk => (hheap k (by omega)).trans (hR.old k hk), hR.dom, fun k b2 f t hk row hrow => ?_, hR.inj, fun l b2 hl r hr => ?_, hR.linj⟩
  · obtain ⟨h1, h2⟩ := hR.row k b2 f t hk row hrow
    exact ⟨h1, h2.sub (Sub.refl _) (hheap b2 (fun e => hi (.inl ⟨k, f, t, e ▸ hk, by rw [hrow]; rfl⟩)))⟩
  · obtain ⟨h1, L, h2, h3⟩ := hR.lp l b2 hl r hr
    exact ⟨h1, L, (hheap b2 (fun e => hi (.inr ⟨l, e ▸ hl, by rw [hr]; rfl⟩))).trans h2, h3⟩
theorem Stp.poke {m' : Mp} {s s' : St} {w' : World} (st : Stp m s w m' s' w') {b : Nat} (o : Obj) (hb : w.heap.size ≤ b) : Stp m s w m' s' (w'.putObj b o) :=
  ⟨st.ext, st.n, st.nl, by simpa using st.sz, st.os, st.tape, st.output, fun k hk hi => (World.putObj_heap_other (by omega)).trans (st.fr k hk hi), st.im⟩
def exitOf : Out → Exit
  | .nrm => .normal
  | .exi i => .exit i
  | .ret => .ret
theorem wpIn_scope {P : Program} {F : Fence} {n : Nat} {b : Code} {Q : Exit → Act → World → Prop} (hg : ∀ l a w, ¬ Q (.goto l) a w) (h : b.wpIn F n P Q a w) : (Code.scope b).wpIn F n P Q a w := by
  intro fr k cs hro hb hr
  have h0 : (lone (fr.atR a (.code (.scope b) :: k)) cs w).fenced P F := fenced_calm hb hr rfl
  have hs : Go.step P (lone (fr.atR a (.code (.scope b) :: k)) cs w) = .next (lone (fr.atR a (.code b :: .inScope b :: k)) cs w) := step_lone_go (by simp [stepG, stepG.exec, Frame.atR])
  obtain ⟨e, a1, w1, hq, harr⟩ := h fr (.inScope b :: k) cs hro hb hr
  cases e with
  | normal =>
    have hs2 : Go.step P (lone (fr.atR a1 (.inScope b :: k)) cs w1) = .next (lone (fr.atR a1 k) cs w1) := step_lone_go (by simp [stepG, stepG.exec, Frame.atR])
    exact ⟨.normal, a1, w1, hq, .head h0 hs (StepsIn.trans harr (.one (fenced_calm hb hr rfl) hs2))⟩
  | exit id =>
    have hx : exitTo id (.inScope b :: k) = exitTo id k := by simp [exitTo]
    exact ⟨.exit id, a1, w1, hq, fun k' hk => .head h0 hs (harr.1 k' (by rw [hx]; exact hk)), fun hr' hk => let ⟨k₁, h1, h2⟩ := harr.2 hr' (by rw [hx]; exact hk); ⟨k₁, h1, .head h0 hs h2⟩⟩
  | goto l => exact absurd hq (hg l a1 w1)
  | ret => exact ⟨_, a1, w1, hq, .of_steps (.one h0 hs) harr⟩
  | panic ch => exact ⟨_, a1, w1, hq, .of_steps (.one h0 hs) harr⟩
  | outgrown => exact ⟨_, a1, w1, hq, .of_steps (.one h0 hs) harr⟩
def CodeQ (c : Cfg) (W0 : World) (N base : Nat) (m : Mp) (s : St) (w : World) (a : Act) (rd : Bool) (s' : St) (e' : Env) (a' : Act) (w' : World) : Prop :=
  ∃ m', RC c W0 m' s' w' ∧ Stp m s w m' s' w' ∧ EnvR m' e' a'.tmps ∧ a'.tmps.size = N ∧ DefOk base a' w' ∧ (rd = true → a'.defers = a.defers)
theorem CodeQ.trans {base : Nat} {rd : Bool} {s s1 s2 : St} {w1 w2 : World} {a1 a2 : Act} {e2 : Env} {m1 : Mp} (st : Stp m s w m1 s1 w1) (hd : rd = true → a1.defers = a.defers) (h : CodeQ c W0 N base m1 s1 w1 a1 rd s2 e2 a2 w2) : CodeQ c W0 N base m s w a rd s2 e2 a2 w2 := by
  obtain ⟨m', h1, h2, h3, h4, h5, h6⟩ := h
  exact ⟨m', h1, st.trans h2, h3, h4, h5, fun hr => (h6 hr).trans (hd hr)⟩
def CodeP (c : Cfg) (W0 : World) (ro : Addr → Option Value) (K : H) (mm : Nat) (code : Code) : Prop :=
  ∀ (rd : Bool) (N base : Nat) (y x : C) (m : Mp) (e : Env) (s : St) (o : Out) (e' : Env) (s' : St) (a : Act) (w : World) (r : Option Nat) (n : Nat) (Q : Exit → Act → World → Prop),
    cCode c rd N code y = some x → EV.code ro K mm x e s = some (o, e', s') → RC c W0 m s w → EnvR m e a.tmps → a.tmps.size = N → (rd = false → r = none) → DefOk base a w → base ≤ w.heap.size → W0.heap.size ≤ base → (∀ l a w, ¬ Q (.goto l) a w) →
    (∀ a' w', CodeQ c W0 N base m s w a rd s' e' a' w' → Q (exitOf o) a' w') → code.wpIn (Fr r) n c.G Q a w
theorem code_loop {mm : Nat} {b : Code} (hb : CodeP c W0 ro K mm b) : CodeP c W0 ro K mm (.loop b) := by
  intro rd N base y x m e s o e' s' a w r n Q hx h hR hE hN hr hD hbase hW hg hQ
  cases y with
  | lop y =>
    simp only [cCode] at hx
    split at hx
    · rename_i xb hxb
      cases hx
      simp only [code] at h
      let J : Nat → Act → World → Prop := fun k a1 w1 => ∃ e1 s1 m1, loopN (fun e s => code ro K mm xb e s) k e1 s1 = some (o, e', s') ∧ RC c W0 m1 s1 w1 ∧ Stp m s w m1 s1 w1 ∧ EnvR m1 e1 a1.tmps ∧ a1.tmps.size = N ∧ DefOk base a1 w1 ∧ (rd = true → a1.defers = a.defers)
      let μ : Act → World → Nat := fun a1 w1 => Classical.epsilon fun k => J k a1 w1 ∧ ∀ y, J y a1 w1 → k ≤ y
      have hμ : ∀ a1 w1 k, J k a1 w1 → J (μ a1 w1) a1 w1 ∧ μ a1 w1 ≤ k := by
        intro a1 w1 k hk
        have := Classical.epsilon_spec (exists_min (P := fun k => J k a1 w1) k hk)
        exact ⟨this.1, this.2 k hk⟩
      refine wpIn_loop (fun a1 w1 => ∃ k, J k a1 w1) μ ⟨mm, e, s, m, h, hR, Stp.refl _ _ _, hE, hN, hD, fun _ => rfl⟩ ?_
      rintro a1 w1 ⟨k, hk⟩
      obtain ⟨hJ, _⟩ := hμ a1 w1 k hk
      generalize μ a1 w1 = q at hJ
      obtain ⟨e1, s1, m1, h1, h2, h3, h4, h5, h6, h7⟩ := hJ
      cases q with
      | zero => simp [loopN] at h1
      | succ q =>
        simp only [loopN] at h1
        split at h1
        · rename_i e2 s2 h8
          refine hb rd N base y xb m1 e1 s1 .nrm e2 s2 a1 w1 r n _ hxb h8 h2 h4 h5 hr h6 (Nat.le_trans hbase h3.sz) hW (fun l a w => by simp [Exit.then]; exact hg l a w) ?_
          intro a2 w2 hq
          obtain ⟨m2, g1, g2, g3, g4, g5, g6⟩ := hq
          have hJ2 : J q a2 w2 := ⟨e2, s2, m2, h1, g1, h3.trans g2, g3, g4, g5, fun hh => (g6 hh).trans (h7 hh)⟩
          exact ⟨⟨q, hJ2⟩, Nat.lt_succ_of_le (hμ a2 w2 q hJ2).2⟩
        · rename_i hno
          refine hb rd N base y xb m1 e1 s1 o e' s' a1 w1 r n _ hxb h1 h2 h4 h5 hr h6 (Nat.le_trans hbase h3.sz) hW (fun l a w => by simp [Exit.then]; exact hg l a w) ?_
          intro a2 w2 hq
          have := hQ a2 w2 (hq.trans h3 h7)
          cases o with
          | nrm => exact absurd h1 (hno e' s')
          | exi i => exact this
          | ret => exact this
    · cases hx
  | _ => simp [cCode] at hx
end
end Go.Proofs.YtakdnpafdadblaaGreat.EV
namespace Go.Proofs.YtakdnpafdadblaaGreat.EV
open Go
section
variable {c : Cfg} {W0 : World} {ro : Addr → Option Value} {K : H} {mm : Nat}
theorem EnvR.keep {m : Mp} {e : Env} {t : Array Value} (h : EnvR m e t) (l : List Nat) : EnvR m (EV.keep e l) t := fun i v hv => by
  rw [lk_keep] at hv
  split at hv
  · exact h i v hv
  · cases hv
theorem code_rf (hK : SimK c W0 K) {f : Operand} {ps : Array Tmp} {A B : Code} : CodeP c W0 ro K mm (.rangeFunc f ps A B) := by
  intro rd N base y x m e s o e' s' a w r n Q hx h hR hE hN hr hD hbase hW hg hQ
  cases y with
  | rf f0 ps0 ya yb =>
    simp only [cCode] at hx
    split at hx
    · rename_i hcond
      simp only [Bool.and_eq_true, Bool.not_eq_eq_eq_not, Bool.not_true] at hcond
      obtain ⟨⟨hrd, hok⟩, hps⟩ := hcond
      split at hx
      · rename_i xa xb hxa hxb
        cases hx
        obtain rfl := hr hrd
        simp only [code] at h
        split at h
        · rename_i g fs cs hv
          split at h
          · rename_i r1 s1 hk
            have hfv := opd_sim hE hok hv
            obtain ⟨c', hf', hfs⟩ : ∃ c', a.eval f = .func (.func g) #[] c' ∧ fs = #[] := by
              generalize a.eval f = u at hfv
              generalize hq : Value.func (.func g) fs cs = q at hfv
              cases hfv with
              | fn g0 c0 c' h1 h2 => cases hq; exact ⟨c', rfl, rfl⟩
              | yl => cases hq
              | _ => cases hq
            have hD1 : ((w.alloc (.deferred (some []))).alloc (.loop default)).heap[w.heap.size]? = some (.deferred (some [])) := by
              rw [heap_alloc_lt _ _ (by simp)]; exact heap_alloc_at w _
            refine wpIn_rangeFunc fun fn _ => ?_
            have hL : LoopR (CRc c) m { env := e, ps := ps.toList, asg := xa, body := xb, st := .ready, pend := .nrm } { state := .ready, pending := none, fn, tmps := a.tmps, params := ps, assign := A, body := B, defers := w.heap.size } :=
              ⟨by simp, ⟨ya, by simp only [hN]; exact hxa⟩, ⟨yb, by simp only [hN]; exact hxb⟩, hE, rfl, rfl, fun t ht => by simp only [hN]; simpa using List.all_eq_true.1 hps t ht⟩
            obtain ⟨hR1, hS1⟩ := R.newLoop hR (D := .deferred (some [])) (fun _ _ _ h => by cases h) hL
            obtain ⟨d, nx, k1, k2, k3, k4⟩ := hK _ _ _ _ _ _ _ (a.eval f) [.func (.yield (w.heap.size + 1)) #[] #[]] hk hR1 (hfv.ext hR.dom hS1.ext) (.cons (.yl s.nl (w.heap.size + 1) (by simp [Mp.addL])) (.nil _))
            obtain ⟨gf, args, rfl⟩ := k4 g #[] c' hf'
            refine ⟨w.heap.size + 1, [{ target := .collected w.heap.size, args := #[] }], _, d, _, gf, args, _, run_enterLoop_outer fn a.tmps ps A B, ?_, fun _ _ => trivial, k2, fun hh => by simp [Fence.wide] at hh, CallsIn.mono (k3 (n - 1)) fun ed w3 hp => ?_⟩
            · simp only [resolve]
              simpa [Act.eval] using k1
            · cases ed with
              | returned r' =>
                obtain ⟨m3, p1, p2, p3⟩ := hp
                unfold endLoop at h
                split at h
                · rename_i rr hrr
                  have hm3 : m3.l s.nl = some (w.heap.size + 1) := by
                    rw [p2.ext.2 s.nl (by simp [newLoop])]; simp [Mp.addL]
                  obtain ⟨hB, L, hLh, hLR⟩ := p1.lp s.nl _ hm3 rr hrr
                  have hfin : rr.st ≠ .busy ∧ o = rr.pend ∧ e' = e ∧ s' = { s1 with lps := ldel s1.lps s.nl } := by
                    split at h
                    · cases h
                    · rename_i hst
                      simp only [Option.some.injEq, Prod.mk.injEq] at h
                      exact ⟨hst, h.1.symm, h.2.1.symm, h.2.2.symm⟩
                  obtain ⟨hnb, rfl, rfl, rfl⟩ := hfin
                  have hne : L.state ≠ .busy := by
                    rw [hLR.st]; cases hst : rr.st <;> simp [lsOf]; exact absurd hst hnb
                  have hrun := run_endLoop (P := c.G) hLh hne
                  obtain ⟨q1, q2⟩ := p1.dropLoop s.nl
                  have hni : ¬ Im m3 { s1 with lps := ldel s1.lps s.nl } (w.heap.size + 1) := by
                    rintro (⟨k, f2, t2, hk2, hl2⟩ | ⟨l2, hl2, hr2⟩)
                    · obtain ⟨row, hrow⟩ := Option.isSome_iff_exists.1 hl2
                      obtain ⟨_, cs2, e2, h1, _⟩ := q1.row k _ f2 t2 hk2 row hrow
                      rw [hLh] at h1; cases h1
                    · obtain ⟨rx, hrx⟩ := Option.isSome_iff_exists.1 hr2
                      simp only [lget_ldel] at hrx
                      split at hrx
                      · cases hrx
                      · rename_i hne2
                        exact hne2 (p1.linj l2 s.nl _ hl2 hm3 (by rw [hrx]; rfl) (by rw [hrr]; rfl))
                  have hR4 := q1.poke (.loop { L with state := .exhausted }) hB hni
                  have hS4 : Stp m s w m3 { s1 with lps := ldel s1.lps s.nl } (w3.putObj (w.heap.size + 1) (.loop { L with state := .exhausted })) := ((hS1.trans p2).trans q2).poke _ (Nat.le_succ _)
                  have hD4 : DefOk base { a with defers := { target := .collected w.heap.size, args := #[] } :: a.defers } (w3.putObj (w.heap.size + 1) (.loop { L with state := .exhausted })) := by
                    obtain ⟨Ds, d1, d2, d3⟩ := hD.step hR hS4 (a' := a) rfl
                    obtain ⟨Ds0, e1, e2, e3⟩ := hD
                    have hDs : Ds = Ds0 := by
                      have := d2.symm.trans e2
                      have hinj := congrArg (List.map fun d : Deferred => match d.target with | .collected D => D | _ => 0) this
                      simpa [List.map_map, Function.comp_def] using hinj
                    subst hDs
                    refine ⟨w.heap.size :: Ds, List.nodup_cons.2 ⟨fun hmem => ?_, d1⟩, by simp [d2], fun D hDm => ?_⟩
                    · have := (Array.getElem?_eq_some_iff.1 (e3 _ hmem).2).1; omega
                    · rcases List.mem_cons.1 hDm with rfl | hDm
                      · refine ⟨hbase, ?_⟩
                        rw [World.putObj_heap_other (by omega)]
                        have h1 : ((w.alloc (.deferred (some []))).alloc (.loop { state := .ready, pending := none, fn, tmps := a.tmps, params := ps, assign := A, body := B, defers := w.heap.size })).heap[w.heap.size]? = some (.deferred (some [])) := by
                          rw [heap_alloc_lt _ _ (by simp)]; exact heap_alloc_at w _
                        rw [p2.fr _ (Array.getElem?_eq_some_iff.1 h1).1 (notIm hR1 h1)]; exact h1
                      · exact d3 D hDm
                  have hcq : CodeQ c W0 N base m s w a rd { s1 with lps := ldel s1.lps s.nl } e' { a with defers := { target := .collected w.heap.size, args := #[] } :: a.defers } (w3.putObj (w.heap.size + 1) (.loop { L with state := .exhausted })) :=
                    ⟨m3, hR4, hS4, hE.ext hR.dom hS4.ext, hN, hD4, fun hh => by rw [hrd] at hh; cases hh⟩
                  have hfinal := hQ _ _ hcq
                  refine ⟨L.pending, _, hrun, ?_⟩
                  clear hcq hD4 hS4 hR4 hrun
                  rw [hLR.pend] at hfinal ⊢
                  cases hpd : rr.pend with
                  | nrm => rw [hpd] at hfinal; exact hfinal
                  | exi i => rw [hpd] at hfinal; exact wpIn_exit hfinal
                  | ret => rw [hpd] at hfinal; exact wpIn_ret hfinal
                · cases h
              | _ => exact hp.elim
          · cases h
        · cases h
      · cases hx
    · cases hx
  | _ => simp [cCode] at hx
theorem code_sim (hc : c.Ok) (hro : RoOk ro W0) (hK : SimK c W0 K) (hG : GrK K) : ∀ code : Code, CodeP c W0 ro K mm code
  | .skip => by
    intro rd N base y x m e s o e' s' a w r n Q hx h hR hE hN hr hD hbase hW hg hQ
    cases y <;> simp [cCode] at hx
    subst hx
    simp only [code, Option.some.injEq, Prod.mk.injEq] at h
    obtain ⟨rfl, rfl, rfl⟩ := h
    exact wpIn_skip (hQ a w ⟨m, hR, Stp.refl _ _ _, hE, hN, hD, fun _ => rfl⟩)
  | .label l => by
    intro rd N base y x m e s o e' s' a w r n Q hx h hR hE hN hr hD hbase hW hg hQ
    cases y <;> simp [cCode] at hx
    subst hx
    simp only [code, Option.some.injEq, Prod.mk.injEq] at h
    obtain ⟨rfl, rfl, rfl⟩ := h
    exact wpIn_label (hQ a w ⟨m, hR, Stp.refl _ _ _, hE, hN, hD, fun _ => rfl⟩)
  | .region id os draw => by
    intro rd N base y x m e s o e' s' a w r n Q hx h hR hE hN hr hD hbase hW hg hQ
    cases y with
    | reg is live =>
      simp only [cCode] at hx
      split at hx
      · rename_i l hl
        split at hx
        · rename_i hck
          cases hx
          simp only [code] at h
          split at h
          · rename_i e1 s1 h1
            simp only [Option.some.injEq, Prod.mk.injEq] at h
            obtain ⟨rfl, rfl, rfl⟩ := h
            have fin : ∀ m' a' w', RC c W0 m' s1 w' → Stp m s w m' s1 w' → EnvR m' e1 a'.tmps → a'.tmps.size = N → a'.defers = a.defers → Q .normal a' w' :=
              fun m' a' w' q1 q2 q3 q4 q5 => hQ a' w' ⟨m', q1, q2, q3.keep live, q4, hD.step hR q2 q5, fun _ => q5⟩
            cases draw with
            | false => exact seq_sim hc hro hK hG hl hR hE hN h1 fin
            | true => exact draw_sim hc hro hK hG hl (by simpa using hck) hR hE hN h1 fin
          · cases h
        · cases hx
      · cases hx
    | _ => simp [cCode] at hx
  | .seq A B => by
    intro rd N base y x m e s o e' s' a w r n Q hx h hR hE hN hr hD hbase hW hg hQ
    cases y with
    | seq ya yb =>
      simp only [cCode] at hx
      split at hx
      · rename_i xa xb hxa hxb
        cases hx
        simp only [code] at h
        refine wpIn_seq ?_
        split at h
        · rename_i e1 s1 h1
          refine code_sim hc hro hK hG A rd N base ya xa m e s .nrm e1 s1 a w r n _ hxa h1 hR hE hN hr hD hbase hW (fun l a w hh => hg l a w hh) fun a1 w1 hq => ?_
          obtain ⟨m1, g1, g2, g3, g4, g5, g6⟩ := hq
          exact code_sim hc hro hK hG B rd N base yb xb m1 e1 s1 o e' s' a1 w1 r n Q hxb h g1 g3 g4 hr g5 (Nat.le_trans hbase g2.sz) hW hg fun a2 w2 hq2 => hQ a2 w2 (hq2.trans g2 g6)
        · rename_i hno
          refine code_sim hc hro hK hG A rd N base ya xa m e s o e' s' a w r n _ hxa h hR hE hN hr hD hbase hW (fun l a w hh => hg l a w hh) fun a1 w1 hq => ?_
          have := hQ a1 w1 hq
          cases o with
          | nrm => exact absurd h (hno e' s')
          | exi i => exact this
          | ret => exact this
      · cases hx
    | _ => simp [cCode] at hx
  | .cond k A B => by
    intro rd N base y x m e s o e' s' a w r n Q hx h hR hE hN hr hD hbase hW hg hQ
    cases y with
    | cnd k0 ya yb =>
      simp only [cCode] at hx
      split at hx
      · rename_i hok
        split at hx
        · rename_i xa xb hxa hxb
          cases hx
          simp only [code] at h
          split at h
          · rename_i hk
            exact wpIn_cond_true (boolR (opd_sim hE hok hk)) (code_sim hc hro hK hG A rd N base ya xa m e s o e' s' a w r n Q hxa h hR hE hN hr hD hbase hW hg hQ)
          · rename_i hk
            exact wpIn_cond_false (boolR (opd_sim hE hok hk)) (code_sim hc hro hK hG B rd N base yb xb m e s o e' s' a w r n Q hxb h hR hE hN hr hD hbase hW hg hQ)
          · cases h
        · cases hx
      · cases hx
    | _ => simp [cCode] at hx
  | .block id B => by
    intro rd N base y x m e s o e' s' a w r n Q hx h hR hE hN hr hD hbase hW hg hQ
    cases y with
    | blk i0 yb =>
      simp only [cCode] at hx
      split at hx
      · rename_i xb hxb
        cases hx
        simp only [code] at h
        refine wpIn_block ?_
        split at h
        · rename_i i e1 s1 h1
          refine code_sim hc hro hK hG B rd N base yb xb m e s (.exi i) e1 s1 a w r n _ hxb h1 hR hE hN hr hD hbase hW (fun l a w hh => hg l a w hh) fun a1 w1 hq => ?_
          simp only [exitOf, Exit.inBlock]
          split at h
          · rename_i hi
            simp only [Option.some.injEq, Prod.mk.injEq] at h
            obtain ⟨rfl, rfl, rfl⟩ := h
            rw [if_pos hi]; exact hQ a1 w1 hq
          · rename_i hi
            simp only [Option.some.injEq, Prod.mk.injEq] at h
            obtain ⟨rfl, rfl, rfl⟩ := h
            rw [if_neg hi]; exact hQ a1 w1 hq
        · rename_i hno
          refine code_sim hc hro hK hG B rd N base yb xb m e s o e' s' a w r n _ hxb h hR hE hN hr hD hbase hW (fun l a w hh => hg l a w hh) fun a1 w1 hq => ?_
          have := hQ a1 w1 hq
          cases o with
          | nrm => exact this
          | exi i => exact absurd h (hno i e' s')
          | ret => exact this
      · cases hx
    | _ => simp [cCode] at hx
  | .loop B => code_loop (code_sim hc hro hK hG B)
  | .rangeFunc f ps A B => code_rf hK
  | .exit i => by
    intro rd N base y x m e s o e' s' a w r n Q hx h hR hE hN hr hD hbase hW hg hQ
    cases y <;> simp [cCode] at hx
    subst hx
    simp only [code, Option.some.injEq, Prod.mk.injEq] at h
    obtain ⟨rfl, rfl, rfl⟩ := h
    exact wpIn_exit (hQ a w ⟨m, hR, Stp.refl _ _ _, hE, hN, hD, fun _ => rfl⟩)
  | .ret => by
    intro rd N base y x m e s o e' s' a w r n Q hx h hR hE hN hr hD hbase hW hg hQ
    cases y <;> simp [cCode] at hx
    subst hx
    simp only [code, Option.some.injEq, Prod.mk.injEq] at h
    obtain ⟨rfl, rfl, rfl⟩ := h
    exact wpIn_ret (hQ a w ⟨m, hR, Stp.refl _ _ _, hE, hN, hD, fun _ => rfl⟩)
  | .scope B => by
    intro rd N base y x m e s o e' s' a w r n Q hx h hR hE hN hr hD hbase hW hg hQ
    have hx' : cCode c rd N B y = some x := by cases y <;> simpa [cCode] using hx
    exact wpIn_scope hg (code_sim hc hro hK hG B rd N base y x m e s o e' s' a w r n Q hx' h hR hE hN hr hD hbase hW hg hQ)
  | .goto l => by
    intro rd N base y x m e s o e' s' a w r n Q hx
    cases y <;> simp [cCode] at hx
  | .refuse why => by
    intro rd N base y x m e s o e' s' a w r n Q hx
    cases y <;> simp [cCode] at hx
end
end Go.Proofs.YtakdnpafdadblaaGreat.EV
namespace Go.Proofs.YtakdnpafdadblaaGreat.EV
open Go
def resOk (G : Program) : List ResultVar → List Res → Bool
  | [], [] => true
  | .tmp t :: r, .tmp u :: l => t == u && resOk G r l
  | .cell a t :: r, .cell b n :: l => a == b && (aggN G t == some n) && resOk G r l
  | _, _ => false
def TabOk (c : Cfg) (tab : Nat → Option FD) : Prop := ∀ f fd, tab f = some fd → ∃ fn code y, c.G.funcs[f]? = some fn ∧ (fn.name == "runtime.NumGoroutine") = false ∧ fn.body = some code ∧ cCode c false fn.ntmps code y = some fd.body ∧ fd.np ≤ fn.ntmps ∧ resOk c.G fn.results.toList fd.res = true
def OrcOk (c : Cfg) (W0 : World) (orc : Orc) : Prop := ∀ f o, orc f = some o → (∀ args w, (callFunc f args).run c.G w = .ok (.enter f args) w) ∧
  ∀ (m : Mp) (s : St) (w : World) (as : List Value) (r : Value) (s' : St) (as' : List Value), o as s = some (r, s') → RC c W0 m s w → VRs m as as' → ∀ n, CallsIn Fence.wide n c.G f as'.toArray w (PostK c W0 m s w s' r)
section
variable {c : Cfg} {W0 : World} {ro : Addr → Option Value} {K : H} {mm : Nat} {m : Mp} {s s' : St} {w : World}
theorem EnvR.params : ∀ {as as' : List Value} (i : Nat) (pre : List Value), VRs m as as' → pre.length = i → ∀ (post : List Value), EnvR m (EV.params i as) (pre ++ as' ++ post).toArray
  | [], as', i, pre, h, hp, post => fun t v hv => by simp [EV.params, lk] at hv
  | v0 :: as, as', i, pre, h, hp, post => fun t v hv => by
    obtain ⟨v', r', rfl, h1, h2⟩ := h.inv_cons
    simp only [EV.params, lk] at hv
    split at hv
    · rename_i e1; subst e1; cases hv
      exact ⟨v', by simp [← hp], h1⟩
    · have := EnvR.params (i + 1) (pre ++ [v']) h2 (by simp [hp]) post t v hv
      simpa using this
def resF (tmps : Array Value) (x : ResultVar) : Sem Value :=
  match x with
  | .tmp t => pure (tmps.getD t undef)
  | .cell a t => do loadVar t (← asAddr (tmps.getD a undef))
theorem results_eq (fn : Func) (tmps : Array Value) : Go.results fn tmps = (do let vs ← fn.results.mapM (resF tmps); pure (if h : vs.size = 1 then vs[0] else .tuple vs)) := rfl
theorem results_sim (hR : RC c W0 m s w) (hro : RoOk ro W0) {e : Env} {tmps : Array Value} (hE : EnvR m e tmps) : ∀ {rs : List ResultVar} {l : List Res} {vs : List Value}, resOk c.G rs l = true → EV.results ro e s l = some vs →
    ∃ vs', (rs.mapM (m := Sem) (resF tmps)).run c.G w = .ok vs' w ∧ VRs m vs vs'
  | [], [], vs, _, h => by simp only [EV.results, Option.some.injEq] at h; subst h; exact ⟨[], rfl, .nil m⟩
  | .tmp t :: rs, .tmp u :: l, vs, hk, h => by
    simp only [resOk, Bool.and_eq_true] at hk
    have := beq_nat hk.1; subst this
    simp only [EV.results] at h
    split at h
    · rename_i v us h1 h2
      cases h
      obtain ⟨vs', g1, g2⟩ := results_sim hR hro hE hk.2 h2
      obtain ⟨v', q1, q2⟩ := hE t v h1
      refine ⟨v' :: vs', ?_, .cons q2 g2⟩
      rw [List.mapM_cons]
      simp [resF, g1, q1]
    · cases h
  | .cell a t :: rs, .cell b n :: l, vs, hk, h => by
    simp only [resOk, Bool.and_eq_true] at hk
    have := beq_nat hk.1.1; subst this
    have hag : aggN c.G t = some n := by simpa using hk.1.2
    simp only [EV.results] at h
    split at h
    · rename_i v us h1 h2
      cases h
      obtain ⟨vs', g1, g2⟩ := results_sim hR hro hE hk.2 h2
      simp only [EV.result] at h1
      split at h1
      · rename_i b hb
        split at h1
        · rename_i l0 hl0
          obtain ⟨v', q1, q2⟩ := hE a _ hb
          obtain ⟨b', rfl, hr'⟩ := ptrS q2
          obtain ⟨p1, p2, l', p3, p4⟩ := rdAt_sim hR hro hr' hl0
          obtain ⟨u', k1, k2⟩ := run_loadV (G := c.G) hag p1 p2 p3 p4 h1
          refine ⟨u' :: vs', ?_, .cons k1 g2⟩
          rw [List.mapM_cons]
          simp [resF, asAddr, q1, k2, g1]
        · cases h1
      · cases h1
    · cases h
  | [], .tmp _ :: _, _, hk, _ => by simp [resOk] at hk
  | [], .cell _ _ :: _, _, hk, _ => by simp [resOk] at hk
  | .tmp _ :: _, [], _, hk, _ => by simp [resOk] at hk
  | .cell _ _ :: _, [], _, hk, _ => by simp [resOk] at hk
  | .tmp _ :: _, .cell _ _ :: _, _, hk, _ => by simp [resOk] at hk
  | .cell _ _ :: _, .tmp _ :: _, _, hk, _ => by simp [resOk] at hk
theorem pack_sim {vs vs' : List Value} (h : VRs m vs vs') : VR m (pack vs) (if hh : vs'.toArray.size = 1 then vs'.toArray[0] else .tuple vs'.toArray) := by
  cases vs with
  | nil => have := h.inv_nil; subst this; simp [pack]; exact VRs.tup (.nil m)
  | cons v r =>
    obtain ⟨v', r', rfl, h1, h2⟩ := h.inv_cons
    cases r with
    | nil => have := h2.inv_nil; subst this; simp [pack]; exact h1
    | cons v2 r2 =>
      obtain ⟨v2', r2', rfl, h3, h4⟩ := h2.inv_cons
      have : ¬ ((v' :: v2' :: r2').toArray.size = 1) := by simp
      rw [dif_neg this]
      exact VRs.tup h
theorem leave_sim (hro : RoOk ro W0) {fn : Func} {e : Env} {tmps : Array Value} {l : List Res} {vs : List Value} (hk : resOk c.G fn.results.toList l = true) {s1 : St} {m1 : Mp} (hE : EnvR m1 e tmps) (hv : EV.results ro e s1 l = some vs) {n : Nat} :
    ∀ (Ds : List Nat) (w1 : World), Ds.Nodup → (∀ D ∈ Ds, w.heap.size ≤ D ∧ W0.heap.size ≤ D ∧ w1.heap[D]? = some (.deferred (some []))) → RC c W0 m1 s1 w1 → Stp m s w m1 s1 w1 →
      LeavesInM Fence.wide n c.G fn tmps (PostK c W0 m s w s1 (pack vs)) (Ds.map fun D => { target := .collected D, args := #[] }) .returning w1
  | [], w1, _, _, hR, hS => by
    obtain ⟨vs', g1, g2⟩ := results_sim hR hro hE hk hv
    refine ⟨_, ?_, m1, hR, hS, pack_sim g2⟩
    have hA : (fn.results.mapM (m := Sem) (resF tmps)).run c.G w1 = .ok vs'.toArray w1 := by
      rw [Array.mapM_eq_mapM_toList, Sem.run_map, g1]; rfl
    rw [results_eq, Sem.run_bind, hA]
    rfl
  | D :: Ds, w1, hnd, hD, hR, hS => by
    obtain ⟨h1, h2, h3⟩ := hD D (by simp)
    have hnd' := List.nodup_cons.1 hnd
    refine ⟨by simp, .inl ⟨D, _, rfl, run_takeDeferred h3, ?_⟩⟩
    exact leave_sim hro hk hE hv Ds _ hnd'.2 (fun D' hD' => by
      obtain ⟨q1, q2, q3⟩ := hD D' (by simp [hD'])
      exact ⟨q1, q2, by rw [World.putObj_heap_other (fun e1 => hnd'.1 (by rw [← e1]; exact hD'))]; exact q3⟩) (hR.poke _ h2 (notIm hR h3)) (hS.poke _ h1)
theorem fun_sim (hc : c.Ok) (hro : RoOk ro W0) (hK : SimK c W0 K) (hG : GrK K) {f : Nat} {fd : FD} {fn : Func} {code : Code} {y : C} (hf : c.G.funcs[f]? = some fn) (hb : fn.body = some code) (hx : cCode c false fn.ntmps code y = some fd.body) (hnp : fd.np ≤ fn.ntmps) (hres : resOk c.G fn.results.toList fd.res = true)
    {as as' : List Value} {r : Value} (h : body ro K mm fd as s = some (r, s')) (hR : RC c W0 m s w) (ha : VRs m as as') (n : Nat) : CallsIn Fence.wide n c.G f as'.toArray w (PostK c W0 m s w s' r) := by
  unfold body at h
  split at h
  · rename_i hlen
    have hsz : as'.length ≤ fn.ntmps := by rw [← ha.1, hlen]; exact hnp
    refine callsIn_of_wp_marks hf hb trivial ?_
    split at h
    · cases h
    · rename_i o e s1 hno h1
      split at h
      · rename_i vs hvs
        cases h
        have hE0 : EnvR m (params 0 as) (as'.toArray ++ Array.replicate (fn.ntmps - as'.toArray.size) undef) := by
          have := EnvR.params 0 [] ha rfl (List.replicate (fn.ntmps - as'.length) undef)
          have e1 : as'.toArray ++ Array.replicate (fn.ntmps - as'.toArray.size) undef = ([] ++ as' ++ List.replicate (fn.ntmps - as'.length) undef).toArray := by rw [← Array.toList_inj]; simp
          rw [e1]; exact this
        refine code_sim hc hro hK hG code false fn.ntmps w.heap.size y fd.body m (params 0 as) s o e s' _ w none n _ hx h1 hR hE0 (by simp; omega) (fun _ => rfl) ⟨[], List.nodup_nil, rfl, fun D hD => by cases hD⟩ (Nat.le_refl _) hR.size (fun l a w hh => hh) fun a' w' hq => ?_
        obtain ⟨m1, g1, g2, g3, g4, ⟨Ds, d1, d2, d3⟩, g6⟩ := hq
        have hl := leave_sim (c := c) (m := m) (s := s) (w := w) hro hres g3 hvs (n := n) Ds w' d1 (fun D hD => ⟨(d3 D hD).1, Nat.le_trans hR.size (d3 D hD).1, (d3 D hD).2⟩) g1 g2
        rw [← d2] at hl
        cases o with
        | nrm => exact hl
        | ret => exact hl
        | exi i => exact (hno i rfl).elim
      · cases h
    · cases h
  · cases h
theorem setAll_sim : ∀ {ps : List Nat} {as as' : List Value} {e e0 : Env} {t : Array Value}, setAll e ps as = some e0 → EnvR m e t → VRs m as as' → (∀ p ∈ ps, p < t.size) →
    as'.length = ps.length ∧ EnvR m e0 ((ps.zip as').foldl (fun tmps (q : Nat × Value) => tmps.setIfInBounds q.1 q.2) t) ∧ ((ps.zip as').foldl (fun tmps (q : Nat × Value) => tmps.setIfInBounds q.1 q.2) t).size = t.size
  | [], [], as', e, e0, t, h, hE, ha, _ => by
    simp only [setAll, Option.some.injEq] at h; subst h
    have := ha.inv_nil; subst this
    exact ⟨rfl, hE, rfl⟩
  | p :: ps, v :: as, as', e, e0, t, h, hE, ha, hp => by
    obtain ⟨v', r', rfl, h1, h2⟩ := ha.inv_cons
    simp only [setAll] at h
    have hpt := hp p (by simp)
    have hE1 : EnvR m ((p, v) :: e) (t.setIfInBounds p v') := fun u x hx => by
      simp only [lk] at hx
      split at hx
      · rename_i e1; subst e1; cases hx; exact ⟨v', by simp [hpt], h1⟩
      · rename_i e1
        obtain ⟨x', q1, q2⟩ := hE u x hx
        exact ⟨x', by rw [Array.getElem?_setIfInBounds_ne e1]; exact q1, q2⟩
    obtain ⟨g1, g2, g3⟩ := setAll_sim h hE1 h2 (fun q hq => by simpa using hp q (by simp [hq]))
    exact ⟨by simp [g1], by simpa using g2, by simpa using g3⟩
  | [], _ :: _, _, _, _, _, h, _, _, _ => by simp [setAll] at h
  | _ :: _, [], _, _, _, _, h, _, _, _ => by simp [setAll] at h
theorem round_sim (hc : c.Ok) (hro : RoOk ro W0) (hK : SimK c W0 K) (hG : GrK K) {l l' : Nat} (hl : m.l l = some l') {as as' : List Value} {r : Value} (h : round ro K mm l as s = some (r, s')) (hR : RC c W0 m s w) (ha : VRs m as as') :
    ∃ f t A B, (Instr.yield l' as'.toArray).run c.G w = .ok (.round l' f t A B) w ∧ ∀ n, RoundIn Fence.wide n c.G l' f t A B w (PostK c W0 m s w s' r) := by
  unfold round at h
  split at h
  · cases h
  · split at h
    · rename_i rec hrec
      split at h
      · rename_i hst
        split at h
        · rename_i e0 he0
          split at h
          · rename_i e1 s1 h1
            obtain ⟨hB, L, hL, hLR⟩ := hR.lp l l' hl rec hrec
            obtain ⟨g1, g2, g3⟩ := setAll_sim he0 hLR.env ha hLR.lt
            have hps : L.params = rec.ps.toArray := hLR.ps
            have hy := run_yield (P := c.G) (args := as'.toArray) hL (by rw [hps]; simp [g1])
            refine ⟨_, _, _, _, hy, fun n => ?_⟩
            have hfold : ((L.params.zip as'.toArray).foldl (fun tmps (q : Nat × Value) => tmps.setIfInBounds q.1 q.2) L.tmps) = ((rec.ps.zip as').foldl (fun tmps (q : Nat × Value) => tmps.setIfInBounds q.1 q.2) L.tmps) := by
              rw [hps, ← Array.foldl_toList, Array.toList_zip]
            refine roundIn_of_wpIn (F := Fence.wide) trivial ?_
            obtain ⟨ya, hya⟩ := hLR.asg
            obtain ⟨yb, hyb⟩ := hLR.body
            have hE0 : EnvR m e0 ((L.params.zip as'.toArray).foldl (fun tmps (q : Nat × Value) => tmps.setIfInBounds q.1 q.2) L.tmps) := by rw [hfold]; exact g2
            have hN0 : ((L.params.zip as'.toArray).foldl (fun tmps (q : Nat × Value) => tmps.setIfInBounds q.1 q.2) L.tmps).size = L.tmps.size := by rw [hfold]; exact g3
            refine code_sim hc hro hK hG L.assign true L.tmps.size w.heap.size ya rec.asg m e0 s .nrm e1 s1 _ w (some l') n _ hya h1 hR hE0 hN0 (fun hh => by cases hh) ⟨[], List.nodup_nil, rfl, fun D hD => by cases hD⟩ (Nat.le_refl _) hR.size (fun l a w hh => hh) fun a1 w1 hq => ?_
            obtain ⟨m1, q1, q2, q3, q4, q5, q6⟩ := hq
            unfold round2 at h
            split at h
            · rename_i r1 hr1
              split at h
              · rename_i hst1
                split at h
                · rename_i o e2 s2 h2
                  split at h
                  · rename_i r2 hr2
                    cases h
                    have hl1 : m1.l l = some l' := (q2.ext.2 l (hR.dom.2 l _ hl)).trans hl
                    obtain ⟨_, L1, hL1, hLR1⟩ := q1.lp l l' hl1 r1 hr1
                    have hbr := run_beginRound (P := c.G) hL1 (by rw [hLR1.st, hst1]; rfl)
                    obtain ⟨p1, p2⟩ := q1.loop hl1 hr1 (r' := { r1 with st := .busy }) (L' := { L1 with state := .busy }) ⟨hLR1.ps, hLR1.asg, hLR1.body, hLR1.env, rfl, hLR1.pend, hLR1.lt⟩
                    refine ⟨_, hbr, ?_⟩
                    refine wpIn_mono (Q := fun ex a w => roundPost c.G l' (PostK c W0 m _ _ _ _) ex a w ∧ ∀ t, ex ≠ .goto t) ?_ (fun _ _ _ hh => hh.1)
                    refine code_sim hc hro hK hG L.body true L.tmps.size w.heap.size yb rec.body m1 e1 _ o e2 s2 a1 _ (some l') n _ hyb h2 p1 q3 q4 (fun hh => by cases hh) (q5.step q1 p2 rfl) (by have := q2.sz; simpa using this) hR.size (fun t a w hh => hh.2 t rfl) fun a2 w2 hq2 => ?_
                    obtain ⟨m2, t1, t2, t3, t4, t5, t6⟩ := hq2
                    have hl2 : m2.l l = some l' := (t2.ext.2 l (q1.dom.2 l _ hl1)).trans hl1
                    obtain ⟨_, L2, hL2, hLR2⟩ := t1.lp l l' hl2 r2 hr2
                    obtain ⟨u1, u2⟩ := t1.loop hl2 hr2 (r' := { r2 with st := if o.isNrm then .ready else .done, pend := o }) (L' := { L2 with state := if (pendOf o).isNone then .ready else .done, pending := pendOf o })
                      ⟨hLR2.ps, hLR2.asg, hLR2.body, hLR2.env, by cases o <;> rfl, rfl, hLR2.lt⟩
                    have hend := run_endRound (P := c.G) (pendOf o) hL2
                    have hpost : PostK c W0 m s w { s2 with lps := lset s2.lps l { r2 with st := if o.isNrm then .ready else .done, pend := o } } (.bool o.isNrm) (.returned (.bool (pendOf o).isNone)) (w2.putObj l' (.loop { L2 with state := if (pendOf o).isNone then .ready else .done, pending := pendOf o })) :=
                      ⟨m2, u1, ((q2.trans p2).trans t2).trans u2, by cases o <;> exact .bool _⟩
                    cases o with
                    | nrm => exact ⟨⟨_, _, hend, hpost⟩, fun t ht => by cases ht⟩
                    | exi i => exact ⟨⟨_, _, hend, hpost⟩, fun t ht => by cases ht⟩
                    | ret => exact ⟨⟨_, _, hend, hpost⟩, fun t ht => by cases ht⟩
                  · cases h
                · cases h
              · cases h
            · cases h
          · cases h
        · cases h
      · cases h
    · cases h
theorem run_sim (hc : c.Ok) (hro : RoOk ro W0) {tab : Nat → Option FD} {orc : Orc} (ht : TabOk c tab) (ho : OrcOk c W0 orc) (hog : ∀ f o as s r s', orc f = some o → o as s = some (r, s') → Gr s s') : ∀ d, SimK c W0 (run ro tab orc d)
  | 0 => fun m s w v as r s' v' as' h => by simp [run] at h
  | d + 1 => fun m s w v as r s' v' as' h hR hv ha => by
    have ih := run_sim hc hro ht ho hog d
    have hG := run_gr (ro := ro) (tab := tab) hog d
    simp only [run] at h
    split at h
    · rename_i f first capt
      obtain ⟨c', rfl, rfl, hcap⟩ : ∃ c', v' = .func (.func f) #[] c' ∧ first = #[] ∧ VRs m capt.toList c'.toList := by
        generalize hq : Value.func (.func f) first capt = q at hv
        cases hv with
        | fn f0 c0 c' h1 h2 => cases hq; exact ⟨c', rfl, rfl, h1, h2⟩
        | _ => cases hq
      have hargs : VRs m (([] : List Value) ++ as ++ capt.toList) (as' ++ c'.toList) := by simpa using ha.append hcap
      have hfin : ∀ (_ : ∀ args w, (callFunc f args).run c.G w = .ok (.enter f args) w) (_ : ∀ n, CallsIn Fence.wide n c.G f (as' ++ c'.toList).toArray w (PostK c W0 m s w s' r)), CallP c w (.func (.func f) #[] c') as' (PostK c W0 m s w s' r) := by
        intro h1 h2
        refine ⟨{ target := .fn (.func f) c', args := #[] ++ as'.toArray }, .enter f (as' ++ c'.toList).toArray, rfl, ?_, h2, fun _ _ _ _ => ⟨_, _, rfl⟩⟩
        have : (#[] ++ as'.toArray : Array Value) ++ c' = (as' ++ c'.toList).toArray := by rw [← Array.toList_inj]; simp
        simp only [invoke, this, h1]
      split at h
      · rename_i o hf
        obtain ⟨k1, k2⟩ := ho f o hf
        exact hfin k1 (fun n => k2 m s w _ r s' _ h hR hargs n)
      · split at h
        · rename_i fd hf
          obtain ⟨fn, code, y, t1, t2, t3, t4, t5, t6⟩ := ht f fd hf
          refine hfin (fun args w => ?_) (fun n => fun_sim hc hro ih hG t1 t3 t4 t5 t6 h hR hargs n)
          simp [callFunc, t1, t3]
          intro hh; simp [hh] at t2
        · cases h
    · rename_i l a b
      obtain ⟨l', rfl, hl⟩ : ∃ l', v' = .func (.yield l') #[] #[] ∧ m.l l = some l' := by
        generalize hq : Value.func (.yield l) a b = q at hv
        cases hv with
        | yl l0 l' h => cases hq; exact ⟨l', rfl, h⟩
        | _ => cases hq
      obtain ⟨f, t, A, B, k1, k2⟩ := round_sim hc hro ih hG hl h hR ha
      refine ⟨{ target := .fn (.yield l') #[], args := #[] ++ as'.toArray }, .round l' f t A B, rfl, ?_, k2, fun g fs cs hh => by cases hh⟩
      have : (#[] ++ as'.toArray : Array Value) = as'.toArray := by simp
      simp only [invoke, this, k1]
    · cases h
end
end Go.Proofs.YtakdnpafdadblaaGreat.EV
namespace Go.Proofs.YtakdnpafdadblaaGreat.EV
open Go
def FOk (c : Cfg) (f : Nat) (fd : FD) : Prop := ∃ fn code y, c.G.funcs[f]? = some fn ∧ (fn.name == "runtime.NumGoroutine") = false ∧ fn.body = some code ∧ cCode c false fn.ntmps code y = some fd.body ∧ fd.np ≤ fn.ntmps ∧ resOk c.G fn.results.toList fd.res = true
def chkF (c : Cfg) (f : Nat) (fd : FD) : Option C :=
  match c.G.funcs[f]? with
  | some fn => match fn.body with
    | some b => if !(fn.name == "runtime.NumGoroutine") && Nat.ble fd.np fn.ntmps && resOk c.G fn.results.toList fd.res then cCode c false fn.ntmps b fd.body else none
    | none => none
  | none => none
theorem fok_of {c : Cfg} {f : Nat} {fd : FD} (h : chkF c f fd = some fd.body) : FOk c f fd := by
  unfold chkF at h
  split at h
  · rename_i fn hf
    split at h
    · rename_i b hb
      split at h
      · rename_i hc
        simp only [Bool.and_eq_true, Bool.not_eq_eq_eq_not, Bool.not_true] at hc
        exact ⟨fn, b, fd.body, hf, hc.1.1, hb, h, Nat.le_of_ble_eq_true hc.1.2, hc.2⟩
      · cases h
    · cases h
  · cases h
inductive Tb where
  | nil
  | one (f : Nat) (fd : FD)
  | nod (k : Nat) (a b : Tb)
def Tb.get : Tb → Nat → Option FD
  | .nil, _ => none
  | .one f fd, g => bif Nat.beq f g then some fd else none
  | .nod k a b, g => bif Nat.blt g k then a.get g else b.get g
def Tb.All (p : Nat → FD → Prop) : Tb → Prop
  | .nil => True
  | .one f fd => p f fd
  | .nod _ a b => a.All p ∧ b.All p
theorem Tb.get_all {p : Nat → FD → Prop} : ∀ {t : Tb} {g : Nat} {fd : FD}, t.All p → t.get g = some fd → p g fd
  | .nil, g, fd, _, h => by simp [Tb.get] at h
  | .one f fd0, g, fd, ha, h => by
    simp only [Tb.get] at h
    cases hb : Nat.beq f g with
    | true => rw [hb] at h; simp only [cond_true, Option.some.injEq] at h; subst h; rw [← Nat.eq_of_beq_eq_true hb]; exact ha
    | false => rw [hb] at h; simp at h
  | .nod k a b, g, fd, ha, h => by
    simp only [Tb.get] at h
    cases hb : Nat.blt g k with
    | true => rw [hb] at h; exact Tb.get_all ha.1 h
    | false => rw [hb] at h; exact Tb.get_all ha.2 h
theorem tabOk_of {c : Cfg} {t : Tb} (h : t.All (FOk c)) : TabOk c t.get := fun _ _ hf => Tb.get_all h hf
end Go.Proofs.YtakdnpafdadblaaGreat.EV
namespace Go.Proofs.YtakdnpafdadblaaGreat.EV
open Go
def len8tab : ByteArray := ⟨#[0, 1, 2, 2, 3, 3, 3, 3, 4, 4, 4, 4, 4, 4, 4, 4, 5, 5, 5, 5, 5, 5, 5, 5, 5, 5, 5, 5, 5, 5, 5, 5, 6, 6, 6, 6, 6, 6, 6, 6, 6, 6, 6, 6, 6, 6, 6, 6, 6, 6, 6, 6, 6, 6, 6, 6, 6, 6, 6, 6, 6, 6, 6, 6, 7, 7, 7, 7, 7, 7, 7, 7, 7, 7, 7, 7, 7, 7, 7, 7, 7, 7, 7, 7, 7, 7, 7, 7, 7, 7, 7, 7, 7, 7, 7, 7, 7, 7, 7, 7, 7, 7, 7, 7, 7, 7, 7, 7, 7, 7, 7, 7, 7, 7, 7, 7, 7, 7, 7, 7, 7, 7, 7, 7, 7, 7, 7, 7, 8, 8, 8, 8, 8, 8, 8, 8, 8, 8, 8, 8, 8, 8, 8, 8, 8, 8, 8, 8, 8, 8, 8, 8, 8, 8, 8, 8, 8, 8, 8, 8, 8, 8, 8, 8, 8, 8, 8, 8, 8, 8, 8, 8, 8, 8, 8, 8, 8, 8, 8, 8, 8, 8, 8, 8, 8, 8, 8, 8, 8, 8, 8, 8, 8, 8, 8, 8, 8, 8, 8, 8, 8, 8, 8, 8, 8, 8, 8, 8, 8, 8, 8, 8, 8, 8, 8, 8, 8, 8, 8, 8, 8, 8, 8, 8, 8, 8, 8, 8, 8, 8, 8, 8, 8, 8, 8, 8, 8, 8, 8, 8, 8, 8, 8, 8, 8, 8, 8, 8, 8, 8, 8, 8, 8, 8, 8, 8]⟩
end Go.Proofs.YtakdnpafdadblaaGreat.EV
namespace Go.Proofs.YtakdnpafdadblaaGreat.EV
open Go
noncomputable def c30 : C := (.seq (.reg [⟨some 2, .box (.tmp 0),none⟩, ⟨some 3, .box (.tmp 1),none⟩, ⟨some 4, .mv (.const (.int .i64 0)),none⟩] [2, 3]) (.seq (.reg [⟨some 15, .ld (some 21) (.tmp 3) [],none⟩, ⟨some 16, .cal 89 [(.tmp 15)] true [],none⟩, ⟨some 14, .mv (.tmp 16),none⟩, ⟨some 17, .ex (.tmp 14) 0,none⟩, ⟨some 18, .ex (.tmp 14) 1,none⟩, ⟨some 5, .mv (.tmp 17),none⟩, ⟨some 6, .mv (.tmp 18),none⟩] [2, 3, 5, 6]) (.seq (.seq (.reg [⟨some 19, .mv (.tmp 6),none⟩, ⟨some 20, .bin .neq (.tmp 19) (.const (.int .i64 0)),none⟩, ⟨some 21, .mv (.tmp 20),none⟩, ⟨some 22, .ld (some 10) (.tmp 2) [],some (21, false)⟩, ⟨some 23, .cal 58 [(.tmp 22)] true [],some (21, false)⟩, ⟨some 24, .bin .neq (.tmp 23) (.const (.int .i64 0)),some (21, false)⟩, ⟨some 25, .pick (.tmp 21) (.const (.bool true)) (.tmp 24),none⟩] [2, 3, 5, 25]) (.cnd (.tmp 25) (.seq (.reg [⟨some 4, .mv (.const (.int .i64 1)),none⟩] [4]) .ret) .nop)) (.seq (.reg [⟨some 26, .fa 7 (.tmp 2),none⟩, ⟨some 27, .ld none (.tmp 26) [],none⟩, ⟨some 28, .fa 0 (.tmp 3),none⟩, ⟨some 29, .ld none (.tmp 28) [],none⟩, ⟨some 30, .ia 5 (.tmp 27) (.tmp 29),none⟩, ⟨some 31, .ld (some 5) (.tmp 30) [],none⟩, ⟨some 7, .new [(.int .i64 0),(.int .u64 0),(.int .u64 0),(.int .u64 0),(.int .u64 0)],none⟩, ⟨none, .st 5 (.tmp 7) (.tmp 31) [],none⟩] [2, 3, 5, 7]) (.seq (.reg [⟨some 33, .ld (some 10) (.tmp 2) [],none⟩, ⟨some 34, .fa 0 (.tmp 3),none⟩, ⟨some 35, .ld none (.tmp 34) [],none⟩, ⟨some 36, .cal 62 [(.tmp 33),(.tmp 35)] true [],none⟩, ⟨some 32, .mv (.tmp 36),none⟩, ⟨some 37, .ex (.tmp 32) 0,none⟩, ⟨some 38, .ex (.tmp 32) 1,none⟩, ⟨some 8, .mv (.tmp 37),none⟩, ⟨some 9, .mv (.tmp 38),none⟩] [2, 3, 5, 7, 8]) (.seq (.reg [⟨some 40, .mv (.tmp 8),none⟩, ⟨some 41, .fa 0 (.tmp 7),none⟩, ⟨some 42, .ld none (.tmp 41) [],none⟩, ⟨some 43, .cal 90 [(.tmp 40),(.tmp 42)] true [],none⟩, ⟨some 39, .mv (.tmp 43),none⟩, ⟨some 44, .ex (.tmp 39) 0,none⟩, ⟨some 45, .ex (.tmp 39) 1,none⟩, ⟨some 10, .mv (.tmp 44),none⟩, ⟨some 11, .mv (.tmp 45),none⟩] [2, 3, 5, 7, 8, 10]) (.seq (.blk 0 (.seq (.reg [⟨some 51, .ld (some 10) (.tmp 2) [],none⟩, ⟨some 52, .mv (.tmp 5),none⟩, ⟨some 53, .cal 91 [(.tmp 51),(.tmp 52)] true [],none⟩, ⟨some 50, .mv (.tmp 53),none⟩] [3, 7, 8, 10, 50]) (.cnd (.tmp 50) (.seq (.reg [⟨some 4, .mv (.const (.int .i64 4)),none⟩] [4]) .ret) (.seq (.reg [⟨some 55, .fa 1 (.tmp 3),none⟩, ⟨some 56, .ld none (.tmp 55) [],none⟩, ⟨some 57, .fa 0 (.tmp 7),none⟩, ⟨some 58, .ld none (.tmp 57) [],none⟩, ⟨some 59, .bin .lss (.tmp 56) (.tmp 58),none⟩, ⟨some 54, .mv (.tmp 59),none⟩] [3, 7, 8, 10, 54]) (.cnd (.tmp 54) (.seq (.reg [⟨some 4, .mv (.const (.int .i64 9)),none⟩] [4]) .ret) (.seq (.reg [⟨some 61, .fa 1 (.tmp 3),none⟩, ⟨some 62, .ld none (.tmp 61) [],none⟩, ⟨some 63, .mv (.tmp 10),none⟩, ⟨some 64, .bin .gtr (.tmp 62) (.tmp 63),none⟩, ⟨some 60, .mv (.tmp 64),none⟩] [3, 7, 8, 10, 60]) (.cnd (.tmp 60) (.seq (.reg [⟨some 4, .mv (.const (.int .i64 10)),none⟩] [4]) .ret) (.seq (.reg [⟨some 66, .fa 1 (.tmp 3),none⟩, ⟨some 67, .ld none (.tmp 66) [],none⟩, ⟨some 68, .mv (.tmp 10),none⟩, ⟨some 69, .bin .lss (.tmp 67) (.tmp 68),none⟩, ⟨some 65, .mv (.tmp 69),none⟩] [3, 7, 8, 65]) (.cnd (.tmp 65) (.seq (.reg [⟨some 70, .fa 1 (.tmp 3),none⟩, ⟨some 71, .ld none (.tmp 70) [],none⟩, ⟨some 72, .fa 0 (.tmp 7),none⟩, ⟨some 73, .ld none (.tmp 72) [],none⟩, ⟨some 74, .bin .sub (.tmp 71) (.tmp 73),none⟩, ⟨some 12, .mv (.tmp 74),none⟩] [3, 7, 8, 12]) (.seq (.seq (.reg [⟨some 75, .mv (.tmp 8),none⟩, ⟨some 76, .mv (.tmp 12),none⟩, ⟨some 77, .ia 21 (.tmp 75) (.tmp 76),none⟩, ⟨some 78, .ld (some 21) (.tmp 77) [],none⟩, ⟨some 79, .ld (some 21) (.tmp 3) [],none⟩, ⟨some 80, .cal 92 [(.tmp 78),(.tmp 79)] true [],none⟩, ⟨some 13, .mv (.tmp 80),none⟩] [3, 7, 8, 12, 13]) (.seq (.reg [⟨some 81, .mv (.tmp 13),none⟩, ⟨some 82, .bin .neq (.tmp 81) (.const (.int .i64 0)),none⟩] [3, 7, 8, 12, 13, 82]) (.cnd (.tmp 82) (.seq (.reg [⟨some 83, .mv (.tmp 13),none⟩, ⟨some 4, .mv (.tmp 83),none⟩] [4]) .ret) .nop))) (.reg [⟨some 84, .mv (.tmp 8),none⟩, ⟨some 85, .mv (.tmp 12),none⟩, ⟨some 86, .ld (some 21) (.tmp 3) [],none⟩, ⟨some 87, .ia 21 (.tmp 84) (.tmp 85),none⟩, ⟨none, .st 21 (.tmp 87) (.tmp 86) [],none⟩] [7, 8]))) (.seq (.reg [⟨some 89, .mv (.tmp 8),none⟩, ⟨some 90, .len (.tmp 89),none⟩, ⟨some 91, .bin .geq (.tmp 90) (.const (.int .i64 6)),none⟩, ⟨some 88, .mv (.tmp 91),none⟩] [3, 7, 8, 88]) (.cnd (.tmp 88) (.seq (.reg [⟨some 4, .mv (.const (.int .i64 2)),none⟩] [4]) .ret) (.reg [⟨some 46, .mv (.tmp 8),none⟩, ⟨some 47, .ld (some 21) (.tmp 3) [],none⟩, ⟨some 48, .bldS 21 [(.int .i64 0),(.int .i64 0),(.int .u64 0),(.int .u64 0),(.int .u64 0),(.int .u64 0),(.int .u64 0),(.int .u64 0),(.int .u64 0),(.int .u64 0),(.int .u64 0),(.int .u64 0),(.int .u64 0),(.int .u64 0),(.int .u64 0),(.int .u64 0),(.int .u64 0),(.int .u64 0),(.int .i64 0),(.slice none 0 0),(.slice none 0 0)] 1 [(0, (.tmp 47))],none⟩, ⟨some 49, .app 21 (.tmp 46) (.tmp 48) [],none⟩, ⟨some 8, .mv (.tmp 49),none⟩] [7, 8])))))))))))) (.seq (.seq (.reg [⟨some 92, .mv (.tmp 8),none⟩, ⟨some 93, .fa 1 (.tmp 7),none⟩, ⟨some 94, .ld (some 4) (.tmp 93) [],none⟩, ⟨some 95, .cal 93 [(.tmp 92),(.tmp 94)] true [],none⟩, ⟨some 96, .not (.tmp 95),none⟩] [96]) (.cnd (.tmp 96) (.seq (.reg [⟨some 4, .mv (.const (.int .i64 12)),none⟩] [4]) .ret) .nop)) (.seq (.reg [⟨some 4, .mv (.const (.int .i64 0)),none⟩] [4]) .ret)))))))))
noncomputable def fd30 : FD := ⟨2, c30, [.tmp 4]⟩
noncomputable def c34 : C := (.seq (.reg [⟨some 1, .box (.tmp 0),none⟩, ⟨some 2, .new [(.int .u64 0),(.int .u64 0),(.int .u64 0),(.int .u64 0)],none⟩, ⟨some 3, .mv (.const (.bool false)),none⟩] [1, 2]) (.seq (.reg [⟨some 11, .fa 6 (.tmp 1),none⟩, ⟨some 12, .ld (some 4) (.tmp 11) [],none⟩, ⟨some 13, .fa 18 (.tmp 1),none⟩, ⟨some 14, .ld none (.tmp 13) [],none⟩, ⟨some 15, .cal 98 [(.tmp 14)] true [],none⟩, ⟨some 16, .cal 97 [(.tmp 12),(.tmp 15)] true [],none⟩, ⟨some 10, .mv (.tmp 16),none⟩, ⟨some 17, .ex (.tmp 10) 0,none⟩, ⟨some 18, .ex (.tmp 10) 1,none⟩, ⟨some 4, .new [(.int .u64 0),(.int .u64 0),(.int .u64 0),(.int .u64 0)],none⟩, ⟨none, .st 4 (.tmp 4) (.tmp 17) [],none⟩, ⟨some 5, .mv (.tmp 18),none⟩] [1, 2, 4, 5]) (.seq (.reg [⟨some 20, .fa 10 (.tmp 1),none⟩, ⟨some 21, .ld (some 4) (.tmp 20) [],none⟩, ⟨some 22, .fa 20 (.tmp 1),none⟩, ⟨some 23, .ld none (.tmp 22) [],none⟩, ⟨some 24, .len (.tmp 23),none⟩, ⟨some 25, .bin .mul (.const (.int .i64 131072)) (.tmp 24),none⟩, ⟨some 26, .cal 98 [(.tmp 25)] true [],none⟩, ⟨some 27, .cal 97 [(.tmp 21),(.tmp 26)] true [],none⟩, ⟨some 19, .mv (.tmp 27),none⟩, ⟨some 28, .ex (.tmp 19) 0,none⟩, ⟨some 29, .ex (.tmp 19) 1,none⟩, ⟨some 6, .new [(.int .u64 0),(.int .u64 0),(.int .u64 0),(.int .u64 0)],none⟩, ⟨none, .st 4 (.tmp 6) (.tmp 28) [],none⟩, ⟨some 7, .mv (.tmp 29),none⟩] [1, 2, 4, 5, 6, 7]) (.seq (.seq (.reg [⟨some 30, .mv (.tmp 5),none⟩, ⟨some 31, .not (.tmp 30),none⟩, ⟨some 32, .mv (.tmp 31),none⟩, ⟨some 33, .mv (.tmp 7),some (32, false)⟩, ⟨some 34, .not (.tmp 33),some (32, false)⟩, ⟨some 35, .pick (.tmp 32) (.const (.bool true)) (.tmp 34),none⟩] [1, 2, 4, 6, 35]) (.cnd (.tmp 35) (.seq (.reg [⟨some 36, .bld [(.int .u64 0),(.int .u64 0),(.int .u64 0),(.int .u64 0)] [],none⟩, ⟨none, .st 4 (.tmp 2) (.tmp 36) [],none⟩, ⟨some 3, .mv (.const (.bool false)),none⟩] [2, 3]) .ret) .nop)) (.seq (.reg [⟨some 38, .ld (some 4) (.tmp 4) [],none⟩, ⟨some 39, .ld (some 4) (.tmp 6) [],none⟩, ⟨some 40, .cal 35 [(.tmp 38),(.tmp 39)] true [],none⟩, ⟨some 37, .mv (.tmp 40),none⟩, ⟨some 41, .ex (.tmp 37) 0,none⟩, ⟨some 42, .ex (.tmp 37) 1,none⟩, ⟨some 8, .new [(.int .u64 0),(.int .u64 0),(.int .u64 0),(.int .u64 0)],none⟩, ⟨none, .st 4 (.tmp 8) (.tmp 41) [],none⟩, ⟨some 9, .mv (.tmp 42),none⟩] [1, 2, 8, 9]) (.seq (.seq (.reg [⟨some 43, .mv (.tmp 9),none⟩, ⟨some 44, .not (.tmp 43),none⟩] [1, 2, 8, 44]) (.cnd (.tmp 44) (.seq (.reg [⟨some 45, .bld [(.int .u64 0),(.int .u64 0),(.int .u64 0),(.int .u64 0)] [],none⟩, ⟨none, .st 4 (.tmp 2) (.tmp 45) [],none⟩, ⟨some 3, .mv (.const (.bool false)),none⟩] [2, 3]) .ret) .nop)) (.seq (.reg [⟨some 46, .ld (some 4) (.tmp 8) [],none⟩, ⟨some 47, .fa 14 (.tmp 1),none⟩, ⟨some 48, .ld (some 4) (.tmp 47) [],none⟩, ⟨some 49, .cal 35 [(.tmp 46),(.tmp 48)] true [],none⟩, ⟨some 50, .ex (.tmp 49) 0,none⟩, ⟨some 51, .ex (.tmp 49) 1,none⟩, ⟨none, .st 4 (.tmp 2) (.tmp 50) [],none⟩, ⟨some 3, .mv (.tmp 51),none⟩] [2, 3]) .ret)))))))
noncomputable def fd34 : FD := ⟨1, c34, [.cell 2 (some 4),.tmp 3]⟩
noncomputable def c58 : C := (.seq (.reg [⟨some 1, .box (.tmp 0),none⟩, ⟨some 2, .mv (.const (.int .i64 0)),none⟩] [1]) (.seq (.seq (.reg [⟨some 3, .fa 0 (.tmp 1),none⟩, ⟨some 4, .ld none (.tmp 3) [],none⟩, ⟨some 5, .cal 124 [(.tmp 4)] true [],none⟩, ⟨some 6, .not (.tmp 5),none⟩, ⟨some 7, .mv (.tmp 6),none⟩, ⟨some 8, .ld (some 10) (.tmp 1) [],some (7, false)⟩, ⟨some 9, .cal 125 [(.tmp 8)] true [],some (7, false)⟩, ⟨some 10, .not (.tmp 9),some (7, false)⟩, ⟨some 11, .pick (.tmp 7) (.const (.bool true)) (.tmp 10),none⟩, ⟨some 12, .mv (.tmp 11),none⟩, ⟨some 13, .fa 8 (.tmp 1),some (12, false)⟩, ⟨some 14, .ld none (.tmp 13) [],some (12, false)⟩, ⟨some 15, .cal 114 [(.tmp 14)] true [],some (12, false)⟩, ⟨some 16, .fa 0 (.tmp 1),some (12, false)⟩, ⟨some 17, .ld none (.tmp 16) [],some (12, false)⟩, ⟨some 18, .bin .gtr (.tmp 15) (.tmp 17),some (12, false)⟩, ⟨some 19, .pick (.tmp 12) (.const (.bool true)) (.tmp 18),none⟩] [19]) (.cnd (.tmp 19) (.seq (.reg [⟨some 2, .mv (.const (.int .i64 1)),none⟩] [2]) .ret) .nop)) (.seq (.reg [⟨some 2, .mv (.const (.int .i64 0)),none⟩] [2]) .ret)))
noncomputable def fd58 : FD := ⟨1, c58, [.tmp 2]⟩
noncomputable def c62 : C := (.seq (.reg [⟨some 2, .box (.tmp 0),none⟩, ⟨some 4, .mv (.const (.slice none 0 0)),none⟩, ⟨some 5, .mv (.const (.int .i64 0)),none⟩] [1, 2]) (.seq (.seq (.reg [⟨some 8, .ld (some 10) (.tmp 2) [],none⟩, ⟨some 9, .cal 58 [(.tmp 8)] true [],none⟩, ⟨some 10, .bin .neq (.tmp 9) (.const (.int .i64 0)),none⟩, ⟨some 11, .mv (.tmp 10),none⟩, ⟨some 12, .mv (.tmp 1),some (11, false)⟩, ⟨some 13, .bin .lss (.tmp 12) (.const (.int .i64 0)),some (11, false)⟩, ⟨some 14, .pick (.tmp 11) (.const (.bool true)) (.tmp 13),none⟩, ⟨some 15, .mv (.tmp 14),none⟩, ⟨some 16, .mv (.tmp 1),some (15, false)⟩, ⟨some 17, .bin .geq (.tmp 16) (.const (.int .i64 8)),some (15, false)⟩, ⟨some 18, .pick (.tmp 15) (.const (.bool true)) (.tmp 17),none⟩] [1, 2, 18]) (.cnd (.tmp 18) (.seq (.reg [⟨some 4, .mv (.const (.slice none 0 0)),none⟩, ⟨some 5, .mv (.const (.int .i64 1)),none⟩] [4, 5]) .ret) .nop)) (.seq (.reg [⟨some 20, .fa 8 (.tmp 2),none⟩, ⟨some 21, .ld none (.tmp 20) [],none⟩, ⟨some 22, .mv (.tmp 1),none⟩, ⟨some 23, .cal 130 [(.tmp 21),(.tmp 22),(.const (.int .i64 0))] true [],none⟩, ⟨some 19, .mv (.tmp 23),none⟩, ⟨some 24, .ex (.tmp 19) 0,none⟩, ⟨some 25, .ex (.tmp 19) 1,none⟩, ⟨some 6, .mv (.tmp 24),none⟩, ⟨some 7, .mv (.tmp 25),none⟩] [2, 6, 7]) (.seq (.reg [⟨some 26, .fa 8 (.tmp 2),none⟩, ⟨some 27, .ld none (.tmp 26) [],none⟩, ⟨some 28, .mv (.tmp 6),none⟩, ⟨some 29, .mv (.tmp 7),none⟩, ⟨some 30, .sli 21 (.tmp 27) (some (.tmp 28)) (some (.tmp 29)) none,none⟩, ⟨some 31, .cal 131 [(.tmp 30)] true [],none⟩, ⟨some 4, .mv (.tmp 31),none⟩, ⟨some 5, .mv (.const (.int .i64 0)),none⟩] [4, 5]) .ret))))
noncomputable def fd62 : FD := ⟨2, c62, [.tmp 4, .tmp 5]⟩
noncomputable def c90 : C := (.seq (.reg [⟨some 4, .mv (.const (.int .i64 0)),none⟩, ⟨some 5, .mv (.const (.int .i64 0)),none⟩] [0, 1]) (.seq (.seq (.reg [⟨some 7, .mv (.tmp 0),none⟩, ⟨some 8, .cal 171 [(.tmp 7)] true [],none⟩, ⟨some 9, .bin .neq (.tmp 8) (.const (.int .i64 0)),none⟩, ⟨some 10, .mv (.tmp 9),none⟩, ⟨some 11, .mv (.tmp 1),some (10, false)⟩, ⟨some 12, .bin .lss (.tmp 11) (.const (.int .i64 0)),some (10, false)⟩, ⟨some 13, .pick (.tmp 10) (.const (.bool true)) (.tmp 12),none⟩, ⟨some 14, .mv (.tmp 13),none⟩, ⟨some 15, .mv (.tmp 1),some (14, false)⟩, ⟨some 16, .bin .gtr (.tmp 15) (.const (.int .i64 1099511627776)),some (14, false)⟩, ⟨some 17, .pick (.tmp 14) (.const (.bool true)) (.tmp 16),none⟩] [0, 1, 17]) (.cnd (.tmp 17) (.seq (.reg [⟨some 4, .mv (.const (.int .i64 0)),none⟩, ⟨some 5, .mv (.const (.int .i64 1)),none⟩] [4, 5]) .ret) .nop)) (.seq (.seq (.reg [⟨some 18, .mv (.tmp 0),none⟩, ⟨some 19, .len (.tmp 18),none⟩, ⟨some 6, .mv (.tmp 19),none⟩] [0, 1, 6]) (.seq (.reg [⟨some 20, .mv (.tmp 6),none⟩, ⟨some 21, .bin .gtr (.tmp 20) (.const (.int .i64 0)),none⟩] [0, 1, 6, 21]) (.cnd (.tmp 21) (.seq (.reg [⟨some 22, .mv (.tmp 0),none⟩, ⟨some 23, .mv (.tmp 6),none⟩, ⟨some 24, .bin .sub (.tmp 23) (.const (.int .i64 1)),none⟩, ⟨some 25, .ia 21 (.tmp 22) (.tmp 24),none⟩, ⟨some 26, .fa 1 (.tmp 25),none⟩, ⟨some 27, .ld none (.tmp 26) [],none⟩, ⟨some 28, .bin .add (.tmp 27) (.const (.int .i64 1)),none⟩, ⟨some 4, .mv (.tmp 28),none⟩, ⟨some 5, .mv (.const (.int .i64 0)),none⟩] [4, 5]) .ret) .nop))) (.seq (.reg [⟨some 29, .mv (.tmp 1),none⟩, ⟨some 4, .mv (.tmp 29),none⟩, ⟨some 5, .mv (.const (.int .i64 0)),none⟩] [4, 5]) .ret))))
noncomputable def fd90 : FD := ⟨2, c90, [.tmp 4, .tmp 5]⟩
noncomputable def c94 : C := (.seq (.reg [⟨some 2, .mv (.const (.int .u64 0)),none⟩] [0]) (.seq (.reg [⟨some 3, .mv (.tmp 0),none⟩, ⟨some 4, .bin .add (.const (.string ⟨#[98, 108, 111, 98]⟩)) (.tmp 3),none⟩, ⟨some 5, .cal 138 [(.tmp 4)] true [],none⟩, ⟨some 2, .mv (.tmp 5),none⟩] [2]) .ret))
noncomputable def fd94 : FD := ⟨1, c94, [.tmp 2]⟩
noncomputable def c98 : C := (.seq (.reg [⟨some 2, .new [(.int .u64 0),(.int .u64 0),(.int .u64 0),(.int .u64 0)],none⟩] [0, 2]) (.seq (.reg [⟨some 3, .mv (.tmp 0),none⟩, ⟨some 4, .cvi .u64 (.tmp 3),none⟩, ⟨some 5, .bld [(.int .u64 0),(.int .u64 0),(.int .u64 0),(.int .u64 0)] [(0, 1, (.tmp 4))],none⟩, ⟨none, .st 4 (.tmp 2) (.tmp 5) [],none⟩] [2]) .ret))
noncomputable def fd98 : FD := ⟨1, c98, [.cell 2 (some 4)]⟩
noncomputable def b102_0 : C := (.seq (.seq (.reg [⟨some 6, .mv (.tmp 5),none⟩, ⟨some 7, .bin .geq (.tmp 6) (.const (.int .i64 0)),none⟩] [2, 3, 5, 7]) (.cnd (.tmp 7) .nop (.exi 0))) (.seq (.blk 1 (.blk 2 (.seq (.reg [⟨some 11, .mv (.tmp 5),none⟩, ⟨some 12, .iaa 4 1 (.tmp 2) (.tmp 11),none⟩, ⟨some 13, .ld none (.tmp 12) [],none⟩, ⟨some 14, .mv (.tmp 5),none⟩, ⟨some 15, .iaa 4 1 (.tmp 3) (.tmp 14),none⟩, ⟨some 16, .ld none (.tmp 15) [],none⟩, ⟨some 17, .bin .lss (.tmp 13) (.tmp 16),none⟩, ⟨some 10, .mv (.tmp 17),none⟩] [2, 3, 5, 10]) (.cnd (.tmp 10) (.seq (.reg [⟨some 4, .mv (.const (.int .i64 (-1))),none⟩] [4]) .ret) (.seq (.reg [⟨some 19, .mv (.tmp 5),none⟩, ⟨some 20, .iaa 4 1 (.tmp 2) (.tmp 19),none⟩, ⟨some 21, .ld none (.tmp 20) [],none⟩, ⟨some 22, .mv (.tmp 5),none⟩, ⟨some 23, .iaa 4 1 (.tmp 3) (.tmp 22),none⟩, ⟨some 24, .ld none (.tmp 23) [],none⟩, ⟨some 25, .bin .gtr (.tmp 21) (.tmp 24),none⟩, ⟨some 18, .mv (.tmp 25),none⟩] [2, 3, 5, 18]) (.cnd (.tmp 18) (.seq (.reg [⟨some 4, .mv (.const (.int .i64 1)),none⟩] [4]) .ret) .nop)))))) (.reg [⟨some 8, .mv (.tmp 5),none⟩, ⟨some 9, .bin .sub (.tmp 8) (.const (.int .i64 1)),none⟩, ⟨some 5, .mv (.tmp 9),none⟩] [2, 3, 5])))
noncomputable def c102 : C := (.seq (.reg [⟨some 2, .box (.tmp 0),none⟩, ⟨some 3, .box (.tmp 1),none⟩, ⟨some 4, .mv (.const (.int .i64 0)),none⟩] [2, 3]) (.seq (.seq (.reg [⟨some 5, .mv (.const (.int .i64 3)),none⟩] [2, 3, 5]) (.blk 0 (.lop b102_0))) (.seq (.reg [⟨some 4, .mv (.const (.int .i64 0)),none⟩] [4]) .ret)))
noncomputable def fd102 : FD := ⟨2, c102, [.tmp 4]⟩
noncomputable def b114_0 : C := (.seq (.reg [⟨some 13, .bin .lss (.tmp 12) (.tmp 11),none⟩] [3, 10, 11, 12, 13]) (.seq (.cnd (.tmp 13) .nop (.exi 0)) (.seq (.blk 1 (.seq (.reg [⟨some 14, .ia 21 (.tmp 10) (.tmp 12),none⟩, ⟨some 15, .ld (some 21) (.tmp 14) [],none⟩, ⟨some 5, .new [(.int .i64 0),(.int .i64 0),(.int .u64 0),(.int .u64 0),(.int .u64 0),(.int .u64 0),(.int .u64 0),(.int .u64 0),(.int .u64 0),(.int .u64 0),(.int .u64 0),(.int .u64 0),(.int .u64 0),(.int .u64 0),(.int .u64 0),(.int .u64 0),(.int .u64 0),(.int .u64 0),(.int .i64 0),(.slice none 0 0),(.slice none 0 0)],none⟩, ⟨none, .st 21 (.tmp 5) (.tmp 15) [],none⟩] [3, 5, 10, 11, 12]) (.seq (.reg [⟨some 17, .ld (some 21) (.tmp 5) [],none⟩, ⟨some 18, .cal 149 [(.tmp 17)] true [],none⟩, ⟨some 16, .mv (.tmp 18),none⟩, ⟨some 19, .ex (.tmp 16) 0,none⟩, ⟨some 20, .ex (.tmp 16) 1,none⟩, ⟨some 21, .ex (.tmp 16) 2,none⟩, ⟨some 22, .ex (.tmp 16) 3,none⟩, ⟨some 6, .mv (.tmp 19),none⟩, ⟨some 7, .mv (.tmp 20),none⟩, ⟨some 8, .mv (.tmp 21),none⟩, ⟨some 9, .mv (.tmp 22),none⟩] [3, 8, 10, 11, 12]) (.reg [⟨some 23, .mv (.tmp 3),none⟩, ⟨some 24, .mv (.tmp 8),none⟩, ⟨some 25, .bin .add (.tmp 23) (.tmp 24),none⟩, ⟨some 3, .mv (.tmp 25),none⟩] [3, 10, 11, 12])))) (.reg [⟨some 26, .bin .add (.tmp 12) (.const (.int .i64 1)),none⟩, ⟨some 12, .mv (.tmp 26),none⟩] [3, 10, 11, 12]))))
noncomputable def c114 : C := (.seq (.reg [⟨some 2, .mv (.const (.int .i64 0)),none⟩] [0]) (.seq (.reg [⟨some 3, .mv (.const (.int .i64 0)),none⟩] [0, 3]) (.seq (.seq (.reg [⟨some 10, .mv (.tmp 0),none⟩, ⟨some 11, .len (.tmp 10),none⟩, ⟨some 12, .mv (.const (.int .i64 0)),none⟩] [3, 10, 11, 12]) (.blk 0 (.lop b114_0))) (.seq (.reg [⟨some 27, .mv (.tmp 3),none⟩, ⟨some 2, .mv (.tmp 27),none⟩] [2]) .ret))))
noncomputable def fd114 : FD := ⟨1, c114, [.tmp 2]⟩
noncomputable def c122 : C := (.seq (.reg [⟨some 1, .box (.tmp 0),none⟩, ⟨some 2, .new [(.int .i64 0),(.int .i64 0),(.int .u64 0),(.int .u64 0),(.int .u64 0),(.int .u64 0),(.int .u64 0),(.int .u64 0),(.int .u64 0),(.int .u64 0),(.int .u64 0),(.int .u64 0),(.int .u64 0),(.int .u64 0),(.int .u64 0),(.int .u64 0),(.int .u64 0),(.int .u64 0),(.int .i64 0),(.slice none 0 0),(.slice none 0 0)],none⟩] [1, 2]) (.seq (.reg [⟨some 3, .fa 19 (.tmp 1),none⟩, ⟨some 4, .ld none (.tmp 3) [],none⟩, ⟨some 5, .cal 194 [(.tmp 4)] true [],none⟩, ⟨some 6, .fa 20 (.tmp 1),none⟩, ⟨some 7, .ld none (.tmp 6) [],none⟩, ⟨some 8, .cal 195 [(.tmp 7)] true [],none⟩, ⟨some 9, .fa 19 (.tmp 1),none⟩, ⟨none, .st 1 (.tmp 9) (.tmp 5) [],none⟩, ⟨some 10, .fa 20 (.tmp 1),none⟩, ⟨none, .st 1 (.tmp 10) (.tmp 8) [],none⟩] [1, 2]) (.seq (.reg [⟨some 11, .ld (some 21) (.tmp 1) [],none⟩, ⟨none, .st 21 (.tmp 2) (.tmp 11) [],none⟩] [2]) .ret)))
noncomputable def fd122 : FD := ⟨1, c122, [.cell 2 (some 21)]⟩
noncomputable def c127 : C := (.seq (.reg [⟨some 2, .mv (.const (.bool false)),none⟩] [0]) (.seq (.reg [⟨some 3, .mv (.tmp 0),none⟩, ⟨some 4, .len (.tmp 3),none⟩, ⟨some 5, .bin .eql (.tmp 4) (.const (.int .i64 8)),none⟩, ⟨some 6, .mv (.tmp 5),none⟩, ⟨some 7, .mv (.tmp 0),some (6, true)⟩, ⟨some 8, .cal 204 [(.tmp 7),(.func 205)] true [],some (6, true)⟩, ⟨some 9, .not (.tmp 8),some (6, true)⟩, ⟨some 10, .pick (.tmp 6) (.tmp 9) (.const (.bool false)),none⟩, ⟨some 2, .mv (.tmp 10),none⟩] [2]) .ret))
noncomputable def fd127 : FD := ⟨1, c127, [.tmp 2]⟩
noncomputable def b131_0 : C := (.seq (.reg [⟨some 9, .bin .lss (.tmp 8) (.tmp 7),none⟩] [3, 6, 7, 8, 9]) (.seq (.cnd (.tmp 9) .nop (.exi 0)) (.seq (.blk 1 (.seq (.reg [⟨some 10, .ia 21 (.tmp 6) (.tmp 8),none⟩, ⟨some 11, .ld (some 21) (.tmp 10) [],none⟩, ⟨some 5, .new [(.int .i64 0),(.int .i64 0),(.int .u64 0),(.int .u64 0),(.int .u64 0),(.int .u64 0),(.int .u64 0),(.int .u64 0),(.int .u64 0),(.int .u64 0),(.int .u64 0),(.int .u64 0),(.int .u64 0),(.int .u64 0),(.int .u64 0),(.int .u64 0),(.int .u64 0),(.int .u64 0),(.int .i64 0),(.slice none 0 0),(.slice none 0 0)],none⟩, ⟨none, .st 21 (.tmp 5) (.tmp 11) [],none⟩] [3, 5, 6, 7, 8]) (.reg [⟨some 12, .mv (.tmp 3),none⟩, ⟨some 13, .ld (some 21) (.tmp 5) [],none⟩, ⟨some 14, .cal 122 [(.tmp 13)] true [],none⟩, ⟨some 15, .bldS 21 [(.int .i64 0),(.int .i64 0),(.int .u64 0),(.int .u64 0),(.int .u64 0),(.int .u64 0),(.int .u64 0),(.int .u64 0),(.int .u64 0),(.int .u64 0),(.int .u64 0),(.int .u64 0),(.int .u64 0),(.int .u64 0),(.int .u64 0),(.int .u64 0),(.int .u64 0),(.int .u64 0),(.int .i64 0),(.slice none 0 0),(.slice none 0 0)] 1 [(0, (.tmp 14))],none⟩, ⟨some 16, .app 21 (.tmp 12) (.tmp 15) [],none⟩, ⟨some 3, .mv (.tmp 16),none⟩] [3, 6, 7, 8]))) (.reg [⟨some 17, .bin .add (.tmp 8) (.const (.int .i64 1)),none⟩, ⟨some 8, .mv (.tmp 17),none⟩] [3, 6, 7, 8]))))
noncomputable def c131 : C := (.seq (.reg [⟨some 2, .mv (.const (.slice none 0 0)),none⟩] [0]) (.seq (.reg [⟨some 3, .mv (.const (.slice none 0 0)),none⟩] [0, 3]) (.seq (.seq (.reg [⟨some 6, .mv (.tmp 0),none⟩, ⟨some 7, .len (.tmp 6),none⟩, ⟨some 8, .mv (.const (.int .i64 0)),none⟩] [3, 6, 7, 8]) (.blk 0 (.lop b131_0))) (.seq (.reg [⟨some 18, .mv (.tmp 3),none⟩, ⟨some 2, .mv (.tmp 18),none⟩] [2]) .ret))))
noncomputable def fd131 : FD := ⟨1, c131, [.tmp 2]⟩
noncomputable def c171 : C := (.seq (.reg [⟨some 2, .mv (.const (.int .i64 0)),none⟩] [0]) (.seq (.seq (.reg [⟨some 6, .mv (.tmp 0),none⟩, ⟨some 7, .cal 235 [(.tmp 6)] true [],none⟩, ⟨some 5, .mv (.tmp 7),none⟩, ⟨some 8, .ex (.tmp 5) 0,none⟩, ⟨some 9, .ex (.tmp 5) 1,none⟩, ⟨some 3, .new [(.int .u64 0),(.int .u64 0),(.int .u64 0),(.int .u64 0)],none⟩, ⟨none, .st 4 (.tmp 3) (.tmp 8) [],none⟩, ⟨some 4, .mv (.tmp 9),none⟩] [4]) (.seq (.reg [⟨some 10, .mv (.tmp 4),none⟩, ⟨some 11, .not (.tmp 10),none⟩] [11]) (.cnd (.tmp 11) (.seq (.reg [⟨some 2, .mv (.const (.int .i64 1)),none⟩] [2]) .ret) .nop))) (.seq (.reg [⟨some 2, .mv (.const (.int .i64 0)),none⟩] [2]) .ret)))
noncomputable def fd171 : FD := ⟨1, c171, [.tmp 2]⟩
noncomputable def c175 : C := (.seq (.reg [⟨some 1, .box (.tmp 0),none⟩, ⟨some 2, .new [(.int .u64 0),(.int .u64 0),(.int .u64 0),(.int .u64 0),(.int .u64 0),(.int .u64 0),(.int .u64 0),(.int .u64 0),(.int .u64 0),(.int .u64 0),(.int .u64 0),(.int .u64 0)],none⟩] [1, 2]) (.seq (.reg [⟨some 3, .fa 10 (.tmp 1),none⟩, ⟨some 4, .ld (some 4) (.tmp 3) [],none⟩, ⟨some 5, .fa 6 (.tmp 1),none⟩, ⟨some 6, .ld (some 4) (.tmp 5) [],none⟩, ⟨some 7, .fa 2 (.tmp 1),none⟩, ⟨some 8, .ld (some 4) (.tmp 7) [],none⟩, ⟨some 9, .bld [(.int .u64 0),(.int .u64 0),(.int .u64 0),(.int .u64 0),(.int .u64 0),(.int .u64 0),(.int .u64 0),(.int .u64 0),(.int .u64 0),(.int .u64 0),(.int .u64 0),(.int .u64 0)] [(0, 4, (.tmp 4)),(4, 4, (.tmp 6)),(8, 4, (.tmp 8))],none⟩, ⟨none, .st 12 (.tmp 2) (.tmp 9) [],none⟩] [2]) .ret))
noncomputable def fd175 : FD := ⟨1, c175, [.cell 2 (some 12)]⟩
noncomputable def c179 : C := (.seq (.reg [⟨some 1, .box (.tmp 0),none⟩, ⟨some 2, .new [(.int .i64 0),(.int .i64 0),(.int .u64 0),(.int .u64 0),(.int .u64 0),(.int .u64 0),(.int .u64 0),(.int .u64 0),(.int .u64 0),(.int .u64 0),(.int .u64 0),(.int .u64 0),(.int .u64 0),(.int .u64 0),(.int .u64 0),(.int .u64 0),(.int .u64 0),(.int .u64 0),(.int .i64 0),(.slice none 0 0),(.slice none 0 0),(.int .i64 0)],none⟩] [1, 2]) (.seq (.reg [⟨some 4, .ld (some 22) (.tmp 1) [],none⟩, ⟨some 3, .new [(.int .i64 0),(.int .i64 0),(.int .u64 0),(.int .u64 0),(.int .u64 0),(.int .u64 0),(.int .u64 0),(.int .u64 0),(.int .u64 0),(.int .u64 0),(.int .u64 0),(.int .u64 0),(.int .u64 0),(.int .u64 0),(.int .u64 0),(.int .u64 0),(.int .u64 0),(.int .u64 0),(.int .i64 0),(.slice none 0 0),(.slice none 0 0),(.int .i64 0)],none⟩, ⟨none, .st 22 (.tmp 3) (.tmp 4) [],none⟩] [1, 2, 3]) (.seq (.reg [⟨some 5, .fa 0 (.tmp 1),none⟩, ⟨some 6, .ld (some 21) (.tmp 5) [],none⟩, ⟨some 7, .cal 63 [(.tmp 6)] true [],none⟩, ⟨some 8, .fa 0 (.tmp 3),none⟩, ⟨none, .st 21 (.tmp 8) (.tmp 7) [],none⟩] [2, 3]) (.seq (.reg [⟨some 9, .ld (some 22) (.tmp 3) [],none⟩, ⟨none, .st 22 (.tmp 2) (.tmp 9) [],none⟩] [2]) .ret))))
noncomputable def fd179 : FD := ⟨1, c179, [.cell 2 (some 22)]⟩
noncomputable def b191_0 : C := (.seq (.reg [⟨some 62, .bin .lss (.tmp 61) (.const (.int .i64 4)),none⟩] [2, 60, 61, 62]) (.seq (.cnd (.tmp 62) .nop (.exi 0)) (.seq (.blk 1 (.seq (.reg [⟨some 63, .ix 4 1 none (.tmp 60) (.tmp 61),none⟩, ⟨some 13, .mv (.tmp 63),none⟩] [2, 13, 60, 61]) (.seq (.reg [⟨some 64, .mv (.tmp 13),none⟩, ⟨some 65, .bin .neq (.tmp 64) (.const (.int .i64 0)),none⟩] [2, 60, 61, 65]) (.cnd (.tmp 65) (.seq (.reg [⟨some 66, .bld [(.int .u64 0),(.int .u64 0),(.int .u64 0),(.int .u64 0)] [],none⟩, ⟨none, .st 4 (.tmp 2) (.tmp 66) [],none⟩, ⟨some 3, .mv (.const (.bool false)),none⟩] [2, 3]) .ret) .nop)))) (.reg [⟨some 67, .bin .add (.tmp 61) (.const (.int .i64 1)),none⟩, ⟨some 61, .mv (.tmp 67),none⟩] [2, 60, 61]))))
noncomputable def c191 : C := (.seq (.reg [⟨some 1, .box (.tmp 0),none⟩, ⟨some 2, .new [(.int .u64 0),(.int .u64 0),(.int .u64 0),(.int .u64 0)],none⟩, ⟨some 3, .mv (.const (.bool false)),none⟩] [1, 2]) (.seq (.reg [⟨some 15, .fa 20 (.tmp 1),none⟩, ⟨some 16, .ld none (.tmp 15) [],none⟩, ⟨some 17, .len (.tmp 16),none⟩, ⟨some 18, .cal 103 [(.tmp 17)] true [],none⟩, ⟨some 14, .mv (.tmp 18),none⟩, ⟨some 19, .ex (.tmp 14) 0,none⟩, ⟨some 20, .ex (.tmp 14) 1,none⟩, ⟨some 4, .mv (.tmp 19),none⟩, ⟨some 5, .mv (.tmp 20),none⟩] [1, 2, 4, 5]) (.seq (.seq (.reg [⟨some 21, .mv (.tmp 5),none⟩, ⟨some 22, .bin .neq (.tmp 21) (.const (.int .i64 0)),none⟩] [1, 2, 4, 22]) (.cnd (.tmp 22) (.seq (.reg [⟨some 23, .ld (some 4) (.tmp 2) [],none⟩, ⟨none, .st 4 (.tmp 2) (.tmp 23) [],none⟩, ⟨some 3, .mv (.const (.bool false)),none⟩] [2, 3]) .ret) .nop)) (.seq (.reg [⟨some 25, .fa 6 (.tmp 1),none⟩, ⟨some 26, .ld (some 4) (.tmp 25) [],none⟩, ⟨some 27, .fa 18 (.tmp 1),none⟩, ⟨some 28, .ld none (.tmp 27) [],none⟩, ⟨some 29, .cvi .u64 (.tmp 28),none⟩, ⟨some 30, .bld [(.int .u64 0),(.int .u64 0),(.int .u64 0),(.int .u64 0)] [(0, 1, (.tmp 29))],none⟩, ⟨some 31, .cal 242 [(.tmp 26),(.tmp 30)] true [],none⟩, ⟨some 24, .mv (.tmp 31),none⟩, ⟨some 32, .ex (.tmp 24) 0,none⟩, ⟨some 33, .ex (.tmp 24) 1,none⟩, ⟨some 6, .new [(.int .u64 0),(.int .u64 0),(.int .u64 0),(.int .u64 0)],none⟩, ⟨none, .st 4 (.tmp 6) (.tmp 32) [],none⟩, ⟨some 7, .mv (.tmp 33),none⟩] [1, 2, 4, 6, 7]) (.seq (.reg [⟨some 35, .fa 10 (.tmp 1),none⟩, ⟨some 36, .ld (some 4) (.tmp 35) [],none⟩, ⟨some 37, .mv (.tmp 4),none⟩, ⟨some 38, .cvi .u64 (.tmp 37),none⟩, ⟨some 39, .bld [(.int .u64 0),(.int .u64 0),(.int .u64 0),(.int .u64 0)] [(0, 1, (.tmp 38))],none⟩, ⟨some 40, .cal 242 [(.tmp 36),(.tmp 39)] true [],none⟩, ⟨some 34, .mv (.tmp 40),none⟩, ⟨some 41, .ex (.tmp 34) 0,none⟩, ⟨some 42, .ex (.tmp 34) 1,none⟩, ⟨some 8, .new [(.int .u64 0),(.int .u64 0),(.int .u64 0),(.int .u64 0)],none⟩, ⟨none, .st 4 (.tmp 8) (.tmp 41) [],none⟩, ⟨some 9, .mv (.tmp 42),none⟩] [1, 2, 6, 7, 8, 9]) (.seq (.reg [⟨some 44, .ld (some 4) (.tmp 6) [],none⟩, ⟨some 45, .ld (some 4) (.tmp 8) [],none⟩, ⟨some 46, .cal 178 [(.tmp 44),(.tmp 45)] true [],none⟩, ⟨some 43, .mv (.tmp 46),none⟩, ⟨some 47, .ex (.tmp 43) 0,none⟩, ⟨some 48, .ex (.tmp 43) 1,none⟩, ⟨none, .st 4 (.tmp 2) (.tmp 47) [],none⟩, ⟨some 10, .mv (.tmp 48),none⟩] [1, 2, 7, 9, 10]) (.seq (.reg [⟨some 50, .ld (some 4) (.tmp 2) [],none⟩, ⟨some 51, .fa 14 (.tmp 1),none⟩, ⟨some 52, .ld (some 4) (.tmp 51) [],none⟩, ⟨some 53, .cal 178 [(.tmp 50),(.tmp 52)] true [],none⟩, ⟨some 49, .mv (.tmp 53),none⟩, ⟨some 54, .ex (.tmp 49) 0,none⟩, ⟨some 55, .ex (.tmp 49) 1,none⟩, ⟨none, .st 4 (.tmp 2) (.tmp 54) [],none⟩, ⟨some 11, .mv (.tmp 55),none⟩] [2, 7, 9, 10, 11]) (.seq (.seq (.reg [⟨some 56, .mv (.tmp 7),none⟩, ⟨some 57, .mv (.tmp 9),none⟩, ⟨some 58, .mv (.tmp 10),none⟩, ⟨some 59, .mv (.tmp 11),none⟩, ⟨some 60, .bld [(.int .i64 0),(.int .i64 0),(.int .i64 0),(.int .i64 0)] [(0, 1, (.tmp 56)),(1, 1, (.tmp 57)),(2, 1, (.tmp 58)),(3, 1, (.tmp 59))],none⟩, ⟨some 61, .mv (.const (.int .i64 0)),none⟩] [2, 60, 61]) (.blk 0 (.lop b191_0))) (.seq (.reg [⟨some 68, .ld (some 4) (.tmp 2) [],none⟩, ⟨none, .st 4 (.tmp 2) (.tmp 68) [],none⟩, ⟨some 3, .mv (.const (.bool true)),none⟩] [2, 3]) .ret)))))))))
noncomputable def fd191 : FD := ⟨1, c191, [.cell 2 (some 4),.tmp 3]⟩
noncomputable def c195 : C := (.seq (.reg [⟨some 2, .mv (.const (.slice none 0 0)),none⟩] [0]) (.seq (.seq (.reg [⟨some 3, .mv (.tmp 0),none⟩, ⟨some 4, .eqn false false (.tmp 3) (.const (.slice none 0 0)),none⟩] [0, 4]) (.cnd (.tmp 4) (.seq (.reg [⟨some 2, .mv (.const (.slice none 0 0)),none⟩] [2]) .ret) .nop)) (.seq (.reg [⟨some 5, .bldS 1 [(.string ⟨#[]⟩)] 0 [],none⟩, ⟨some 6, .mv (.tmp 0),none⟩, ⟨some 7, .app 1 (.tmp 5) (.tmp 6) [],none⟩, ⟨some 2, .mv (.tmp 7),none⟩] [2]) .ret)))
noncomputable def fd195 : FD := ⟨1, c195, [.tmp 2]⟩
noncomputable def c200 : C := (.seq (.reg [⟨some 1, .box (.tmp 0),none⟩, ⟨some 2, .mv (.const .nilFunc),none⟩] [1]) (.seq (.reg [⟨some 3, .mkf 244 [(.tmp 1)],none⟩, ⟨some 2, .mv (.tmp 3),none⟩] [2]) .ret))
noncomputable def fd200 : FD := ⟨1, c200, [.tmp 2]⟩
noncomputable def c204 : C := (.seq (.reg [⟨some 4, .mv (.const (.bool false)),none⟩] [0, 1]) (.seq (.reg [⟨some 5, .mv (.tmp 0),none⟩, ⟨some 6, .mv (.tmp 1),none⟩, ⟨some 7, .cal 247 [(.tmp 5),(.tmp 6)] true [],none⟩, ⟨some 8, .bin .geq (.tmp 7) (.const (.int .i64 0)),none⟩, ⟨some 4, .mv (.tmp 8),none⟩] [4]) .ret))
noncomputable def fd204 : FD := ⟨2, c204, [.tmp 4]⟩
noncomputable def c232 : C := (.seq (.reg [⟨some 2, .new [(.bool false),(.string ⟨#[]⟩),(.slice none 0 0)],none⟩] [0, 2]) (.seq (.reg [⟨some 3, .mv (.tmp 0),none⟩, ⟨some 4, .cvi .u64 (.tmp 3),none⟩, ⟨some 5, .bld [(.int .u64 0),(.int .u64 0),(.int .u64 0),(.int .u64 0)] [(0, 1, (.tmp 4))],none⟩, ⟨some 6, .cal 233 [(.tmp 5)] true [],none⟩, ⟨none, .st 3 (.tmp 2) (.tmp 6) [],none⟩] [2]) .ret))
noncomputable def fd232 : FD := ⟨1, c232, [.cell 2 (some 3)]⟩
noncomputable def b236_0 : C := (.seq (.reg [⟨some 9, .bin .lss (.tmp 8) (.tmp 7),none⟩] [0, 1, 7, 8, 9]) (.seq (.cnd (.tmp 9) .nop (.exi 0)) (.seq (.blk 1 (.seq (.reg [⟨some 10, .mv (.tmp 8),none⟩, ⟨some 5, .mv (.tmp 10),none⟩] [0, 1, 5, 7, 8]) (.seq (.reg [⟨some 11, .mv (.tmp 1),none⟩, ⟨some 12, .mv (.tmp 0),none⟩, ⟨some 13, .mv (.tmp 5),none⟩, ⟨some 14, .ia 22 (.tmp 12) (.tmp 13),none⟩, ⟨some 15, .ld (some 22) (.tmp 14) [],none⟩, ⟨some 16, .clv (.tmp 11) [(.tmp 15)] false [],none⟩] [0, 1, 5, 7, 8, 16]) (.cnd (.tmp 16) (.seq (.reg [⟨some 17, .mv (.tmp 5),none⟩, ⟨some 4, .mv (.tmp 17),none⟩] [4]) .ret) .nop)))) (.reg [⟨some 18, .bin .add (.tmp 8) (.const (.int .i64 1)),none⟩, ⟨some 8, .mv (.tmp 18),none⟩] [0, 1, 7, 8]))))
noncomputable def c236 : C := (.seq (.reg [⟨some 4, .mv (.const (.int .i64 0)),none⟩] [0, 1]) (.seq (.seq (.reg [⟨some 6, .mv (.tmp 0),none⟩, ⟨some 7, .len (.tmp 6),none⟩, ⟨some 8, .mv (.const (.int .i64 0)),none⟩] [0, 1, 7, 8]) (.blk 0 (.lop b236_0))) (.seq (.reg [⟨some 4, .mv (.const (.int .i64 (-1))),none⟩] [4]) .ret)))
noncomputable def fd236 : FD := ⟨2, c236, [.tmp 4]⟩
noncomputable def b242_0 : C := (.seq (.reg [⟨some 25, .bin .lss (.tmp 24) (.const (.int .i64 4)),none⟩] [3, 4, 6, 7, 8, 9, 16, 17, 23, 24, 25]) (.seq (.cnd (.tmp 25) .nop (.exi 2)) (.seq (.blk 3 (.seq (.reg [⟨some 26, .mv (.tmp 24),none⟩, ⟨some 27, .ix 4 1 none (.tmp 23) (.tmp 24),none⟩, ⟨some 10, .mv (.tmp 26),none⟩, ⟨some 11, .mv (.tmp 27),none⟩] [3, 4, 6, 7, 8, 9, 10, 11, 16, 17, 23, 24]) (.seq (.reg [⟨some 29, .mv (.tmp 8),none⟩, ⟨some 30, .mv (.tmp 11),none⟩, ⟨some 31, .cal 267 [(.tmp 29),(.tmp 30)] true [],none⟩, ⟨some 28, .mv (.tmp 31),none⟩, ⟨some 32, .ex (.tmp 28) 0,none⟩, ⟨some 33, .ex (.tmp 28) 1,none⟩, ⟨some 12, .mv (.tmp 32),none⟩, ⟨some 13, .mv (.tmp 33),none⟩] [3, 4, 6, 7, 8, 9, 10, 12, 13, 16, 17, 23, 24]) (.seq (.reg [⟨some 35, .mv (.tmp 13),none⟩, ⟨some 36, .mv (.tmp 7),none⟩, ⟨some 37, .mv (.tmp 10),none⟩, ⟨some 38, .bin .add (.tmp 36) (.tmp 37),none⟩, ⟨some 39, .iaa 8 1 (.tmp 6) (.tmp 38),none⟩, ⟨some 40, .ld none (.tmp 39) [],none⟩, ⟨some 41, .ext 0 [(.tmp 35),(.tmp 40),(.const (.int .u64 0))],none⟩, ⟨some 34, .mv (.tmp 41),none⟩, ⟨some 42, .ex (.tmp 34) 0,none⟩, ⟨some 43, .ex (.tmp 34) 1,none⟩, ⟨some 14, .mv (.tmp 42),none⟩, ⟨some 15, .mv (.tmp 43),none⟩] [3, 4, 6, 7, 8, 9, 10, 12, 14, 15, 16, 17, 23, 24]) (.seq (.reg [⟨some 44, .mv (.tmp 12),none⟩, ⟨some 45, .mv (.tmp 15),none⟩, ⟨some 46, .bin .add (.tmp 44) (.tmp 45),none⟩, ⟨some 12, .mv (.tmp 46),none⟩] [3, 4, 6, 7, 8, 9, 10, 12, 14, 16, 17, 23, 24]) (.seq (.reg [⟨some 48, .mv (.tmp 7),none⟩, ⟨some 49, .mv (.tmp 10),none⟩, ⟨some 50, .bin .add (.tmp 48) (.tmp 49),none⟩, ⟨some 51, .mv (.tmp 14),none⟩, ⟨some 52, .mv (.tmp 9),none⟩, ⟨some 53, .ext 0 [(.tmp 51),(.tmp 52),(.const (.int .u64 0))],none⟩, ⟨some 47, .mv (.tmp 53),none⟩, ⟨some 54, .ex (.tmp 47) 0,none⟩, ⟨some 55, .ex (.tmp 47) 1,none⟩, ⟨some 56, .iaa 8 1 (.tmp 6) (.tmp 50),none⟩, ⟨none, .st 1 (.tmp 56) (.tmp 54) [],none⟩, ⟨some 15, .mv (.tmp 55),none⟩] [3, 4, 6, 7, 8, 12, 15, 16, 17, 23, 24]) (.reg [⟨some 57, .mv (.tmp 12),none⟩, ⟨some 58, .mv (.tmp 15),none⟩, ⟨some 59, .bin .add (.tmp 57) (.tmp 58),none⟩, ⟨some 9, .mv (.tmp 59),none⟩] [3, 4, 6, 7, 8, 9, 16, 17, 23, 24]))))))) (.reg [⟨some 60, .bin .add (.tmp 24) (.const (.int .i64 1)),none⟩, ⟨some 24, .mv (.tmp 60),none⟩] [3, 4, 6, 7, 8, 9, 16, 17, 23, 24]))))
noncomputable def b242_1 : C := (.seq (.reg [⟨some 18, .bin .lss (.tmp 17) (.const (.int .i64 4)),none⟩] [3, 4, 6, 16, 17, 18]) (.seq (.cnd (.tmp 18) .nop (.exi 0)) (.seq (.blk 1 (.seq (.reg [⟨some 19, .mv (.tmp 17),none⟩, ⟨some 20, .ix 4 1 none (.tmp 16) (.tmp 17),none⟩, ⟨some 7, .mv (.tmp 19),none⟩, ⟨some 8, .mv (.tmp 20),none⟩] [3, 4, 6, 7, 8, 16, 17]) (.seq (.seq (.reg [⟨some 21, .mv (.tmp 8),none⟩, ⟨some 22, .bin .eql (.tmp 21) (.const (.int .u64 0)),none⟩] [3, 4, 6, 7, 8, 16, 17, 22]) (.cnd (.tmp 22) (.exi 1) .nop)) (.seq (.reg [⟨some 9, .mv (.const (.int .u64 0)),none⟩] [3, 4, 6, 7, 8, 9, 16, 17]) (.seq (.seq (.reg [⟨some 23, .ld (some 4) (.tmp 3) [],none⟩, ⟨some 24, .mv (.const (.int .i64 0)),none⟩] [3, 4, 6, 7, 8, 9, 16, 17, 23, 24]) (.blk 2 (.lop b242_0))) (.reg [⟨some 61, .mv (.tmp 7),none⟩, ⟨some 62, .bin .add (.tmp 61) (.const (.int .i64 4)),none⟩, ⟨some 63, .mv (.tmp 9),none⟩, ⟨some 64, .iaa 8 1 (.tmp 6) (.tmp 62),none⟩, ⟨none, .st 1 (.tmp 64) (.tmp 63) [],none⟩] [3, 4, 6, 16, 17])))))) (.reg [⟨some 65, .bin .add (.tmp 17) (.const (.int .i64 1)),none⟩, ⟨some 17, .mv (.tmp 65),none⟩] [3, 4, 6, 16, 17]))))
noncomputable def c242 : C := (.seq (.reg [⟨some 2, .box (.tmp 0),none⟩, ⟨some 3, .box (.tmp 1),none⟩, ⟨some 4, .new [(.int .u64 0),(.int .u64 0),(.int .u64 0),(.int .u64 0)],none⟩, ⟨some 5, .mv (.const (.int .i64 0)),none⟩] [2, 3, 4]) (.seq (.reg [⟨some 6, .new [(.int .u64 0),(.int .u64 0),(.int .u64 0),(.int .u64 0),(.int .u64 0),(.int .u64 0),(.int .u64 0),(.int .u64 0)],none⟩] [2, 3, 4, 6]) (.seq .nop (.seq (.seq (.reg [⟨some 16, .ld (some 4) (.tmp 2) [],none⟩, ⟨some 17, .mv (.const (.int .i64 0)),none⟩] [3, 4, 6, 16, 17]) (.blk 0 (.lop b242_1))) (.seq (.seq (.reg [⟨some 66, .iaa 8 1 (.tmp 6) (.const (.int .i64 4)),none⟩, ⟨some 67, .ld none (.tmp 66) [],none⟩, ⟨some 68, .iaa 8 1 (.tmp 6) (.const (.int .i64 5)),none⟩, ⟨some 69, .ld none (.tmp 68) [],none⟩, ⟨some 70, .bin .or (.tmp 67) (.tmp 69),none⟩, ⟨some 71, .iaa 8 1 (.tmp 6) (.const (.int .i64 6)),none⟩, ⟨some 72, .ld none (.tmp 71) [],none⟩, ⟨some 73, .bin .or (.tmp 70) (.tmp 72),none⟩, ⟨some 74, .iaa 8 1 (.tmp 6) (.const (.int .i64 7)),none⟩, ⟨some 75, .ld none (.tmp 74) [],none⟩, ⟨some 76, .bin .or (.tmp 73) (.tmp 75),none⟩, ⟨some 77, .bin .neq (.tmp 76) (.const (.int .u64 0)),none⟩] [4, 6, 77]) (.cnd (.tmp 77) (.seq (.reg [⟨some 78, .bld [(.int .u64 0),(.int .u64 0),(.int .u64 0),(.int .u64 0)] [],none⟩, ⟨none, .st 4 (.tmp 4) (.tmp 78) [],none⟩, ⟨some 5, .mv (.const (.int .i64 8)),none⟩] [4, 5]) .ret) .nop)) (.seq (.reg [⟨some 79, .iaa 8 1 (.tmp 6) (.const (.int .i64 0)),none⟩, ⟨some 80, .ld none (.tmp 79) [],none⟩, ⟨some 81, .iaa 8 1 (.tmp 6) (.const (.int .i64 1)),none⟩, ⟨some 82, .ld none (.tmp 81) [],none⟩, ⟨some 83, .iaa 8 1 (.tmp 6) (.const (.int .i64 2)),none⟩, ⟨some 84, .ld none (.tmp 83) [],none⟩, ⟨some 85, .iaa 8 1 (.tmp 6) (.const (.int .i64 3)),none⟩, ⟨some 86, .ld none (.tmp 85) [],none⟩, ⟨some 87, .bld [(.int .u64 0),(.int .u64 0),(.int .u64 0),(.int .u64 0)] [(0, 1, (.tmp 80)),(1, 1, (.tmp 82)),(2, 1, (.tmp 84)),(3, 1, (.tmp 86))],none⟩, ⟨none, .st 4 (.tmp 4) (.tmp 87) [],none⟩, ⟨some 5, .mv (.const (.int .i64 0)),none⟩] [4, 5]) .ret))))))
noncomputable def fd242 : FD := ⟨2, c242, [.cell 4 (some 4),.tmp 5]⟩
noncomputable def c246 : C := (.seq (.reg [⟨some 2, .mv (.const (.int .i64 0)),none⟩] [0]) (.seq (.cnd (.const (.bool false)) (.seq (.reg [⟨some 3, .mv (.tmp 0),none⟩, ⟨some 4, .cvi .u32 (.tmp 3),none⟩, ⟨some 5, .cal 278 [(.tmp 4)] true [],none⟩, ⟨some 2, .mv (.tmp 5),none⟩] [2]) .ret) .nop) (.seq (.reg [⟨some 6, .mv (.tmp 0),none⟩, ⟨some 7, .cal 279 [(.tmp 6)] true [],none⟩, ⟨some 2, .mv (.tmp 7),none⟩] [2]) .ret)))
noncomputable def fd246 : FD := ⟨1, c246, [.tmp 2]⟩
noncomputable def b266_0 : C := (.reg [⟨some 6, .new [(.bool false),(.string ⟨#[]⟩),(.slice none 0 0)],none⟩, ⟨none, .st 3 (.tmp 6) (.tmp 12) [],none⟩] [5, 6])
noncomputable def b266_1 : C := (.blk 2 (.reg [⟨some 13, .ld none (.tmp 5) [],none⟩, ⟨some 14, .ld (some 3) (.tmp 6) [],none⟩, ⟨some 15, .cal 266 [(.tmp 13),(.tmp 14)] false [],none⟩, ⟨none, .st 1 (.tmp 5) (.tmp 15) [],none⟩] []))
noncomputable def c266 : C := (.seq (.reg [⟨some 3, .box (.tmp 1),none⟩, ⟨some 4, .mv (.const (.slice none 0 0)),none⟩] [0, 3, 4]) (.seq (.blk 0 (.seq (.reg [⟨some 8, .fa 0 (.tmp 3),none⟩, ⟨some 9, .ld none (.tmp 8) [],none⟩, ⟨some 7, .mv (.tmp 9),none⟩] [0, 3, 4, 7]) (.cnd (.tmp 7) (.seq (.reg [⟨some 5, .new [(.slice none 0 0)],none⟩] [0, 3, 4, 5]) (.seq (.seq (.reg [⟨some 10, .ld (some 3) (.tmp 3) [],none⟩, ⟨some 11, .cal 260 [(.tmp 10)] true [],none⟩] [0, 3, 4, 5, 11]) (.blk 1 (.rf (.tmp 11) [12] b266_0 b266_1))) (.seq (.reg [⟨some 16, .mv (.tmp 0),none⟩, ⟨some 17, .ld none (.tmp 5) [],none⟩, ⟨some 18, .len (.tmp 17),none⟩, ⟨some 19, .cal 289 [(.tmp 16),(.const (.int .i64 192)),(.tmp 18)] false [(.tmp 5)],none⟩, ⟨some 20, .ld none (.tmp 5) [],none⟩, ⟨some 21, .app 1 (.tmp 19) (.tmp 20) [],none⟩, ⟨some 4, .mv (.tmp 21),none⟩] [4]) .ret))) (.seq (.reg [⟨some 23, .fa 1 (.tmp 3),none⟩, ⟨some 24, .ld none (.tmp 23) [],none⟩, ⟨some 25, .cal 290 [(.tmp 24)] true [],none⟩, ⟨some 26, .not (.tmp 25),none⟩, ⟨some 22, .mv (.tmp 26),none⟩] [0, 3, 22]) (.cnd (.tmp 22) (.reg [⟨some 27, .mv (.tmp 0),none⟩, ⟨some 28, .fa 1 (.tmp 3),none⟩, ⟨some 29, .ld none (.tmp 28) [],none⟩, ⟨some 30, .lens (.tmp 29),none⟩, ⟨some 31, .cal 289 [(.tmp 27),(.const (.int .i64 128)),(.tmp 30)] false [],none⟩, ⟨some 0, .mv (.tmp 31),none⟩] [0, 3]) .nop))))) (.seq (.reg [⟨some 32, .mv (.tmp 0),none⟩, ⟨some 33, .fa 1 (.tmp 3),none⟩, ⟨some 34, .ld none (.tmp 33) [],none⟩, ⟨some 35, .apps (.tmp 32) (.tmp 34),none⟩, ⟨some 4, .mv (.tmp 35),none⟩] [4]) .ret)))
noncomputable def fd266 : FD := ⟨2, c266, [.tmp 4]⟩
noncomputable def b270_0 : C := (.seq (.seq (.reg [⟨some 18, .mv (.tmp 9),none⟩, ⟨some 19, .bin .geq (.tmp 18) (.const (.int .i64 0)),none⟩] [0, 6, 7, 8, 9, 19]) (.cnd (.tmp 19) .nop (.exi 0))) (.seq (.blk 1 (.reg [⟨some 22, .mv (.tmp 0),none⟩, ⟨some 23, .mv (.tmp 9),none⟩, ⟨some 24, .mv (.tmp 8),none⟩, ⟨some 25, .mv (.tmp 6),none⟩, ⟨some 26, .cal 291 [(.tmp 22),(.tmp 23),(.tmp 24),(.tmp 25)] false [],none⟩] [0, 6, 7, 8, 9])) (.reg [⟨some 20, .mv (.tmp 9),none⟩, ⟨some 21, .bin .sub (.tmp 20) (.const (.int .i64 1)),none⟩, ⟨some 9, .mv (.tmp 21),none⟩] [0, 6, 7, 8, 9])))
noncomputable def b270_1 : C := (.seq (.seq (.reg [⟨some 29, .mv (.tmp 10),none⟩, ⟨some 30, .bin .geq (.tmp 29) (.const (.int .i64 0)),none⟩] [0, 6, 7, 10, 30]) (.cnd (.tmp 30) .nop (.exi 2))) (.seq (.blk 3 (.seq (.reg [⟨some 33, .mv (.tmp 0),none⟩, ⟨some 34, .mv (.tmp 6),none⟩, ⟨some 35, .mv (.tmp 0),none⟩, ⟨some 36, .mv (.tmp 6),none⟩, ⟨some 37, .mv (.tmp 10),none⟩, ⟨some 38, .bin .add (.tmp 36) (.tmp 37),none⟩, ⟨some 39, .mv (.tmp 0),none⟩, ⟨some 40, .mv (.tmp 6),none⟩, ⟨some 41, .mv (.tmp 10),none⟩, ⟨some 42, .bin .add (.tmp 40) (.tmp 41),none⟩, ⟨some 43, .ia 1 (.tmp 39) (.tmp 42),none⟩, ⟨some 44, .ld none (.tmp 43) [],none⟩, ⟨some 45, .mv (.tmp 0),none⟩, ⟨some 46, .mv (.tmp 6),none⟩, ⟨some 47, .ia 1 (.tmp 45) (.tmp 46),none⟩, ⟨some 48, .ld none (.tmp 47) [],none⟩, ⟨some 49, .ia 1 (.tmp 33) (.tmp 34),none⟩, ⟨none, .st 1 (.tmp 49) (.tmp 44) [],none⟩, ⟨some 50, .ia 1 (.tmp 35) (.tmp 38),none⟩, ⟨none, .st 1 (.tmp 50) (.tmp 48) [],none⟩] [0, 6, 7, 10]) (.reg [⟨some 51, .mv (.tmp 0),none⟩, ⟨some 52, .mv (.tmp 7),none⟩, ⟨some 53, .mv (.tmp 10),none⟩, ⟨some 54, .mv (.tmp 6),none⟩, ⟨some 55, .cal 291 [(.tmp 51),(.tmp 52),(.tmp 53),(.tmp 54)] false [],none⟩] [0, 6, 7, 10]))) (.reg [⟨some 31, .mv (.tmp 10),none⟩, ⟨some 32, .bin .sub (.tmp 31) (.const (.int .i64 1)),none⟩, ⟨some 10, .mv (.tmp 32),none⟩] [0, 6, 7, 10])))
noncomputable def c270 : C := (.seq (.reg [⟨some 11, .mv (.tmp 1),none⟩, ⟨some 6, .mv (.tmp 11),none⟩] [0, 1, 2, 6]) (.seq (.reg [⟨some 7, .mv (.const (.int .i64 0)),none⟩] [0, 1, 2, 6, 7]) (.seq (.reg [⟨some 12, .mv (.tmp 2),none⟩, ⟨some 13, .mv (.tmp 1),none⟩, ⟨some 14, .bin .sub (.tmp 12) (.tmp 13),none⟩, ⟨some 8, .mv (.tmp 14),none⟩] [0, 6, 7, 8]) (.seq (.seq (.reg [⟨some 15, .mv (.tmp 8),none⟩, ⟨some 16, .bin .sub (.tmp 15) (.const (.int .i64 1)),none⟩, ⟨some 17, .bin .quo (.tmp 16) (.const (.int .i64 2)),none⟩, ⟨some 9, .mv (.tmp 17),none⟩] [0, 6, 7, 8, 9]) (.blk 0 (.lop b270_0))) (.seq (.reg [⟨some 27, .mv (.tmp 8),none⟩, ⟨some 28, .bin .sub (.tmp 27) (.const (.int .i64 1)),none⟩, ⟨some 10, .mv (.tmp 28),none⟩] [0, 6, 7, 10]) (.blk 2 (.lop b270_1)))))))
noncomputable def fd270 : FD := ⟨3, c270, []⟩
noncomputable def b274_0 : C := (.seq (.seq (.reg [⟨some 17, .mv (.tmp 7),none⟩, ⟨some 18, .mv (.tmp 2),none⟩, ⟨some 19, .bin .lss (.tmp 17) (.tmp 18),none⟩, ⟨some 20, .mv (.tmp 19),none⟩, ⟨some 21, .mv (.tmp 0),some (20, true)⟩, ⟨some 22, .mv (.tmp 7),some (20, true)⟩, ⟨some 23, .ia 1 (.tmp 21) (.tmp 22),some (20, true)⟩, ⟨some 24, .ld none (.tmp 23) [],some (20, true)⟩, ⟨some 25, .mv (.tmp 0),some (20, true)⟩, ⟨some 26, .mv (.tmp 7),some (20, true)⟩, ⟨some 27, .bin .sub (.tmp 26) (.const (.int .i64 1)),some (20, true)⟩, ⟨some 28, .ia 1 (.tmp 25) (.tmp 27),some (20, true)⟩, ⟨some 29, .ld none (.tmp 28) [],some (20, true)⟩, ⟨some 30, .cal 275 [(.tmp 24),(.tmp 29)] true [],some (20, true)⟩, ⟨some 31, .not (.tmp 30),some (20, true)⟩, ⟨some 32, .pick (.tmp 20) (.tmp 31) (.const (.bool false)),none⟩] [0, 1, 2, 7, 8, 32]) (.cnd (.tmp 32) .nop (.exi 2))) (.blk 3 (.reg [⟨some 33, .mv (.tmp 7),none⟩, ⟨some 34, .bin .add (.tmp 33) (.const (.int .i64 1)),none⟩, ⟨some 7, .mv (.tmp 34),none⟩] [0, 1, 2, 7, 8])))
noncomputable def b274_1 : C := (.seq (.seq (.reg [⟨some 64, .mv (.tmp 9),none⟩, ⟨some 65, .bin .geq (.tmp 64) (.const (.int .i64 1)),none⟩] [0, 1, 2, 7, 8, 9, 65]) (.cnd (.tmp 65) .nop (.exi 4))) (.seq (.blk 5 (.seq (.seq (.reg [⟨some 68, .mv (.tmp 0),none⟩, ⟨some 69, .mv (.tmp 9),none⟩, ⟨some 70, .ia 1 (.tmp 68) (.tmp 69),none⟩, ⟨some 71, .ld none (.tmp 70) [],none⟩, ⟨some 72, .mv (.tmp 0),none⟩, ⟨some 73, .mv (.tmp 9),none⟩, ⟨some 74, .bin .sub (.tmp 73) (.const (.int .i64 1)),none⟩, ⟨some 75, .ia 1 (.tmp 72) (.tmp 74),none⟩, ⟨some 76, .ld none (.tmp 75) [],none⟩, ⟨some 77, .cal 275 [(.tmp 71),(.tmp 76)] true [],none⟩, ⟨some 78, .not (.tmp 77),none⟩] [0, 1, 2, 7, 8, 9, 78]) (.cnd (.tmp 78) (.exi 4) .nop)) (.reg [⟨some 79, .mv (.tmp 0),none⟩, ⟨some 80, .mv (.tmp 9),none⟩, ⟨some 81, .mv (.tmp 0),none⟩, ⟨some 82, .mv (.tmp 9),none⟩, ⟨some 83, .bin .sub (.tmp 82) (.const (.int .i64 1)),none⟩, ⟨some 84, .mv (.tmp 0),none⟩, ⟨some 85, .mv (.tmp 9),none⟩, ⟨some 86, .bin .sub (.tmp 85) (.const (.int .i64 1)),none⟩, ⟨some 87, .ia 1 (.tmp 84) (.tmp 86),none⟩, ⟨some 88, .ld none (.tmp 87) [],none⟩, ⟨some 89, .mv (.tmp 0),none⟩, ⟨some 90, .mv (.tmp 9),none⟩, ⟨some 91, .ia 1 (.tmp 89) (.tmp 90),none⟩, ⟨some 92, .ld none (.tmp 91) [],none⟩, ⟨some 93, .ia 1 (.tmp 79) (.tmp 80),none⟩, ⟨none, .st 1 (.tmp 93) (.tmp 88) [],none⟩, ⟨some 94, .ia 1 (.tmp 81) (.tmp 83),none⟩, ⟨none, .st 1 (.tmp 94) (.tmp 92) [],none⟩] [0, 1, 2, 7, 8, 9]))) (.reg [⟨some 66, .mv (.tmp 9),none⟩, ⟨some 67, .bin .sub (.tmp 66) (.const (.int .i64 1)),none⟩, ⟨some 9, .mv (.tmp 67),none⟩] [0, 1, 2, 7, 8, 9])))
noncomputable def b274_2 : C := (.seq (.seq (.reg [⟨some 101, .mv (.tmp 10),none⟩, ⟨some 102, .mv (.tmp 2),none⟩, ⟨some 103, .bin .lss (.tmp 101) (.tmp 102),none⟩] [0, 1, 2, 7, 8, 10, 103]) (.cnd (.tmp 103) .nop (.exi 6))) (.seq (.blk 7 (.seq (.seq (.reg [⟨some 106, .mv (.tmp 0),none⟩, ⟨some 107, .mv (.tmp 10),none⟩, ⟨some 108, .ia 1 (.tmp 106) (.tmp 107),none⟩, ⟨some 109, .ld none (.tmp 108) [],none⟩, ⟨some 110, .mv (.tmp 0),none⟩, ⟨some 111, .mv (.tmp 10),none⟩, ⟨some 112, .bin .sub (.tmp 111) (.const (.int .i64 1)),none⟩, ⟨some 113, .ia 1 (.tmp 110) (.tmp 112),none⟩, ⟨some 114, .ld none (.tmp 113) [],none⟩, ⟨some 115, .cal 275 [(.tmp 109),(.tmp 114)] true [],none⟩, ⟨some 116, .not (.tmp 115),none⟩] [0, 1, 2, 7, 8, 10, 116]) (.cnd (.tmp 116) (.exi 6) .nop)) (.reg [⟨some 117, .mv (.tmp 0),none⟩, ⟨some 118, .mv (.tmp 10),none⟩, ⟨some 119, .mv (.tmp 0),none⟩, ⟨some 120, .mv (.tmp 10),none⟩, ⟨some 121, .bin .sub (.tmp 120) (.const (.int .i64 1)),none⟩, ⟨some 122, .mv (.tmp 0),none⟩, ⟨some 123, .mv (.tmp 10),none⟩, ⟨some 124, .bin .sub (.tmp 123) (.const (.int .i64 1)),none⟩, ⟨some 125, .ia 1 (.tmp 122) (.tmp 124),none⟩, ⟨some 126, .ld none (.tmp 125) [],none⟩, ⟨some 127, .mv (.tmp 0),none⟩, ⟨some 128, .mv (.tmp 10),none⟩, ⟨some 129, .ia 1 (.tmp 127) (.tmp 128),none⟩, ⟨some 130, .ld none (.tmp 129) [],none⟩, ⟨some 131, .ia 1 (.tmp 117) (.tmp 118),none⟩, ⟨none, .st 1 (.tmp 131) (.tmp 126) [],none⟩, ⟨some 132, .ia 1 (.tmp 119) (.tmp 121),none⟩, ⟨none, .st 1 (.tmp 132) (.tmp 130) [],none⟩] [0, 1, 2, 7, 8, 10]))) (.reg [⟨some 104, .mv (.tmp 10),none⟩, ⟨some 105, .bin .add (.tmp 104) (.const (.int .i64 1)),none⟩, ⟨some 10, .mv (.tmp 105),none⟩] [0, 1, 2, 7, 8, 10])))
noncomputable def b274_3 : C := (.seq (.seq (.reg [⟨some 13, .mv (.tmp 8),none⟩, ⟨some 14, .bin .lss (.tmp 13) (.const (.int .i64 5)),none⟩] [0, 1, 2, 7, 8, 14]) (.cnd (.tmp 14) .nop (.exi 0))) (.seq (.blk 1 (.seq (.blk 2 (.lop b274_0)) (.seq (.seq (.reg [⟨some 35, .mv (.tmp 7),none⟩, ⟨some 36, .mv (.tmp 2),none⟩, ⟨some 37, .bin .eql (.tmp 35) (.tmp 36),none⟩] [0, 1, 2, 7, 8, 37]) (.cnd (.tmp 37) (.seq (.reg [⟨some 6, .mv (.const (.bool true)),none⟩] [6]) .ret) .nop)) (.seq (.seq (.reg [⟨some 38, .mv (.tmp 2),none⟩, ⟨some 39, .mv (.tmp 1),none⟩, ⟨some 40, .bin .sub (.tmp 38) (.tmp 39),none⟩, ⟨some 41, .bin .lss (.tmp 40) (.const (.int .i64 50)),none⟩] [0, 1, 2, 7, 8, 41]) (.cnd (.tmp 41) (.seq (.reg [⟨some 6, .mv (.const (.bool false)),none⟩] [6]) .ret) .nop)) (.seq (.reg [⟨some 42, .mv (.tmp 0),none⟩, ⟨some 43, .mv (.tmp 7),none⟩, ⟨some 44, .mv (.tmp 0),none⟩, ⟨some 45, .mv (.tmp 7),none⟩, ⟨some 46, .bin .sub (.tmp 45) (.const (.int .i64 1)),none⟩, ⟨some 47, .mv (.tmp 0),none⟩, ⟨some 48, .mv (.tmp 7),none⟩, ⟨some 49, .bin .sub (.tmp 48) (.const (.int .i64 1)),none⟩, ⟨some 50, .ia 1 (.tmp 47) (.tmp 49),none⟩, ⟨some 51, .ld none (.tmp 50) [],none⟩, ⟨some 52, .mv (.tmp 0),none⟩, ⟨some 53, .mv (.tmp 7),none⟩, ⟨some 54, .ia 1 (.tmp 52) (.tmp 53),none⟩, ⟨some 55, .ld none (.tmp 54) [],none⟩, ⟨some 56, .ia 1 (.tmp 42) (.tmp 43),none⟩, ⟨none, .st 1 (.tmp 56) (.tmp 51) [],none⟩, ⟨some 57, .ia 1 (.tmp 44) (.tmp 46),none⟩, ⟨none, .st 1 (.tmp 57) (.tmp 55) [],none⟩] [0, 1, 2, 7, 8]) (.seq (.seq (.reg [⟨some 58, .mv (.tmp 7),none⟩, ⟨some 59, .mv (.tmp 1),none⟩, ⟨some 60, .bin .sub (.tmp 58) (.tmp 59),none⟩, ⟨some 61, .bin .geq (.tmp 60) (.const (.int .i64 2)),none⟩] [0, 1, 2, 7, 8, 61]) (.cnd (.tmp 61) (.seq (.reg [⟨some 62, .mv (.tmp 7),none⟩, ⟨some 63, .bin .sub (.tmp 62) (.const (.int .i64 1)),none⟩, ⟨some 9, .mv (.tmp 63),none⟩] [0, 1, 2, 7, 8, 9]) (.blk 4 (.lop b274_1))) .nop)) (.seq (.reg [⟨some 95, .mv (.tmp 2),none⟩, ⟨some 96, .mv (.tmp 7),none⟩, ⟨some 97, .bin .sub (.tmp 95) (.tmp 96),none⟩, ⟨some 98, .bin .geq (.tmp 97) (.const (.int .i64 2)),none⟩] [0, 1, 2, 7, 8, 98]) (.cnd (.tmp 98) (.seq (.reg [⟨some 99, .mv (.tmp 7),none⟩, ⟨some 100, .bin .add (.tmp 99) (.const (.int .i64 1)),none⟩, ⟨some 10, .mv (.tmp 100),none⟩] [0, 1, 2, 7, 8, 10]) (.blk 6 (.lop b274_2))) .nop)))))))) (.reg [⟨some 15, .mv (.tmp 8),none⟩, ⟨some 16, .bin .add (.tmp 15) (.const (.int .i64 1)),none⟩, ⟨some 8, .mv (.tmp 16),none⟩] [0, 1, 2, 7, 8])))
noncomputable def c274 : C := (.seq (.reg [⟨some 6, .mv (.const (.bool false)),none⟩] [0, 1, 2]) (.seq (.reg [⟨some 11, .mv (.tmp 1),none⟩, ⟨some 12, .bin .add (.tmp 11) (.const (.int .i64 1)),none⟩, ⟨some 7, .mv (.tmp 12),none⟩] [0, 1, 2, 7]) (.seq (.seq (.reg [⟨some 8, .mv (.const (.int .i64 0)),none⟩] [0, 1, 2, 7, 8]) (.blk 0 (.lop b274_3))) (.seq (.reg [⟨some 6, .mv (.const (.bool false)),none⟩] [6]) .ret))))
noncomputable def fd274 : FD := ⟨3, c274, [.tmp 6]⟩
noncomputable def c278 : C := (.seq (.reg [⟨some 2, .mv (.const (.int .i64 0)),none⟩] [0, 2]) (.seq (.seq (.reg [⟨some 3, .mv (.tmp 0),none⟩, ⟨some 4, .bin .geq (.tmp 3) (.const (.int .u32 65536)),none⟩] [0, 2, 4]) (.cnd (.tmp 4) (.seq (.reg [⟨some 5, .mv (.tmp 0),none⟩, ⟨some 6, .bin .shr (.tmp 5) (.const (.int .u64 16)),none⟩, ⟨some 0, .mv (.tmp 6),none⟩] [0]) (.reg [⟨some 2, .mv (.const (.int .i64 16)),none⟩] [0, 2])) .nop)) (.seq (.seq (.reg [⟨some 7, .mv (.tmp 0),none⟩, ⟨some 8, .bin .geq (.tmp 7) (.const (.int .u32 256)),none⟩] [0, 2, 8]) (.cnd (.tmp 8) (.seq (.reg [⟨some 9, .mv (.tmp 0),none⟩, ⟨some 10, .bin .shr (.tmp 9) (.const (.int .u64 8)),none⟩, ⟨some 0, .mv (.tmp 10),none⟩] [0, 2]) (.reg [⟨some 11, .mv (.tmp 2),none⟩, ⟨some 12, .bin .add (.tmp 11) (.const (.int .i64 8)),none⟩, ⟨some 2, .mv (.tmp 12),none⟩] [0, 2])) .nop)) (.seq (.reg [⟨some 13, .mv (.tmp 2),none⟩, ⟨some 14, .mv (.tmp 0),none⟩, ⟨some 15, .cvi .u8 (.tmp 14),none⟩, ⟨some 16, .ixs (.const (.string len8tab)) (.tmp 15),none⟩, ⟨some 17, .cvi .i64 (.tmp 16),none⟩, ⟨some 18, .bin .add (.tmp 13) (.tmp 17),none⟩, ⟨some 2, .mv (.tmp 18),none⟩] [2]) .ret))))
noncomputable def fd278 : FD := ⟨1, c278, [.tmp 2]⟩
noncomputable def b286_0 : C := (.seq (.reg [⟨some 15, .bin .lss (.tmp 14) (.tmp 13),none⟩] [2, 3, 12, 13, 14, 15]) (.seq (.cnd (.tmp 15) .nop (.exi 0)) (.seq (.blk 1 (.seq (.reg [⟨some 16, .ia 3 (.tmp 12) (.tmp 14),none⟩, ⟨some 17, .ld (some 3) (.tmp 16) [],none⟩, ⟨some 5, .new [(.bool false),(.string ⟨#[]⟩),(.slice none 0 0)],none⟩, ⟨none, .st 3 (.tmp 5) (.tmp 17) [],none⟩] [2, 3, 5, 12, 13, 14]) (.reg [⟨some 18, .fa 2 (.tmp 3),none⟩, ⟨some 19, .ld none (.tmp 18) [],none⟩, ⟨some 20, .ld (some 3) (.tmp 5) [],none⟩, ⟨some 21, .cal 286 [(.tmp 20)] true [],none⟩, ⟨some 22, .bldS 3 [(.bool false),(.string ⟨#[]⟩),(.slice none 0 0)] 1 [(0, (.tmp 21))],none⟩, ⟨some 23, .app 3 (.tmp 19) (.tmp 22) [],none⟩, ⟨some 24, .fa 2 (.tmp 3),none⟩, ⟨none, .st 1 (.tmp 24) (.tmp 23) [],none⟩] [2, 3, 12, 13, 14]))) (.reg [⟨some 25, .bin .add (.tmp 14) (.const (.int .i64 1)),none⟩, ⟨some 14, .mv (.tmp 25),none⟩] [2, 3, 12, 13, 14]))))
noncomputable def c286 : C := (.seq (.reg [⟨some 1, .box (.tmp 0),none⟩, ⟨some 2, .new [(.bool false),(.string ⟨#[]⟩),(.slice none 0 0)],none⟩] [1, 2]) (.seq (.reg [⟨some 6, .fa 0 (.tmp 1),none⟩, ⟨some 7, .ld none (.tmp 6) [],none⟩, ⟨some 8, .fa 1 (.tmp 1),none⟩, ⟨some 9, .ld none (.tmp 8) [],none⟩, ⟨some 10, .bld [(.bool false),(.string ⟨#[]⟩),(.slice none 0 0)] [(0, 1, (.tmp 7)),(1, 1, (.tmp 9))],none⟩, ⟨some 3, .new [(.bool false),(.string ⟨#[]⟩),(.slice none 0 0)],none⟩, ⟨none, .st 3 (.tmp 3) (.tmp 10) [],none⟩] [1, 2, 3]) (.seq (.seq (.reg [⟨some 11, .fa 2 (.tmp 1),none⟩, ⟨some 12, .ld none (.tmp 11) [],none⟩, ⟨some 13, .len (.tmp 12),none⟩, ⟨some 14, .mv (.const (.int .i64 0)),none⟩] [2, 3, 12, 13, 14]) (.blk 0 (.lop b286_0))) (.seq (.reg [⟨some 26, .ld (some 3) (.tmp 3) [],none⟩, ⟨none, .st 3 (.tmp 2) (.tmp 26) [],none⟩] [2]) .ret))))
noncomputable def fd286 : FD := ⟨1, c286, [.cell 2 (some 3)]⟩
noncomputable def c290 : C := (.seq (.reg [⟨some 2, .mv (.const (.bool false)),none⟩] [0]) (.seq (.reg [⟨some 3, .mv (.tmp 0),none⟩, ⟨some 4, .lens (.tmp 3),none⟩, ⟨some 5, .bin .eql (.tmp 4) (.const (.int .i64 1)),none⟩, ⟨some 6, .mv (.tmp 5),none⟩, ⟨some 7, .mv (.tmp 0),some (6, true)⟩, ⟨some 8, .ixs (.tmp 7) (.const (.int .i64 0)),some (6, true)⟩, ⟨some 9, .bin .lss (.tmp 8) (.const (.int .u8 128)),some (6, true)⟩, ⟨some 10, .pick (.tmp 6) (.tmp 9) (.const (.bool false)),none⟩, ⟨some 2, .mv (.tmp 10),none⟩] [2]) .ret))
noncomputable def fd290 : FD := ⟨1, c290, [.tmp 2]⟩
noncomputable def c294 : C := (.seq (.reg [⟨some 6, .mv (.const (.int .i64 0)),none⟩] [0, 1, 2]) (.seq (.reg [⟨some 7, .mv (.tmp 0),none⟩, ⟨some 8, .mv (.tmp 1),none⟩, ⟨some 9, .bin .sub (.tmp 8) (.const (.int .i64 1)),none⟩, ⟨some 10, .mv (.tmp 1),none⟩, ⟨some 11, .mv (.tmp 1),none⟩, ⟨some 12, .bin .add (.tmp 11) (.const (.int .i64 1)),none⟩, ⟨some 13, .mv (.tmp 2),none⟩, ⟨some 14, .cal 295 [(.tmp 7),(.tmp 9),(.tmp 10),(.tmp 12),(.tmp 13)] false [],none⟩, ⟨some 6, .mv (.tmp 14),none⟩] [6]) .ret))
noncomputable def fd294 : FD := ⟨3, c294, [.tmp 6]⟩
noncomputable def c302 : C := (.seq (.reg [⟨some 2, .mv (.const (.int .i64 0)),none⟩] [0]) (.seq (.seq (.reg [⟨some 3, .mv (.tmp 0),none⟩, ⟨some 4, .bin .leq (.tmp 3) (.const (.int .i64 55)),none⟩] [0, 4]) (.cnd (.tmp 4) (.seq (.reg [⟨some 2, .mv (.const (.int .i64 1)),none⟩] [2]) .ret) .nop)) (.seq (.reg [⟨some 5, .mv (.tmp 0),none⟩, ⟨some 6, .cal 303 [(.tmp 5)] true [],none⟩, ⟨some 7, .lens (.tmp 6),none⟩, ⟨some 8, .bin .add (.const (.int .i64 1)) (.tmp 7),none⟩, ⟨some 2, .mv (.tmp 8),none⟩] [2]) .ret)))
noncomputable def fd302 : FD := ⟨1, c302, [.tmp 2]⟩
end Go.Proofs.YtakdnpafdadblaaGreat.EV
namespace Go.Proofs.YtakdnpafdadblaaGreat.EV
open Go
noncomputable def b3_0 : C := (.seq (.seq (.reg [⟨some 22, .mv (.tmp 5),none⟩, ⟨some 23, .bin .lss (.tmp 22) (.const (.int .i64 11)),none⟩] [3, 4, 5, 23]) (.cnd (.tmp 23) .nop (.exi 0))) (.seq (.blk 1 (.seq (.seq (.reg [⟨some 26, .ld (some 10) (.tmp 4) [],none⟩, ⟨some 27, .mv (.tmp 5),none⟩, ⟨some 28, .mv (.tmp 3),none⟩, ⟨some 29, .cal 31 [(.const (.int .i64 2)),(.tmp 27),(.tmp 28)] true [],none⟩, ⟨some 30, .cal 30 [(.tmp 26),(.tmp 29)] true [],none⟩, ⟨some 31, .cal 29 [(.tmp 30)] true [],none⟩, ⟨some 32, .bin .neq (.tmp 31) (.const (.int .i64 0)),none⟩, ⟨some 33, .mv (.tmp 32),none⟩, ⟨some 34, .ld (some 10) (.tmp 4) [],some (33, false)⟩, ⟨some 35, .mv (.tmp 5),some (33, false)⟩, ⟨some 36, .bin .add (.tmp 35) (.const (.int .i64 1)),some (33, false)⟩, ⟨some 37, .mv (.tmp 3),some (33, false)⟩, ⟨some 38, .cal 31 [(.const (.int .i64 2)),(.tmp 36),(.tmp 37)] true [],some (33, false)⟩, ⟨some 39, .cal 30 [(.tmp 34),(.tmp 38)] true [],some (33, false)⟩, ⟨some 40, .cal 29 [(.tmp 39)] true [],some (33, false)⟩, ⟨some 41, .bin .neq (.tmp 40) (.const (.int .i64 10)),some (33, false)⟩, ⟨some 42, .pick (.tmp 33) (.const (.bool true)) (.tmp 41),none⟩] [3, 4, 5, 42]) (.cnd (.tmp 42) (.seq (.reg [⟨some 2, .mv (.const (.bool false)),none⟩] [2]) .ret) .nop)) (.reg [⟨some 43, .ld (some 10) (.tmp 4) [],none⟩, ⟨some 44, .mv (.tmp 5),none⟩, ⟨some 45, .mv (.tmp 3),none⟩, ⟨some 46, .cal 31 [(.const (.int .i64 2)),(.tmp 44),(.tmp 45)] true [],none⟩, ⟨some 47, .cal 32 [(.tmp 43),(.tmp 46)] true [],none⟩, ⟨none, .st 10 (.tmp 4) (.tmp 47) [],none⟩] [3, 4, 5]))) (.reg [⟨some 24, .mv (.tmp 5),none⟩, ⟨some 25, .bin .add (.tmp 24) (.const (.int .i64 1)),none⟩, ⟨some 5, .mv (.tmp 25),none⟩] [3, 4, 5])))
noncomputable def b3_1 : C := (.seq (.seq (.reg [⟨some 51, .mv (.tmp 8),none⟩, ⟨some 52, .fa 8 (.tmp 4),none⟩, ⟨some 53, .ld none (.tmp 52) [],none⟩, ⟨some 54, .len (.tmp 53),none⟩, ⟨some 55, .bin .lss (.tmp 51) (.tmp 54),none⟩] [3, 4, 6, 7, 8, 55]) (.cnd (.tmp 55) .nop (.exi 2))) (.seq (.blk 3 (.seq (.reg [⟨some 59, .fa 8 (.tmp 4),none⟩, ⟨some 60, .ld none (.tmp 59) [],none⟩, ⟨some 61, .mv (.tmp 8),none⟩, ⟨some 62, .ia 21 (.tmp 60) (.tmp 61),none⟩, ⟨some 63, .ld (some 21) (.tmp 62) [],none⟩, ⟨some 64, .cal 34 [(.tmp 63)] true [],none⟩, ⟨some 58, .mv (.tmp 64),none⟩, ⟨some 65, .ex (.tmp 58) 0,none⟩, ⟨some 66, .ex (.tmp 58) 1,none⟩, ⟨some 9, .new [(.int .u64 0),(.int .u64 0),(.int .u64 0),(.int .u64 0)],none⟩, ⟨none, .st 4 (.tmp 9) (.tmp 65) [],none⟩, ⟨some 10, .mv (.tmp 66),none⟩] [3, 4, 6, 7, 8, 9]) (.reg [⟨some 68, .ld (some 4) (.tmp 7) [],none⟩, ⟨some 69, .ld (some 4) (.tmp 9) [],none⟩, ⟨some 70, .cal 35 [(.tmp 68),(.tmp 69)] true [],none⟩, ⟨some 67, .mv (.tmp 70),none⟩, ⟨some 71, .ex (.tmp 67) 0,none⟩, ⟨some 72, .ex (.tmp 67) 1,none⟩, ⟨none, .st 4 (.tmp 7) (.tmp 71) [],none⟩] [3, 4, 6, 7, 8]))) (.reg [⟨some 56, .mv (.tmp 8),none⟩, ⟨some 57, .bin .add (.tmp 56) (.const (.int .i64 1)),none⟩, ⟨some 8, .mv (.tmp 57),none⟩] [3, 4, 6, 7, 8])))
noncomputable def c3 : C := (.seq (.reg [⟨some 1, .box (.tmp 0),none⟩, ⟨some 2, .mv (.const (.bool false)),none⟩] [1]) (.seq (.reg [⟨some 11, .fa 11 (.tmp 1),none⟩, ⟨some 12, .ld none (.tmp 11) [],none⟩, ⟨some 13, .len (.tmp 12),none⟩, ⟨some 14, .cal 27 [(.tmp 13),(.const (.int .i64 50))] true [],none⟩, ⟨some 15, .bin .add (.const (.int .i64 2)) (.tmp 14),none⟩, ⟨some 16, .cvi .u64 (.tmp 15),none⟩, ⟨some 3, .mv (.tmp 16),none⟩] [3]) (.seq (.reg [⟨some 17, .cal 28 [(.const (.int .i64 1048576))] true [],none⟩, ⟨some 4, .new [(.int .i64 0),(.int .i64 0),(.int .u64 0),(.int .u64 0),(.int .u64 0),(.int .u64 0),(.int .i64 0),(.slice none 0 0),(.slice none 0 0),(.slice none 0 0)],none⟩, ⟨none, .st 10 (.tmp 4) (.tmp 17) [],none⟩] [3, 4]) (.seq (.reg [⟨some 18, .fa 7 (.tmp 4),none⟩, ⟨some 19, .ld none (.tmp 18) [],none⟩, ⟨some 20, .ia 5 (.tmp 19) (.const (.int .i64 2)),none⟩, ⟨some 21, .fa 0 (.tmp 20),none⟩, ⟨none, .st 1 (.tmp 21) (.const (.int .i64 5)) [],none⟩] [3, 4]) (.seq (.seq (.reg [⟨some 5, .mv (.const (.int .i64 5)),none⟩] [3, 4, 5]) (.blk 0 (.lop b3_0))) (.seq (.reg [⟨some 48, .ld (some 10) (.tmp 4) [],none⟩, ⟨some 49, .cal 33 [(.tmp 48)] true [],none⟩, ⟨some 6, .new [(.int .i64 0),(.int .i64 0),(.int .u64 0),(.int .u64 0),(.int .u64 0),(.int .u64 0),(.int .i64 0),(.slice none 0 0),(.slice none 0 0),(.slice none 0 0)],none⟩, ⟨none, .st 10 (.tmp 6) (.tmp 49) [],none⟩] [3, 4, 6]) (.seq (.reg [⟨some 50, .bld [(.int .u64 0),(.int .u64 0),(.int .u64 0),(.int .u64 0)] [],none⟩, ⟨some 7, .new [(.int .u64 0),(.int .u64 0),(.int .u64 0),(.int .u64 0)],none⟩, ⟨none, .st 4 (.tmp 7) (.tmp 50) [],none⟩] [3, 4, 6, 7]) (.seq (.seq (.reg [⟨some 8, .mv (.const (.int .i64 0)),none⟩] [3, 4, 6, 7, 8]) (.blk 2 (.lop b3_1))) (.seq (.reg [⟨some 73, .fa 7 (.tmp 6),none⟩, ⟨some 74, .ld none (.tmp 73) [],none⟩, ⟨some 75, .ld (some 4) (.tmp 7) [],none⟩, ⟨some 76, .ia 5 (.tmp 74) (.const (.int .i64 2)),none⟩, ⟨some 77, .fa 1 (.tmp 76),none⟩, ⟨none, .st 4 (.tmp 77) (.tmp 75) [],none⟩] [3, 4, 6]) (.seq (.reg [⟨some 78, .ld (some 10) (.tmp 4) [],none⟩, ⟨some 79, .mv (.tmp 3),none⟩, ⟨some 80, .cal 31 [(.const (.int .i64 2)),(.const (.int .i64 4)),(.tmp 79)] true [],none⟩, ⟨some 81, .cal 30 [(.tmp 78),(.tmp 80)] true [],none⟩, ⟨some 82, .cal 29 [(.tmp 81)] true [],none⟩, ⟨some 83, .bin .eql (.tmp 82) (.const (.int .i64 9)),none⟩, ⟨some 84, .mv (.tmp 83),none⟩, ⟨some 85, .ld (some 10) (.tmp 4) [],some (84, true)⟩, ⟨some 86, .mv (.tmp 3),some (84, true)⟩, ⟨some 87, .cal 31 [(.const (.int .i64 2)),(.const (.int .i64 11)),(.tmp 86)] true [],some (84, true)⟩, ⟨some 88, .cal 30 [(.tmp 85),(.tmp 87)] true [],some (84, true)⟩, ⟨some 89, .cal 29 [(.tmp 88)] true [],some (84, true)⟩, ⟨some 90, .bin .eql (.tmp 89) (.const (.int .i64 2)),some (84, true)⟩, ⟨some 91, .pick (.tmp 84) (.tmp 90) (.const (.bool false)),none⟩, ⟨some 92, .mv (.tmp 91),none⟩, ⟨some 93, .ld (some 10) (.tmp 4) [],some (92, true)⟩, ⟨some 94, .mv (.tmp 3),some (92, true)⟩, ⟨some 95, .bin .mul (.const (.int .u64 2)) (.tmp 94),some (92, true)⟩, ⟨some 96, .bin .sub (.tmp 95) (.const (.int .u64 1)),some (92, true)⟩, ⟨some 97, .cal 31 [(.const (.int .i64 2)),(.const (.int .i64 7)),(.tmp 96)] true [],some (92, true)⟩, ⟨some 98, .cal 30 [(.tmp 93),(.tmp 97)] true [],some (92, true)⟩, ⟨some 99, .cal 29 [(.tmp 98)] true [],some (92, true)⟩, ⟨some 100, .bin .eql (.tmp 99) (.const (.int .i64 11)),some (92, true)⟩, ⟨some 101, .pick (.tmp 92) (.tmp 100) (.const (.bool false)),none⟩, ⟨some 102, .mv (.tmp 101),none⟩, ⟨some 103, .ld (some 10) (.tmp 4) [],some (102, true)⟩, ⟨some 104, .mv (.tmp 3),some (102, true)⟩, ⟨some 105, .bin .mul (.const (.int .u64 2)) (.tmp 104),some (102, true)⟩, ⟨some 106, .cal 31 [(.const (.int .i64 2)),(.const (.int .i64 7)),(.tmp 105)] true [],some (102, true)⟩, ⟨some 107, .cal 30 [(.tmp 103),(.tmp 106)] true [],some (102, true)⟩, ⟨some 108, .cal 29 [(.tmp 107)] true [],some (102, true)⟩, ⟨some 109, .bin .eql (.tmp 108) (.const (.int .i64 0)),some (102, true)⟩, ⟨some 110, .pick (.tmp 102) (.tmp 109) (.const (.bool false)),none⟩, ⟨some 111, .mv (.tmp 110),none⟩, ⟨some 112, .ld (some 10) (.tmp 4) [],some (111, true)⟩, ⟨some 113, .mv (.tmp 3),some (111, true)⟩, ⟨some 114, .cal 31 [(.const (.int .i64 2)),(.const (.int .i64 7)),(.tmp 113)] true [],some (111, true)⟩, ⟨some 115, .cal 30 [(.tmp 112),(.tmp 114)] true [],some (111, true)⟩, ⟨some 116, .cal 29 [(.tmp 115)] true [],some (111, true)⟩, ⟨some 117, .bin .eql (.tmp 116) (.const (.int .i64 4)),some (111, true)⟩, ⟨some 118, .pick (.tmp 111) (.tmp 117) (.const (.bool false)),none⟩, ⟨some 119, .mv (.tmp 118),none⟩, ⟨some 120, .ld (some 10) (.tmp 6) [],some (119, true)⟩, ⟨some 121, .mv (.tmp 3),some (119, true)⟩, ⟨some 122, .bin .mul (.const (.int .u64 2)) (.tmp 121),some (119, true)⟩, ⟨some 123, .cal 31 [(.const (.int .i64 2)),(.const (.int .i64 7)),(.tmp 122)] true [],some (119, true)⟩, ⟨some 124, .cal 30 [(.tmp 120),(.tmp 123)] true [],some (119, true)⟩, ⟨some 125, .cal 29 [(.tmp 124)] true [],some (119, true)⟩, ⟨some 126, .bin .eql (.tmp 125) (.const (.int .i64 12)),some (119, true)⟩, ⟨some 127, .pick (.tmp 119) (.tmp 126) (.const (.bool false)),none⟩, ⟨some 128, .mv (.tmp 127),none⟩, ⟨some 129, .cal 36 [] true [],some (128, true)⟩, ⟨some 130, .pick (.tmp 128) (.tmp 129) (.const (.bool false)),none⟩, ⟨some 2, .mv (.tmp 130),none⟩] [2]) .ret))))))))))
noncomputable def fd3 : FD := ⟨1, c3, [.tmp 2]⟩
noncomputable def c27 : C := (.seq (.reg [⟨some 4, .mv (.const (.int .i64 0)),none⟩] [0, 1]) (.seq (.reg [⟨some 5, .mv (.tmp 0),none⟩, ⟨some 6, .cvi .u64 (.tmp 5),none⟩, ⟨some 7, .mv (.tmp 1),none⟩, ⟨some 8, .cvi .u64 (.tmp 7),none⟩, ⟨some 9, .bin .rem (.tmp 6) (.tmp 8),none⟩, ⟨some 10, .cvi .i64 (.tmp 9),none⟩, ⟨some 4, .mv (.tmp 10),none⟩] [4]) .ret))
noncomputable def fd27 : FD := ⟨2, c27, [.tmp 4]⟩
noncomputable def c31 : C := (.seq (.reg [⟨some 6, .new [(.int .i64 0),(.int .i64 0),(.int .u64 0),(.int .u64 0),(.int .u64 0),(.int .u64 0),(.int .u64 0),(.int .u64 0),(.int .u64 0),(.int .u64 0),(.int .u64 0),(.int .u64 0),(.int .u64 0),(.int .u64 0),(.int .u64 0),(.int .u64 0),(.int .u64 0),(.int .u64 0),(.int .i64 0),(.slice none 0 0),(.slice none 0 0)],none⟩] [0, 1, 2, 6]) (.seq (.reg [⟨some 7, .mv (.tmp 0),none⟩, ⟨some 8, .mv (.tmp 1),none⟩, ⟨some 9, .mv (.tmp 2),none⟩, ⟨some 10, .bld [(.int .u64 0),(.int .u64 0),(.int .u64 0),(.int .u64 0)] [(0, 1, (.tmp 9))],none⟩, ⟨some 11, .mv (.tmp 2),none⟩, ⟨some 12, .bin .mul (.const (.int .u64 2)) (.tmp 11),none⟩, ⟨some 13, .bld [(.int .u64 0),(.int .u64 0),(.int .u64 0),(.int .u64 0)] [(0, 1, (.tmp 12))],none⟩, ⟨some 14, .mv (.tmp 2),none⟩, ⟨some 15, .bld [(.int .u64 0),(.int .u64 0),(.int .u64 0),(.int .u64 0)] [(0, 1, (.tmp 14))],none⟩, ⟨some 16, .cal 94 [(.const (.string ⟨#[98]⟩))] true [],none⟩, ⟨some 17, .bldS 1 [(.int .u64 0)] 1 [(0, (.tmp 16))],none⟩, ⟨some 18, .bldS 1 [(.string ⟨#[]⟩)] 1 [(0, (.const (.string ⟨#[98]⟩)))],none⟩, ⟨some 19, .bld [(.int .i64 0),(.int .i64 0),(.int .u64 0),(.int .u64 0),(.int .u64 0),(.int .u64 0),(.int .u64 0),(.int .u64 0),(.int .u64 0),(.int .u64 0),(.int .u64 0),(.int .u64 0),(.int .u64 0),(.int .u64 0),(.int .u64 0),(.int .u64 0),(.int .u64 0),(.int .u64 0),(.int .i64 0),(.slice none 0 0),(.slice none 0 0)] [(0, 1, (.tmp 7)),(1, 1, (.tmp 8)),(2, 4, (.tmp 10)),(6, 4, (.tmp 13)),(10, 4, (.tmp 15)),(18, 1, (.const (.int .i64 1))),(19, 1, (.tmp 17)),(20, 1, (.tmp 18))],none⟩, ⟨none, .st 21 (.tmp 6) (.tmp 19) [],none⟩] [6]) .ret))
noncomputable def fd31 : FD := ⟨3, c31, [.cell 6 (some 21)]⟩
noncomputable def b35_0 : C := (.seq (.seq (.reg [⟨some 12, .mv (.tmp 8),none⟩, ⟨some 13, .bin .lss (.tmp 12) (.const (.int .i64 4)),none⟩] [2, 3, 4, 6, 7, 8, 13]) (.cnd (.tmp 13) .nop (.exi 0))) (.seq (.blk 1 (.seq (.reg [⟨some 16, .mv (.tmp 8),none⟩, ⟨some 17, .iaa 4 1 (.tmp 2) (.tmp 16),none⟩, ⟨some 18, .ld none (.tmp 17) [],none⟩, ⟨some 19, .mv (.tmp 8),none⟩, ⟨some 20, .iaa 4 1 (.tmp 3) (.tmp 19),none⟩, ⟨some 21, .ld none (.tmp 20) [],none⟩, ⟨some 22, .bin .add (.tmp 18) (.tmp 21),none⟩, ⟨some 9, .mv (.tmp 22),none⟩] [2, 3, 4, 6, 7, 8, 9]) (.seq (.reg [⟨some 10, .mv (.const (.int .u64 0)),none⟩] [2, 3, 4, 6, 7, 8, 9, 10]) (.seq (.seq (.reg [⟨some 23, .mv (.tmp 9),none⟩, ⟨some 24, .mv (.tmp 8),none⟩, ⟨some 25, .iaa 4 1 (.tmp 2) (.tmp 24),none⟩, ⟨some 26, .ld none (.tmp 25) [],none⟩, ⟨some 27, .bin .lss (.tmp 23) (.tmp 26),none⟩] [2, 3, 4, 6, 7, 8, 9, 10, 27]) (.cnd (.tmp 27) (.reg [⟨some 10, .mv (.const (.int .u64 1)),none⟩] [2, 3, 4, 6, 7, 8, 9, 10]) .nop)) (.seq (.reg [⟨some 28, .mv (.tmp 9),none⟩, ⟨some 29, .mv (.tmp 7),none⟩, ⟨some 30, .bin .add (.tmp 28) (.tmp 29),none⟩, ⟨some 11, .mv (.tmp 30),none⟩] [2, 3, 4, 6, 8, 9, 10, 11]) (.seq (.seq (.reg [⟨some 31, .mv (.tmp 11),none⟩, ⟨some 32, .mv (.tmp 9),none⟩, ⟨some 33, .bin .lss (.tmp 31) (.tmp 32),none⟩] [2, 3, 4, 6, 8, 10, 11, 33]) (.cnd (.tmp 33) (.reg [⟨some 10, .mv (.const (.int .u64 1)),none⟩] [2, 3, 4, 6, 8, 10, 11]) .nop)) (.reg [⟨some 34, .mv (.tmp 8),none⟩, ⟨some 35, .mv (.tmp 11),none⟩, ⟨some 36, .mv (.tmp 10),none⟩, ⟨some 37, .iaa 4 1 (.tmp 6) (.tmp 34),none⟩, ⟨none, .st 1 (.tmp 37) (.tmp 35) [],none⟩, ⟨some 7, .mv (.tmp 36),none⟩] [2, 3, 4, 6, 7, 8]))))))) (.reg [⟨some 14, .mv (.tmp 8),none⟩, ⟨some 15, .bin .add (.tmp 14) (.const (.int .i64 1)),none⟩, ⟨some 8, .mv (.tmp 15),none⟩] [2, 3, 4, 6, 7, 8])))
noncomputable def c35 : C := (.seq (.reg [⟨some 2, .box (.tmp 0),none⟩, ⟨some 3, .box (.tmp 1),none⟩, ⟨some 4, .new [(.int .u64 0),(.int .u64 0),(.int .u64 0),(.int .u64 0)],none⟩, ⟨some 5, .mv (.const (.bool false)),none⟩] [2, 3, 4]) (.seq (.reg [⟨some 6, .new [(.int .u64 0),(.int .u64 0),(.int .u64 0),(.int .u64 0)],none⟩] [2, 3, 4, 6]) (.seq (.reg [⟨some 7, .mv (.const (.int .u64 0)),none⟩] [2, 3, 4, 6, 7]) (.seq (.seq (.reg [⟨some 8, .mv (.const (.int .i64 0)),none⟩] [2, 3, 4, 6, 7, 8]) (.blk 0 (.lop b35_0))) (.seq (.seq (.reg [⟨some 38, .mv (.tmp 7),none⟩, ⟨some 39, .bin .gtr (.tmp 38) (.const (.int .u64 0)),none⟩] [4, 6, 39]) (.cnd (.tmp 39) (.seq (.reg [⟨some 40, .bld [(.int .u64 0),(.int .u64 0),(.int .u64 0),(.int .u64 0)] [],none⟩, ⟨none, .st 4 (.tmp 4) (.tmp 40) [],none⟩, ⟨some 5, .mv (.const (.bool false)),none⟩] [4, 5]) .ret) .nop)) (.seq (.reg [⟨some 41, .ld (some 4) (.tmp 6) [],none⟩, ⟨none, .st 4 (.tmp 4) (.tmp 41) [],none⟩, ⟨some 5, .mv (.const (.bool true)),none⟩] [4, 5]) .ret))))))
noncomputable def fd35 : FD := ⟨2, c35, [.cell 4 (some 4),.tmp 5]⟩
noncomputable def c63 : C := (.seq (.reg [⟨some 1, .box (.tmp 0),none⟩, ⟨some 2, .new [(.int .i64 0),(.int .i64 0),(.int .u64 0),(.int .u64 0),(.int .u64 0),(.int .u64 0),(.int .u64 0),(.int .u64 0),(.int .u64 0),(.int .u64 0),(.int .u64 0),(.int .u64 0),(.int .u64 0),(.int .u64 0),(.int .u64 0),(.int .u64 0),(.int .u64 0),(.int .u64 0),(.int .i64 0),(.slice none 0 0),(.slice none 0 0)],none⟩] [1, 2]) (.seq (.reg [⟨some 4, .ld (some 21) (.tmp 1) [],none⟩, ⟨some 3, .new [(.int .i64 0),(.int .i64 0),(.int .u64 0),(.int .u64 0),(.int .u64 0),(.int .u64 0),(.int .u64 0),(.int .u64 0),(.int .u64 0),(.int .u64 0),(.int .u64 0),(.int .u64 0),(.int .u64 0),(.int .u64 0),(.int .u64 0),(.int .u64 0),(.int .u64 0),(.int .u64 0),(.int .i64 0),(.slice none 0 0),(.slice none 0 0)],none⟩, ⟨none, .st 21 (.tmp 3) (.tmp 4) [],none⟩] [1, 2, 3]) (.seq (.reg [⟨some 5, .fa 19 (.tmp 1),none⟩, ⟨some 6, .ld none (.tmp 5) [],none⟩, ⟨some 7, .cal 132 [(.tmp 6)] true [],none⟩, ⟨some 8, .fa 19 (.tmp 3),none⟩, ⟨none, .st 1 (.tmp 8) (.tmp 7) [],none⟩] [1, 2, 3]) (.seq (.reg [⟨some 9, .fa 20 (.tmp 1),none⟩, ⟨some 10, .ld none (.tmp 9) [],none⟩, ⟨some 11, .cal 133 [(.tmp 10)] true [],none⟩, ⟨some 12, .fa 20 (.tmp 3),none⟩, ⟨none, .st 1 (.tmp 12) (.tmp 11) [],none⟩] [2, 3]) (.seq (.reg [⟨some 13, .ld (some 21) (.tmp 3) [],none⟩, ⟨none, .st 21 (.tmp 2) (.tmp 13) [],none⟩] [2]) .ret)))))
noncomputable def fd63 : FD := ⟨1, c63, [.cell 2 (some 21)]⟩
noncomputable def c91 : C := (.seq (.reg [⟨some 2, .box (.tmp 0),none⟩, ⟨some 3, .box (.tmp 1),none⟩, ⟨some 4, .mv (.const (.bool false)),none⟩] [2, 3]) (.seq (.reg [⟨some 5, .fa 8 (.tmp 2),none⟩, ⟨some 6, .ld none (.tmp 5) [],none⟩, ⟨some 7, .cal 137 [(.tmp 6)] true [],none⟩, ⟨some 8, .ld none (.tmp 3) [],none⟩, ⟨some 9, .cal 158 [(.tmp 7),(.tmp 8)] true [],none⟩, ⟨some 10, .mv (.tmp 9),none⟩, ⟨some 11, .fa 9 (.tmp 2),some (10, false)⟩, ⟨some 12, .ld none (.tmp 11) [],some (10, false)⟩, ⟨some 13, .mkf 173 [(.tmp 3)],some (10, false)⟩, ⟨some 14, .cal 172 [(.tmp 12),(.tmp 13)] true [],some (10, false)⟩, ⟨some 15, .pick (.tmp 10) (.const (.bool true)) (.tmp 14),none⟩, ⟨some 4, .mv (.tmp 15),none⟩] [4]) .ret))
noncomputable def fd91 : FD := ⟨2, c91, [.tmp 4]⟩
noncomputable def b95_0 : C := (.seq (.seq (.reg [⟨some 5, .mv (.tmp 4),none⟩, ⟨some 6, .mv (.tmp 0),none⟩, ⟨some 7, .len (.tmp 6),none⟩, ⟨some 8, .bin .lss (.tmp 5) (.tmp 7),none⟩] [0, 3, 4, 8]) (.cnd (.tmp 8) .nop (.exi 0))) (.seq (.blk 1 (.reg [⟨some 11, .mv (.tmp 3),none⟩, ⟨some 12, .mv (.tmp 0),none⟩, ⟨some 13, .mv (.tmp 4),none⟩, ⟨some 14, .ia 21 (.tmp 12) (.tmp 13),none⟩, ⟨some 15, .ld (some 21) (.tmp 14) [],none⟩, ⟨some 16, .cal 63 [(.tmp 15)] true [],none⟩, ⟨some 17, .bldS 21 [(.int .i64 0),(.int .i64 0),(.int .u64 0),(.int .u64 0),(.int .u64 0),(.int .u64 0),(.int .u64 0),(.int .u64 0),(.int .u64 0),(.int .u64 0),(.int .u64 0),(.int .u64 0),(.int .u64 0),(.int .u64 0),(.int .u64 0),(.int .u64 0),(.int .u64 0),(.int .u64 0),(.int .i64 0),(.slice none 0 0),(.slice none 0 0)] 1 [(0, (.tmp 16))],none⟩, ⟨some 18, .app 21 (.tmp 11) (.tmp 17) [],none⟩, ⟨some 3, .mv (.tmp 18),none⟩] [0, 3, 4])) (.reg [⟨some 9, .mv (.tmp 4),none⟩, ⟨some 10, .bin .add (.tmp 9) (.const (.int .i64 1)),none⟩, ⟨some 4, .mv (.tmp 10),none⟩] [0, 3, 4])))
noncomputable def c95 : C := (.seq (.reg [⟨some 2, .mv (.const (.slice none 0 0)),none⟩] [0]) (.seq (.reg [⟨some 3, .mv (.const (.slice none 0 0)),none⟩] [0, 3]) (.seq (.seq (.reg [⟨some 4, .mv (.const (.int .i64 0)),none⟩] [0, 3, 4]) (.blk 0 (.lop b95_0))) (.seq (.reg [⟨some 19, .mv (.tmp 3),none⟩, ⟨some 2, .mv (.tmp 19),none⟩] [2]) .ret))))
noncomputable def fd95 : FD := ⟨1, c95, [.tmp 2]⟩
noncomputable def c103 : C := (.seq (.reg [⟨some 2, .mv (.const (.int .i64 0)),none⟩, ⟨some 3, .mv (.const (.int .i64 0)),none⟩] [0]) (.seq (.seq (.reg [⟨some 4, .mv (.tmp 0),none⟩, ⟨some 5, .bin .lss (.tmp 4) (.const (.int .i64 1)),none⟩, ⟨some 6, .mv (.tmp 5),none⟩, ⟨some 7, .mv (.tmp 0),some (6, false)⟩, ⟨some 8, .bin .gtr (.tmp 7) (.const (.int .i64 4)),some (6, false)⟩, ⟨some 9, .pick (.tmp 6) (.const (.bool true)) (.tmp 8),none⟩] [0, 9]) (.cnd (.tmp 9) (.seq (.reg [⟨some 2, .mv (.const (.int .i64 0)),none⟩, ⟨some 3, .mv (.const (.int .i64 1)),none⟩] [2, 3]) .ret) .nop)) (.seq (.reg [⟨some 10, .mv (.tmp 0),none⟩, ⟨some 11, .bin .mul (.tmp 10) (.const (.int .i64 131072)),none⟩, ⟨some 2, .mv (.tmp 11),none⟩, ⟨some 3, .mv (.const (.int .i64 0)),none⟩] [2, 3]) .ret)))
noncomputable def fd103 : FD := ⟨1, c103, [.tmp 2, .tmp 3]⟩
noncomputable def c124 : C := (.seq (.reg [⟨some 2, .mv (.const (.bool false)),none⟩] [0]) (.seq (.reg [⟨some 6, .cal 198 [(.const (.int .i64 3))] true [],none⟩, ⟨some 5, .mv (.tmp 6),none⟩, ⟨some 7, .ex (.tmp 5) 0,none⟩, ⟨some 8, .ex (.tmp 5) 1,none⟩, ⟨some 3, .mv (.tmp 7),none⟩, ⟨some 4, .mv (.tmp 8),none⟩] [0, 3]) (.seq (.reg [⟨some 9, .mv (.tmp 0),none⟩, ⟨some 10, .mv (.tmp 3),none⟩, ⟨some 11, .bin .geq (.tmp 9) (.tmp 10),none⟩, ⟨some 12, .mv (.tmp 11),none⟩, ⟨some 13, .mv (.tmp 0),some (12, true)⟩, ⟨some 14, .bin .leq (.tmp 13) (.const (.int .i64 1048576)),some (12, true)⟩, ⟨some 15, .pick (.tmp 12) (.tmp 14) (.const (.bool false)),none⟩, ⟨some 2, .mv (.tmp 15),none⟩] [2]) .ret)))
noncomputable def fd124 : FD := ⟨1, c124, [.tmp 2]⟩
noncomputable def b132_0 : C := (.seq (.seq (.reg [⟨some 5, .mv (.tmp 4),none⟩, ⟨some 6, .mv (.tmp 0),none⟩, ⟨some 7, .len (.tmp 6),none⟩, ⟨some 8, .bin .lss (.tmp 5) (.tmp 7),none⟩] [0, 3, 4, 8]) (.cnd (.tmp 8) .nop (.exi 0))) (.seq (.blk 1 (.reg [⟨some 11, .mv (.tmp 3),none⟩, ⟨some 12, .mv (.tmp 0),none⟩, ⟨some 13, .mv (.tmp 4),none⟩, ⟨some 14, .ia 1 (.tmp 12) (.tmp 13),none⟩, ⟨some 15, .ld none (.tmp 14) [],none⟩, ⟨some 16, .bldS 1 [(.int .u64 0)] 1 [(0, (.tmp 15))],none⟩, ⟨some 17, .app 1 (.tmp 11) (.tmp 16) [],none⟩, ⟨some 3, .mv (.tmp 17),none⟩] [0, 3, 4])) (.reg [⟨some 9, .mv (.tmp 4),none⟩, ⟨some 10, .bin .add (.tmp 9) (.const (.int .i64 1)),none⟩, ⟨some 4, .mv (.tmp 10),none⟩] [0, 3, 4])))
noncomputable def c132 : C := (.seq (.reg [⟨some 2, .mv (.const (.slice none 0 0)),none⟩] [0]) (.seq (.reg [⟨some 3, .mv (.const (.slice none 0 0)),none⟩] [0, 3]) (.seq (.seq (.reg [⟨some 4, .mv (.const (.int .i64 0)),none⟩] [0, 3, 4]) (.blk 0 (.lop b132_0))) (.seq (.reg [⟨some 18, .mv (.tmp 3),none⟩, ⟨some 2, .mv (.tmp 18),none⟩] [2]) .ret))))
noncomputable def fd132 : FD := ⟨1, c132, [.tmp 2]⟩
noncomputable def b136_0 : C := (.seq (.reg [⟨some 9, .bin .lss (.tmp 8) (.tmp 7),none⟩] [0, 1, 7, 8, 9]) (.seq (.cnd (.tmp 9) .nop (.exi 0)) (.seq (.blk 1 (.seq (.reg [⟨some 10, .mv (.tmp 8),none⟩, ⟨some 5, .mv (.tmp 10),none⟩] [0, 1, 5, 7, 8]) (.seq (.reg [⟨some 11, .mv (.tmp 1),none⟩, ⟨some 12, .mv (.tmp 0),none⟩, ⟨some 13, .mv (.tmp 5),none⟩, ⟨some 14, .ia 1 (.tmp 12) (.tmp 13),none⟩, ⟨some 15, .ld none (.tmp 14) [],none⟩, ⟨some 16, .bin .eql (.tmp 11) (.tmp 15),none⟩] [0, 1, 5, 7, 8, 16]) (.cnd (.tmp 16) (.seq (.reg [⟨some 17, .mv (.tmp 5),none⟩, ⟨some 4, .mv (.tmp 17),none⟩] [4]) .ret) .nop)))) (.reg [⟨some 18, .bin .add (.tmp 8) (.const (.int .i64 1)),none⟩, ⟨some 8, .mv (.tmp 18),none⟩] [0, 1, 7, 8]))))
noncomputable def c136 : C := (.seq (.reg [⟨some 4, .mv (.const (.int .i64 0)),none⟩] [0, 1]) (.seq (.seq (.reg [⟨some 6, .mv (.tmp 0),none⟩, ⟨some 7, .len (.tmp 6),none⟩, ⟨some 8, .mv (.const (.int .i64 0)),none⟩] [0, 1, 7, 8]) (.blk 0 (.lop b136_0))) (.seq (.reg [⟨some 4, .mv (.const (.int .i64 (-1))),none⟩] [4]) .ret)))
noncomputable def fd136 : FD := ⟨2, c136, [.tmp 4]⟩
noncomputable def c172 : C := (.seq (.reg [⟨some 4, .mv (.const (.bool false)),none⟩] [0, 1]) (.seq (.reg [⟨some 5, .mv (.tmp 0),none⟩, ⟨some 6, .mv (.tmp 1),none⟩, ⟨some 7, .cal 236 [(.tmp 5),(.tmp 6)] true [],none⟩, ⟨some 8, .bin .geq (.tmp 7) (.const (.int .i64 0)),none⟩, ⟨some 4, .mv (.tmp 8),none⟩] [4]) .ret))
noncomputable def fd172 : FD := ⟨2, c172, [.tmp 4]⟩
noncomputable def c176 : C := (.seq (.reg [⟨some 1, .box (.tmp 0),none⟩, ⟨some 2, .new [(.int .u64 0),(.int .u64 0),(.int .u64 0),(.int .u64 0)],none⟩, ⟨some 3, .mv (.const (.int .i64 0)),none⟩] [1, 2]) (.seq (.reg [⟨some 4, .ld (some 4) (.tmp 1) [],none⟩, ⟨some 5, .ld (some 4) (.tmp 1) [],none⟩, ⟨some 6, .cal 178 [(.tmp 4),(.tmp 5)] true [],none⟩, ⟨some 7, .ex (.tmp 6) 0,none⟩, ⟨some 8, .ex (.tmp 6) 1,none⟩, ⟨none, .st 4 (.tmp 2) (.tmp 7) [],none⟩, ⟨some 3, .mv (.tmp 8),none⟩] [2, 3]) .ret))
noncomputable def fd176 : FD := ⟨1, c176, [.cell 2 (some 4),.tmp 3]⟩
noncomputable def c180 : C := (.seq (.reg [⟨some 2, .box (.tmp 0),none⟩, ⟨some 4, .mv (.const (.int .u64 0)),none⟩] [1, 2]) (.seq (.reg [⟨some 5, .mv (.tmp 1),none⟩, ⟨some 6, .bin .quo (.tmp 5) (.const (.int .i64 2)),none⟩, ⟨some 7, .iaa 4 1 (.tmp 2) (.tmp 6),none⟩, ⟨some 8, .ld none (.tmp 7) [],none⟩, ⟨some 9, .mv (.tmp 1),none⟩, ⟨some 10, .bin .rem (.tmp 9) (.const (.int .i64 2)),none⟩, ⟨some 11, .bin .mul (.const (.int .i64 32)) (.tmp 10),none⟩, ⟨some 12, .bin .shr (.tmp 8) (.tmp 11),none⟩, ⟨some 13, .bin .and (.tmp 12) (.const (.int .u64 4294967295)),none⟩, ⟨some 4, .mv (.tmp 13),none⟩] [4]) .ret))
noncomputable def fd180 : FD := ⟨2, c180, [.tmp 4]⟩
noncomputable def c201 : C := (.seq (.reg [⟨some 2, .new [(.int .u64 0),(.int .u64 0),(.int .u64 0),(.int .u64 0)],none⟩, ⟨some 3, .mv (.const (.int .i64 0)),none⟩] [0, 2]) (.seq (.reg [⟨some 7, .mv (.tmp 0),none⟩, ⟨some 8, .cal 235 [(.tmp 7)] true [],none⟩, ⟨some 6, .mv (.tmp 8),none⟩, ⟨some 9, .ex (.tmp 6) 0,none⟩, ⟨some 10, .ex (.tmp 6) 1,none⟩, ⟨some 4, .new [(.int .u64 0),(.int .u64 0),(.int .u64 0),(.int .u64 0)],none⟩, ⟨none, .st 4 (.tmp 4) (.tmp 9) [],none⟩, ⟨some 5, .mv (.tmp 10),none⟩] [2, 4, 5]) (.seq (.seq (.reg [⟨some 11, .mv (.tmp 5),none⟩, ⟨some 12, .not (.tmp 11),none⟩] [2, 4, 12]) (.cnd (.tmp 12) (.seq (.reg [⟨some 13, .bld [(.int .u64 0),(.int .u64 0),(.int .u64 0),(.int .u64 0)] [],none⟩, ⟨none, .st 4 (.tmp 2) (.tmp 13) [],none⟩, ⟨some 3, .mv (.const (.int .i64 1)),none⟩] [2, 3]) .ret) .nop)) (.seq (.reg [⟨some 14, .ld (some 4) (.tmp 4) [],none⟩, ⟨none, .st 4 (.tmp 2) (.tmp 14) [],none⟩, ⟨some 3, .mv (.const (.int .i64 0)),none⟩] [2, 3]) .ret))))
noncomputable def fd201 : FD := ⟨1, c201, [.cell 2 (some 4),.tmp 3]⟩
noncomputable def c205 : C := (.seq (.reg [⟨some 1, .box (.tmp 0),none⟩, ⟨some 2, .mv (.const (.bool false)),none⟩] [1]) (.seq (.reg [⟨some 3, .fa 0 (.tmp 1),none⟩, ⟨some 4, .ld none (.tmp 3) [],none⟩, ⟨some 5, .bin .lss (.tmp 4) (.const (.int .i64 0)),none⟩, ⟨some 6, .mv (.tmp 5),none⟩, ⟨some 7, .fa 0 (.tmp 1),some (6, false)⟩, ⟨some 8, .ld none (.tmp 7) [],some (6, false)⟩, ⟨some 9, .bin .gtr (.tmp 8) (.const (.int .i64 1099511627776)),some (6, false)⟩, ⟨some 10, .pick (.tmp 6) (.const (.bool true)) (.tmp 9),none⟩, ⟨some 2, .mv (.tmp 10),none⟩] [2]) .ret))
noncomputable def fd205 : FD := ⟨1, c205, [.tmp 2]⟩
noncomputable def c233 : C := (.seq (.reg [⟨some 1, .box (.tmp 0),none⟩, ⟨some 2, .new [(.bool false),(.string ⟨#[]⟩),(.slice none 0 0)],none⟩] [1, 2]) (.seq (.reg [⟨some 3, .ld (some 4) (.tmp 1) [],none⟩, ⟨some 4, .cal 264 [(.tmp 3)] true [],none⟩, ⟨some 5, .bld [(.bool false),(.string ⟨#[]⟩),(.slice none 0 0)] [(1, 1, (.tmp 4))],none⟩, ⟨none, .st 3 (.tmp 2) (.tmp 5) [],none⟩] [2]) .ret))
noncomputable def fd233 : FD := ⟨1, c233, [.cell 2 (some 3)]⟩
noncomputable def b247_0 : C := (.seq (.reg [⟨some 9, .bin .lss (.tmp 8) (.tmp 7),none⟩] [0, 1, 7, 8, 9]) (.seq (.cnd (.tmp 9) .nop (.exi 0)) (.seq (.blk 1 (.seq (.reg [⟨some 10, .mv (.tmp 8),none⟩, ⟨some 5, .mv (.tmp 10),none⟩] [0, 1, 5, 7, 8]) (.seq (.reg [⟨some 11, .mv (.tmp 1),none⟩, ⟨some 12, .mv (.tmp 0),none⟩, ⟨some 13, .mv (.tmp 5),none⟩, ⟨some 14, .ia 5 (.tmp 12) (.tmp 13),none⟩, ⟨some 15, .ld (some 5) (.tmp 14) [],none⟩, ⟨some 16, .clv (.tmp 11) [(.tmp 15)] false [],none⟩] [0, 1, 5, 7, 8, 16]) (.cnd (.tmp 16) (.seq (.reg [⟨some 17, .mv (.tmp 5),none⟩, ⟨some 4, .mv (.tmp 17),none⟩] [4]) .ret) .nop)))) (.reg [⟨some 18, .bin .add (.tmp 8) (.const (.int .i64 1)),none⟩, ⟨some 8, .mv (.tmp 18),none⟩] [0, 1, 7, 8]))))
noncomputable def c247 : C := (.seq (.reg [⟨some 4, .mv (.const (.int .i64 0)),none⟩] [0, 1]) (.seq (.seq (.reg [⟨some 6, .mv (.tmp 0),none⟩, ⟨some 7, .len (.tmp 6),none⟩, ⟨some 8, .mv (.const (.int .i64 0)),none⟩] [0, 1, 7, 8]) (.blk 0 (.lop b247_0))) (.seq (.reg [⟨some 4, .mv (.const (.int .i64 (-1))),none⟩] [4]) .ret)))
noncomputable def fd247 : FD := ⟨2, c247, [.tmp 4]⟩
noncomputable def c267 : C := (.seq (.reg [⟨some 4, .mv (.const (.int .u64 0)),none⟩, ⟨some 5, .mv (.const (.int .u64 0)),none⟩] [0, 1]) (.seq (.reg [⟨some 14, .mv (.tmp 0),none⟩, ⟨some 15, .bin .and (.tmp 14) (.const (.int .u64 4294967295)),none⟩, ⟨some 6, .mv (.tmp 15),none⟩] [0, 1, 6]) (.seq (.reg [⟨some 16, .mv (.tmp 0),none⟩, ⟨some 17, .bin .shr (.tmp 16) (.const (.int .u64 32)),none⟩, ⟨some 7, .mv (.tmp 17),none⟩] [0, 1, 6, 7]) (.seq (.reg [⟨some 18, .mv (.tmp 1),none⟩, ⟨some 19, .bin .and (.tmp 18) (.const (.int .u64 4294967295)),none⟩, ⟨some 8, .mv (.tmp 19),none⟩] [0, 1, 6, 7, 8]) (.seq (.reg [⟨some 20, .mv (.tmp 1),none⟩, ⟨some 21, .bin .shr (.tmp 20) (.const (.int .u64 32)),none⟩, ⟨some 9, .mv (.tmp 21),none⟩] [0, 1, 6, 7, 8, 9]) (.seq (.reg [⟨some 22, .mv (.tmp 6),none⟩, ⟨some 23, .mv (.tmp 8),none⟩, ⟨some 24, .bin .mul (.tmp 22) (.tmp 23),none⟩, ⟨some 10, .mv (.tmp 24),none⟩] [0, 1, 6, 7, 8, 9, 10]) (.seq (.reg [⟨some 25, .mv (.tmp 7),none⟩, ⟨some 26, .mv (.tmp 8),none⟩, ⟨some 27, .bin .mul (.tmp 25) (.tmp 26),none⟩, ⟨some 28, .mv (.tmp 10),none⟩, ⟨some 29, .bin .shr (.tmp 28) (.const (.int .u64 32)),none⟩, ⟨some 30, .bin .add (.tmp 27) (.tmp 29),none⟩, ⟨some 11, .mv (.tmp 30),none⟩] [0, 1, 6, 7, 9, 11]) (.seq (.reg [⟨some 31, .mv (.tmp 11),none⟩, ⟨some 32, .bin .and (.tmp 31) (.const (.int .u64 4294967295)),none⟩, ⟨some 12, .mv (.tmp 32),none⟩] [0, 1, 6, 7, 9, 11, 12]) (.seq (.reg [⟨some 33, .mv (.tmp 11),none⟩, ⟨some 34, .bin .shr (.tmp 33) (.const (.int .u64 32)),none⟩, ⟨some 13, .mv (.tmp 34),none⟩] [0, 1, 6, 7, 9, 12, 13]) (.seq (.reg [⟨some 35, .mv (.tmp 12),none⟩, ⟨some 36, .mv (.tmp 6),none⟩, ⟨some 37, .mv (.tmp 9),none⟩, ⟨some 38, .bin .mul (.tmp 36) (.tmp 37),none⟩, ⟨some 39, .bin .add (.tmp 35) (.tmp 38),none⟩, ⟨some 12, .mv (.tmp 39),none⟩] [0, 1, 7, 9, 12, 13]) (.seq (.reg [⟨some 40, .mv (.tmp 7),none⟩, ⟨some 41, .mv (.tmp 9),none⟩, ⟨some 42, .bin .mul (.tmp 40) (.tmp 41),none⟩, ⟨some 43, .mv (.tmp 13),none⟩, ⟨some 44, .bin .add (.tmp 42) (.tmp 43),none⟩, ⟨some 45, .mv (.tmp 12),none⟩, ⟨some 46, .bin .shr (.tmp 45) (.const (.int .u64 32)),none⟩, ⟨some 47, .bin .add (.tmp 44) (.tmp 46),none⟩, ⟨some 4, .mv (.tmp 47),none⟩] [0, 1, 4]) (.seq (.reg [⟨some 48, .mv (.tmp 0),none⟩, ⟨some 49, .mv (.tmp 1),none⟩, ⟨some 50, .bin .mul (.tmp 48) (.tmp 49),none⟩, ⟨some 5, .mv (.tmp 50),none⟩] [4, 5]) .ret))))))))))))
noncomputable def fd267 : FD := ⟨2, c267, [.tmp 4, .tmp 5]⟩
noncomputable def b271_0 : C := (.seq (.seq (.reg [⟨some 26, .mv (.tmp 9),none⟩, ⟨some 27, .mv (.tmp 1),none⟩, ⟨some 28, .mv (.tmp 6),none⟩, ⟨some 29, .bin .quo (.tmp 28) (.const (.int .i64 4)),none⟩, ⟨some 30, .bin .mul (.tmp 29) (.const (.int .i64 2)),none⟩, ⟨some 31, .bin .add (.tmp 27) (.tmp 30),none⟩, ⟨some 32, .bin .add (.tmp 31) (.const (.int .i64 1)),none⟩, ⟨some 33, .bin .leq (.tmp 26) (.tmp 32),none⟩] [0, 1, 6, 7, 8, 9, 33]) (.cnd (.tmp 33) .nop (.exi 0))) (.seq (.blk 1 (.seq (.reg [⟨some 36, .cal 293 [(.tmp 7)] false [],none⟩, ⟨some 37, .mv (.tmp 8),none⟩, ⟨some 38, .bin .sub (.tmp 37) (.const (.int .u64 1)),none⟩, ⟨some 39, .bin .and (.tmp 36) (.tmp 38),none⟩, ⟨some 40, .cvi .i64 (.tmp 39),none⟩, ⟨some 10, .mv (.tmp 40),none⟩] [0, 1, 6, 7, 8, 9, 10]) (.seq (.seq (.reg [⟨some 41, .mv (.tmp 10),none⟩, ⟨some 42, .mv (.tmp 6),none⟩, ⟨some 43, .bin .geq (.tmp 41) (.tmp 42),none⟩] [0, 1, 6, 7, 8, 9, 10, 43]) (.cnd (.tmp 43) (.reg [⟨some 44, .mv (.tmp 10),none⟩, ⟨some 45, .mv (.tmp 6),none⟩, ⟨some 46, .bin .sub (.tmp 44) (.tmp 45),none⟩, ⟨some 10, .mv (.tmp 46),none⟩] [0, 1, 6, 7, 8, 9, 10]) .nop)) (.reg [⟨some 47, .mv (.tmp 0),none⟩, ⟨some 48, .mv (.tmp 9),none⟩, ⟨some 49, .mv (.tmp 0),none⟩, ⟨some 50, .mv (.tmp 1),none⟩, ⟨some 51, .mv (.tmp 10),none⟩, ⟨some 52, .bin .add (.tmp 50) (.tmp 51),none⟩, ⟨some 53, .mv (.tmp 0),none⟩, ⟨some 54, .mv (.tmp 1),none⟩, ⟨some 55, .mv (.tmp 10),none⟩, ⟨some 56, .bin .add (.tmp 54) (.tmp 55),none⟩, ⟨some 57, .ia 1 (.tmp 53) (.tmp 56),none⟩, ⟨some 58, .ld none (.tmp 57) [],none⟩, ⟨some 59, .mv (.tmp 0),none⟩, ⟨some 60, .mv (.tmp 9),none⟩, ⟨some 61, .ia 1 (.tmp 59) (.tmp 60),none⟩, ⟨some 62, .ld none (.tmp 61) [],none⟩, ⟨some 63, .ia 1 (.tmp 47) (.tmp 48),none⟩, ⟨none, .st 1 (.tmp 63) (.tmp 58) [],none⟩, ⟨some 64, .ia 1 (.tmp 49) (.tmp 52),none⟩, ⟨none, .st 1 (.tmp 64) (.tmp 62) [],none⟩] [0, 1, 6, 7, 8, 9])))) (.reg [⟨some 34, .mv (.tmp 9),none⟩, ⟨some 35, .bin .add (.tmp 34) (.const (.int .i64 1)),none⟩, ⟨some 9, .mv (.tmp 35),none⟩] [0, 1, 6, 7, 8, 9])))
noncomputable def c271 : C := (.seq (.reg [⟨some 11, .mv (.tmp 2),none⟩, ⟨some 12, .mv (.tmp 1),none⟩, ⟨some 13, .bin .sub (.tmp 11) (.tmp 12),none⟩, ⟨some 6, .mv (.tmp 13),none⟩] [0, 1, 6]) (.seq (.reg [⟨some 14, .mv (.tmp 6),none⟩, ⟨some 15, .bin .geq (.tmp 14) (.const (.int .i64 8)),none⟩] [0, 1, 6, 15]) (.cnd (.tmp 15) (.seq (.reg [⟨some 16, .mv (.tmp 6),none⟩, ⟨some 17, .cvi .u64 (.tmp 16),none⟩, ⟨some 7, .new [(.int .u64 0)],none⟩, ⟨none, .st 1 (.tmp 7) (.tmp 17) [],none⟩] [0, 1, 6, 7]) (.seq (.reg [⟨some 18, .mv (.tmp 6),none⟩, ⟨some 19, .cal 292 [(.tmp 18)] true [],none⟩, ⟨some 8, .mv (.tmp 19),none⟩] [0, 1, 6, 7, 8]) (.seq (.reg [⟨some 20, .mv (.tmp 1),none⟩, ⟨some 21, .mv (.tmp 6),none⟩, ⟨some 22, .bin .quo (.tmp 21) (.const (.int .i64 4)),none⟩, ⟨some 23, .bin .mul (.tmp 22) (.const (.int .i64 2)),none⟩, ⟨some 24, .bin .add (.tmp 20) (.tmp 23),none⟩, ⟨some 25, .bin .sub (.tmp 24) (.const (.int .i64 1)),none⟩, ⟨some 9, .mv (.tmp 25),none⟩] [0, 1, 6, 7, 8, 9]) (.blk 0 (.lop b271_0))))) .nop)))
noncomputable def fd271 : FD := ⟨3, c271, []⟩
noncomputable def c275 : C := (.seq (.reg [⟨some 4, .mv (.const (.bool false)),none⟩] [0, 1]) (.seq (.reg [⟨some 5, .mv (.tmp 0),none⟩, ⟨some 6, .cal 296 [(.tmp 5)] true [],none⟩, ⟨some 7, .mv (.tmp 6),none⟩, ⟨some 8, .mv (.tmp 1),some (7, true)⟩, ⟨some 9, .cal 296 [(.tmp 8)] true [],some (7, true)⟩, ⟨some 10, .not (.tmp 9),some (7, true)⟩, ⟨some 11, .pick (.tmp 7) (.tmp 10) (.const (.bool false)),none⟩, ⟨some 12, .mv (.tmp 11),none⟩, ⟨some 13, .mv (.tmp 0),some (12, false)⟩, ⟨some 14, .mv (.tmp 1),some (12, false)⟩, ⟨some 15, .bin .lss (.tmp 13) (.tmp 14),some (12, false)⟩, ⟨some 16, .pick (.tmp 12) (.const (.bool true)) (.tmp 15),none⟩, ⟨some 4, .mv (.tmp 16),none⟩] [4]) .ret))
noncomputable def fd275 : FD := ⟨2, c275, [.tmp 4]⟩
noncomputable def c279 : C := (.seq (.reg [⟨some 2, .mv (.const (.int .i64 0)),none⟩] [0, 2]) (.seq (.seq (.reg [⟨some 3, .mv (.tmp 0),none⟩, ⟨some 4, .bin .geq (.tmp 3) (.const (.int .u64 4294967296)),none⟩] [0, 2, 4]) (.cnd (.tmp 4) (.seq (.reg [⟨some 5, .mv (.tmp 0),none⟩, ⟨some 6, .bin .shr (.tmp 5) (.const (.int .u64 32)),none⟩, ⟨some 0, .mv (.tmp 6),none⟩] [0]) (.reg [⟨some 2, .mv (.const (.int .i64 32)),none⟩] [0, 2])) .nop)) (.seq (.seq (.reg [⟨some 7, .mv (.tmp 0),none⟩, ⟨some 8, .bin .geq (.tmp 7) (.const (.int .u64 65536)),none⟩] [0, 2, 8]) (.cnd (.tmp 8) (.seq (.reg [⟨some 9, .mv (.tmp 0),none⟩, ⟨some 10, .bin .shr (.tmp 9) (.const (.int .u64 16)),none⟩, ⟨some 0, .mv (.tmp 10),none⟩] [0, 2]) (.reg [⟨some 11, .mv (.tmp 2),none⟩, ⟨some 12, .bin .add (.tmp 11) (.const (.int .i64 16)),none⟩, ⟨some 2, .mv (.tmp 12),none⟩] [0, 2])) .nop)) (.seq (.seq (.reg [⟨some 13, .mv (.tmp 0),none⟩, ⟨some 14, .bin .geq (.tmp 13) (.const (.int .u64 256)),none⟩] [0, 2, 14]) (.cnd (.tmp 14) (.seq (.reg [⟨some 15, .mv (.tmp 0),none⟩, ⟨some 16, .bin .shr (.tmp 15) (.const (.int .u64 8)),none⟩, ⟨some 0, .mv (.tmp 16),none⟩] [0, 2]) (.reg [⟨some 17, .mv (.tmp 2),none⟩, ⟨some 18, .bin .add (.tmp 17) (.const (.int .i64 8)),none⟩, ⟨some 2, .mv (.tmp 18),none⟩] [0, 2])) .nop)) (.seq (.reg [⟨some 19, .mv (.tmp 2),none⟩, ⟨some 20, .mv (.tmp 0),none⟩, ⟨some 21, .cvi .u8 (.tmp 20),none⟩, ⟨some 22, .ixs (.const (.string len8tab)) (.tmp 21),none⟩, ⟨some 23, .cvi .i64 (.tmp 22),none⟩, ⟨some 24, .bin .add (.tmp 19) (.tmp 23),none⟩, ⟨some 2, .mv (.tmp 24),none⟩] [2]) .ret)))))
noncomputable def fd279 : FD := ⟨1, c279, [.tmp 2]⟩
noncomputable def c287 : C := (.seq (.reg [⟨some 1, .box (.tmp 0),none⟩, ⟨some 2, .mv (.const (.int .i64 0)),none⟩] [1]) (.seq (.reg [⟨some 4, .ld (some 4) (.tmp 1) [],none⟩, ⟨some 5, .cal 301 [(.tmp 4)] true [],none⟩, ⟨some 3, .mv (.tmp 5),none⟩] [1, 3]) (.seq (.seq (.reg [⟨some 6, .mv (.tmp 3),none⟩, ⟨some 7, .bin .eql (.tmp 6) (.const (.int .i64 0)),none⟩] [1, 3, 7]) (.cnd (.tmp 7) (.seq (.reg [⟨some 2, .mv (.const (.int .i64 0)),none⟩] [2]) .ret) .nop)) (.seq (.reg [⟨some 8, .mv (.tmp 3),none⟩, ⟨some 9, .bin .sub (.tmp 8) (.const (.int .i64 1)),none⟩, ⟨some 10, .bin .mul (.const (.int .i64 64)) (.tmp 9),none⟩, ⟨some 11, .mv (.tmp 3),none⟩, ⟨some 12, .bin .sub (.tmp 11) (.const (.int .i64 1)),none⟩, ⟨some 13, .iaa 4 1 (.tmp 1) (.tmp 12),none⟩, ⟨some 14, .ld none (.tmp 13) [],none⟩, ⟨some 15, .cal 279 [(.tmp 14)] true [],none⟩, ⟨some 16, .bin .add (.tmp 10) (.tmp 15),none⟩, ⟨some 2, .mv (.tmp 16),none⟩] [2]) .ret))))
noncomputable def fd287 : FD := ⟨1, c287, [.tmp 2]⟩
noncomputable def b291_0 : C := (.blk 1 (.seq (.reg [⟨some 11, .mv (.tmp 8),none⟩, ⟨some 12, .bin .mul (.const (.int .i64 2)) (.tmp 11),none⟩, ⟨some 13, .bin .add (.tmp 12) (.const (.int .i64 1)),none⟩, ⟨some 9, .mv (.tmp 13),none⟩] [0, 2, 3, 8, 9]) (.seq (.seq (.reg [⟨some 14, .mv (.tmp 9),none⟩, ⟨some 15, .mv (.tmp 2),none⟩, ⟨some 16, .bin .geq (.tmp 14) (.tmp 15),none⟩] [0, 2, 3, 8, 9, 16]) (.cnd (.tmp 16) (.exi 0) .nop)) (.seq (.seq (.reg [⟨some 17, .mv (.tmp 9),none⟩, ⟨some 18, .bin .add (.tmp 17) (.const (.int .i64 1)),none⟩, ⟨some 19, .mv (.tmp 2),none⟩, ⟨some 20, .bin .lss (.tmp 18) (.tmp 19),none⟩, ⟨some 21, .mv (.tmp 20),none⟩, ⟨some 22, .mv (.tmp 0),some (21, true)⟩, ⟨some 23, .mv (.tmp 3),some (21, true)⟩, ⟨some 24, .mv (.tmp 9),some (21, true)⟩, ⟨some 25, .bin .add (.tmp 23) (.tmp 24),some (21, true)⟩, ⟨some 26, .ia 1 (.tmp 22) (.tmp 25),some (21, true)⟩, ⟨some 27, .ld none (.tmp 26) [],some (21, true)⟩, ⟨some 28, .mv (.tmp 0),some (21, true)⟩, ⟨some 29, .mv (.tmp 3),some (21, true)⟩, ⟨some 30, .mv (.tmp 9),some (21, true)⟩, ⟨some 31, .bin .add (.tmp 29) (.tmp 30),some (21, true)⟩, ⟨some 32, .bin .add (.tmp 31) (.const (.int .i64 1)),some (21, true)⟩, ⟨some 33, .ia 1 (.tmp 28) (.tmp 32),some (21, true)⟩, ⟨some 34, .ld none (.tmp 33) [],some (21, true)⟩, ⟨some 35, .cal 275 [(.tmp 27),(.tmp 34)] true [],some (21, true)⟩, ⟨some 36, .pick (.tmp 21) (.tmp 35) (.const (.bool false)),none⟩] [0, 2, 3, 8, 9, 36]) (.cnd (.tmp 36) (.reg [⟨some 37, .mv (.tmp 9),none⟩, ⟨some 38, .bin .add (.tmp 37) (.const (.int .i64 1)),none⟩, ⟨some 9, .mv (.tmp 38),none⟩] [0, 2, 3, 8, 9]) .nop)) (.seq (.seq (.reg [⟨some 39, .mv (.tmp 0),none⟩, ⟨some 40, .mv (.tmp 3),none⟩, ⟨some 41, .mv (.tmp 8),none⟩, ⟨some 42, .bin .add (.tmp 40) (.tmp 41),none⟩, ⟨some 43, .ia 1 (.tmp 39) (.tmp 42),none⟩, ⟨some 44, .ld none (.tmp 43) [],none⟩, ⟨some 45, .mv (.tmp 0),none⟩, ⟨some 46, .mv (.tmp 3),none⟩, ⟨some 47, .mv (.tmp 9),none⟩, ⟨some 48, .bin .add (.tmp 46) (.tmp 47),none⟩, ⟨some 49, .ia 1 (.tmp 45) (.tmp 48),none⟩, ⟨some 50, .ld none (.tmp 49) [],none⟩, ⟨some 51, .cal 275 [(.tmp 44),(.tmp 50)] true [],none⟩, ⟨some 52, .not (.tmp 51),none⟩] [0, 2, 3, 8, 9, 52]) (.cnd (.tmp 52) .ret .nop)) (.seq (.reg [⟨some 53, .mv (.tmp 0),none⟩, ⟨some 54, .mv (.tmp 3),none⟩, ⟨some 55, .mv (.tmp 8),none⟩, ⟨some 56, .bin .add (.tmp 54) (.tmp 55),none⟩, ⟨some 57, .mv (.tmp 0),none⟩, ⟨some 58, .mv (.tmp 3),none⟩, ⟨some 59, .mv (.tmp 9),none⟩, ⟨some 60, .bin .add (.tmp 58) (.tmp 59),none⟩, ⟨some 61, .mv (.tmp 0),none⟩, ⟨some 62, .mv (.tmp 3),none⟩, ⟨some 63, .mv (.tmp 9),none⟩, ⟨some 64, .bin .add (.tmp 62) (.tmp 63),none⟩, ⟨some 65, .ia 1 (.tmp 61) (.tmp 64),none⟩, ⟨some 66, .ld none (.tmp 65) [],none⟩, ⟨some 67, .mv (.tmp 0),none⟩, ⟨some 68, .mv (.tmp 3),none⟩, ⟨some 69, .mv (.tmp 8),none⟩, ⟨some 70, .bin .add (.tmp 68) (.tmp 69),none⟩, ⟨some 71, .ia 1 (.tmp 67) (.tmp 70),none⟩, ⟨some 72, .ld none (.tmp 71) [],none⟩, ⟨some 73, .ia 1 (.tmp 53) (.tmp 56),none⟩, ⟨none, .st 1 (.tmp 73) (.tmp 66) [],none⟩, ⟨some 74, .ia 1 (.tmp 57) (.tmp 60),none⟩, ⟨none, .st 1 (.tmp 74) (.tmp 72) [],none⟩] [0, 2, 3, 9]) (.reg [⟨some 75, .mv (.tmp 9),none⟩, ⟨some 8, .mv (.tmp 75),none⟩] [0, 2, 3, 8])))))))
noncomputable def c291 : C := (.seq (.reg [⟨some 10, .mv (.tmp 1),none⟩, ⟨some 8, .mv (.tmp 10),none⟩] [0, 2, 3, 8]) (.blk 0 (.lop b291_0)))
noncomputable def fd291 : FD := ⟨4, c291, []⟩
noncomputable def c295 : C := (.seq (.reg [⟨some 10, .mv (.const (.int .i64 0)),none⟩] [0, 1, 2, 3, 4]) (.seq (.reg [⟨some 12, .mv (.tmp 0),none⟩, ⟨some 13, .mv (.tmp 1),none⟩, ⟨some 14, .mv (.tmp 2),none⟩, ⟨some 15, .mv (.tmp 4),none⟩, ⟨some 16, .cal 304 [(.tmp 12),(.tmp 13),(.tmp 14),(.tmp 15)] false [],none⟩, ⟨some 11, .mv (.tmp 16),none⟩, ⟨some 17, .ex (.tmp 11) 0,none⟩, ⟨some 18, .ex (.tmp 11) 1,none⟩, ⟨some 1, .mv (.tmp 17),none⟩, ⟨some 2, .mv (.tmp 18),none⟩] [0, 1, 2, 3, 4]) (.seq (.reg [⟨some 20, .mv (.tmp 0),none⟩, ⟨some 21, .mv (.tmp 2),none⟩, ⟨some 22, .mv (.tmp 3),none⟩, ⟨some 23, .mv (.tmp 4),none⟩, ⟨some 24, .cal 304 [(.tmp 20),(.tmp 21),(.tmp 22),(.tmp 23)] false [],none⟩, ⟨some 19, .mv (.tmp 24),none⟩, ⟨some 25, .ex (.tmp 19) 0,none⟩, ⟨some 26, .ex (.tmp 19) 1,none⟩, ⟨some 2, .mv (.tmp 25),none⟩, ⟨some 3, .mv (.tmp 26),none⟩] [0, 1, 2, 4]) (.seq (.reg [⟨some 28, .mv (.tmp 0),none⟩, ⟨some 29, .mv (.tmp 1),none⟩, ⟨some 30, .mv (.tmp 2),none⟩, ⟨some 31, .mv (.tmp 4),none⟩, ⟨some 32, .cal 304 [(.tmp 28),(.tmp 29),(.tmp 30),(.tmp 31)] false [],none⟩, ⟨some 27, .mv (.tmp 32),none⟩, ⟨some 33, .ex (.tmp 27) 0,none⟩, ⟨some 34, .ex (.tmp 27) 1,none⟩, ⟨some 1, .mv (.tmp 33),none⟩, ⟨some 2, .mv (.tmp 34),none⟩] [2]) (.seq (.reg [⟨some 35, .mv (.tmp 2),none⟩, ⟨some 10, .mv (.tmp 35),none⟩] [10]) .ret)))))
noncomputable def fd295 : FD := ⟨5, c295, [.tmp 10]⟩
noncomputable def c303 : C := (.seq (.reg [⟨some 2, .mv (.const (.string ⟨#[]⟩)),none⟩] [0]) (.seq (.reg [⟨some 6, .mv (.tmp 0),none⟩, ⟨some 7, .cal 305 [(.tmp 6)] true [],none⟩, ⟨some 5, .mv (.tmp 7),none⟩, ⟨some 8, .ex (.tmp 5) 0,none⟩, ⟨some 9, .ex (.tmp 5) 1,none⟩, ⟨some 3, .new [(.int .u64 0),(.int .u64 0),(.int .u64 0),(.int .u64 0)],none⟩, ⟨none, .st 4 (.tmp 3) (.tmp 8) [],none⟩, ⟨some 4, .mv (.tmp 9),none⟩] [3]) (.seq (.reg [⟨some 10, .ld (some 4) (.tmp 3) [],none⟩, ⟨some 11, .cal 264 [(.tmp 10)] true [],none⟩, ⟨some 2, .mv (.tmp 11),none⟩] [2]) .ret)))
noncomputable def fd303 : FD := ⟨1, c303, [.tmp 2]⟩
end Go.Proofs.YtakdnpafdadblaaGreat.EV
