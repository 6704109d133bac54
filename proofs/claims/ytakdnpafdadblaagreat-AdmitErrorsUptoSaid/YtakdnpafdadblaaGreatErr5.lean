/-
  PROVED: 'tarnlaw17.AdmitErrors' returns true and leaves its argument as it was, where the argument is of bulk at most 1048576 (Rows.AdmitErrorsUptoSaid). Part 5 of 7.
-/
import Derived.Test.YtakdnpafdadblaaGreatErr4
import Derived.Sort.Statements
import Derived.Sort.Lot0
import Derived.Sort.LotA
import Derived.Sort.LotB
import Derived.Sort.LotC
import Derived.Sort.LotD3
set_option linter.unusedSimpArgs false
set_option linter.unusedVariables false
set_option linter.unusedSectionVars false
namespace Go.Proofs.YtakdnpafdadblaaGreat.EV.W
open Go
set_option maxRecDepth 8000
set_option maxHeartbeats 1000000
variable {ro : Addr → Option Value} {K : H}
abbrev Sz (t : T) : Prop := Sm t ∧ t.hs.length < 4294967296 ∧ t.bs.length < 4294967296
structure BSz (b : Bk) : Prop where
  tx : ∀ t ∈ b.txs, Sz t
  lb : ∀ t ∈ b.limbo, Sz t.tx
  na : b.accts.length < 4294967296
  nt : b.txs.length < 4294967296
  nl : b.limbo.length < 4294967296
structure BkR (ro : Addr → Option Value) (F : Fp) (s : St) (x : Bk) (a t l : Value) : Prop where
  a : Sl shAcct ro F s a x.accts
  t : Sl shTx ro F s t x.txs
  l : Sl shHeld ro F s l x.limbo
theorem BkR.mo {F F' : Fp} {s s' : St} {x : Bk} {a t l : Value} (r : BkR ro F s x a t l) (m : Mo F s F' s') : BkR ro F' s' x a t l := ⟨r.a.mo m, r.t.mo m, r.l.mo m⟩
abbrev bkC (b : Bk) (a t l : Value) : List Value := [vI b.room, vI b.head.number, v64 b.head.base.a, v64 b.head.base.b, v64 b.head.base.c, v64 b.head.base.d, vI b.head.excess, a, t, l]
theorem copymarks_loop (hK : Std ro K) (F : Fp) (A : List UInt64) (hz : A.length < 4294967296) (a : Option Addr) (c : Nat) (s1 : St) (hs1 : WF s1) (r1 : Sl sh64 ro F s1 (.slice a A.length c) A) :
    ∀ (j i : Nat) (u : St) (v : Value), Ex s1 u → i + j = A.length → Ow sh64 ro (Fresh s1.n) u v (A.take i) →
    ∃ u' v', Ex s1 u' ∧ Ow sh64 ro (Fresh s1.n) u' v' A ∧ ∀ k : List Fm, M ro K (.lop b132_0) (.bk 0 :: k) [(0, .slice a A.length c), (3, v), (4, vI i)] u =
      Rk ro K .nrm k [(0, .slice a A.length c), (3, v'), (4, vI A.length), (8, .bool false)] u' := by
  intro j
  induction j with
  | zero =>
    intro i u v he h ho
    have : i = A.length := by omega
    subst this
    rw [List.take_of_length_le (Nat.le_refl _)] at ho
    refine ⟨u, v, he, ho, fun k => ?_⟩
    rw [M_lop]
    simp (disch := first | omega | assumption | exact S_wf (by assumption) _ | (simp; done) | (simp; omega)) [Mb _ _ b132_0.eq_1]
  | succ j ih =>
    intro i u v he h ho
    have hu := he.wf hs1
    obtain ⟨b1, hb1, q1⟩ := Sl.at1 (fun i hi => (r1.mo (he.mo F)).at i hi) i (by omega)
    subst hb1
    have hx := S_ex hu [some [v64 A[i]]]
    obtain ⟨a2, c2, v', s', rfl, ha, he', ho'⟩ := Ow.appendN (new := [v64 A[i]]) (l' := [A[i]]) hs1 he ho hx (.single rfl) (by simp) (by simp; omega) (by decide)
    have ht : A.take (i + 1) = List.take i A ++ [A[i]] := List.take_succ_eq_append_getElem (by omega)
    obtain ⟨u', w, f1, f2, f3⟩ := ih (i + 1) s' v' he' (by omega) (by rw [ht]; exact ho')
    refine ⟨u', w, f1, f2, fun k => ?_⟩
    have hs' := he'.wf hs1
    obtain ⟨cw, pw⟩ := ho'.cells
    rw [← f3 k, M_lop]
    have htl : (List.take i A).length = i := by simp; omega
    simp only [htl, List.length_cons, List.length_nil, Nat.zero_add, sh64, sh1] at ha
    simp only [htl]
    simp (disch := first | omega | assumption | exact S_wf (by assumption) _ | (simp; done) | (simp; omega)) [Mb _ _ b132_0.eq_1, decide_eq_true, decide_eq_false, if_pos, if_neg, q1, wI, hu, rdSl, rep, ha, hs', cw, pw]
theorem copymarks_q (hK : Std ro K) {A : List UInt64} {v : Value} {F : Fp} {s : St} (hs : WF s) (r1 : Sl sh64 ro F s v A) (hz : A.length < 4294967296) (pr : Option (List Nat)) : ∃ v' s', callK K (.func (.func 132) #[] #[]) [v] true pr s = some (v', s') ∧ Ex s s' ∧ Ow sh64 ro (Fresh s.n) s' v' A := by
  obtain ⟨a, c, rfl⟩ := r1.len
  obtain ⟨u', v', f1, f2, f3⟩ := copymarks_loop hK F A hz a c (qs s) hs.q (r1.mo (Mo.q F s)) A.length 0 (qs s) (.slice none 0 0) (Ex.refl hs.q) (by omega) Ow.nil
  simp only [show ((0 : Nat) : Int) = 0 from rfl] at f3
  have h1 : K (.func (.func 132) #[] #[]) [.slice a A.length c] (qs s) = some (v', u') := by
    rw [go132 hK _ _ rfl]
    simp (disch := first | omega | assumption | exact S_wf (by assumption) _ | (simp; done) | (simp; omega)) [c132, decide_eq_true, decide_eq_false, if_pos, if_neg, f3]
  obtain ⟨s'', g1, g2, g3⟩ := callq_own (pr := pr) h1 f1 hs
  refine ⟨v', s'', g1, g2, g3 v' (fun hc => ?_) _ _ f2⟩
  obtain ⟨a', c', rfl⟩ := f2.len
  exact hc
theorem copystrs_loop (hK : Std ro K) (F : Fp) (A : List (List UInt8)) (hz : A.length < 4294967296) (a : Option Addr) (c : Nat) (s1 : St) (hs1 : WF s1) (r1 : Sl shStr ro F s1 (.slice a A.length c) A) :
    ∀ (j i : Nat) (u : St) (v : Value), Ex s1 u → i + j = A.length → Ow shStr ro (Fresh s1.n) u v (A.take i) →
    ∃ u' v', Ex s1 u' ∧ Ow shStr ro (Fresh s1.n) u' v' A ∧ ∀ k : List Fm, M ro K (.lop b133_0) (.bk 0 :: k) [(0, .slice a A.length c), (3, v), (4, vI i)] u =
      Rk ro K .nrm k [(0, .slice a A.length c), (3, v'), (4, vI A.length), (8, .bool false)] u' := by
  intro j
  induction j with
  | zero =>
    intro i u v he h ho
    have : i = A.length := by omega
    subst this
    rw [List.take_of_length_le (Nat.le_refl _)] at ho
    refine ⟨u, v, he, ho, fun k => ?_⟩
    rw [M_lop]
    simp (disch := first | omega | assumption | exact S_wf (by assumption) _ | (simp; done) | (simp; omega)) [Mb _ _ b133_0.eq_1]
  | succ j ih =>
    intro i u v he h ho
    have hu := he.wf hs1
    obtain ⟨b1, hb1, q1⟩ := Sl.at1 (fun i hi => (r1.mo (he.mo F)).at i hi) i (by omega)
    subst hb1
    have hx := S_ex hu [some [Str A[i]]]
    obtain ⟨a2, c2, v', s', rfl, ha, he', ho'⟩ := Ow.appendN (new := [Str A[i]]) (l' := [A[i]]) hs1 he ho hx (.single rfl) (by simp) (by simp; omega) (by decide)
    have ht : A.take (i + 1) = List.take i A ++ [A[i]] := List.take_succ_eq_append_getElem (by omega)
    obtain ⟨u', w, f1, f2, f3⟩ := ih (i + 1) s' v' he' (by omega) (by rw [ht]; exact ho')
    refine ⟨u', w, f1, f2, fun k => ?_⟩
    have hs' := he'.wf hs1
    obtain ⟨cw, pw⟩ := ho'.cells
    rw [← f3 k, M_lop]
    have htl : (List.take i A).length = i := by simp; omega
    simp only [htl, List.length_cons, List.length_nil, Nat.zero_add, shStr, sh1] at ha
    simp only [htl]
    simp (disch := first | omega | assumption | exact S_wf (by assumption) _ | (simp; done) | (simp; omega)) [Mb _ _ b133_0.eq_1, decide_eq_true, decide_eq_false, if_pos, if_neg, q1, wI, hu, rdSl, rep, ha, hs', cw, pw]
theorem copystrs_q (hK : Std ro K) {A : List (List UInt8)} {v : Value} {F : Fp} {s : St} (hs : WF s) (r1 : Sl shStr ro F s v A) (hz : A.length < 4294967296) (pr : Option (List Nat)) : ∃ v' s', callK K (.func (.func 133) #[] #[]) [v] true pr s = some (v', s') ∧ Ex s s' ∧ Ow shStr ro (Fresh s.n) s' v' A := by
  obtain ⟨a, c, rfl⟩ := r1.len
  obtain ⟨u', v', f1, f2, f3⟩ := copystrs_loop hK F A hz a c (qs s) hs.q (r1.mo (Mo.q F s)) A.length 0 (qs s) (.slice none 0 0) (Ex.refl hs.q) (by omega) Ow.nil
  simp only [show ((0 : Nat) : Int) = 0 from rfl] at f3
  have h1 : K (.func (.func 133) #[] #[]) [.slice a A.length c] (qs s) = some (v', u') := by
    rw [go133 hK _ _ rfl]
    simp (disch := first | omega | assumption | exact S_wf (by assumption) _ | (simp; done) | (simp; omega)) [c133, decide_eq_true, decide_eq_false, if_pos, if_neg, f3]
  obtain ⟨s'', g1, g2, g3⟩ := callq_own (pr := pr) h1 f1 hs
  refine ⟨v', s'', g1, g2, g3 v' (fun hc => ?_) _ _ f2⟩
  obtain ⟨a', c', rfl⟩ := f2.len
  exact hc
theorem copyaccts_loop (hK : Std ro K) (F : Fp) (A : List Acct) (hz : A.length < 4294967296) (a : Option Addr) (c : Nat) (s1 : St) (hs1 : WF s1) (r1 : Sl shAcct ro F s1 (.slice a A.length c) A) :
    ∀ (j i : Nat) (u : St) (v : Value), Ex s1 u → i + j = A.length → Ow shAcct ro (Fresh s1.n) u v (A.take i) →
    ∃ u' v', Ex s1 u' ∧ Ow shAcct ro (Fresh s1.n) u' v' A ∧ ∀ k : List Fm, M ro K (.lop b60_0) (.bk 0 :: k) [(0, .slice a A.length c), (3, v), (4, vI i)] u =
      Rk ro K .nrm k [(0, .slice a A.length c), (3, v'), (4, vI A.length), (8, .bool false)] u' := by
  intro j
  induction j with
  | zero =>
    intro i u v he h ho
    have : i = A.length := by omega
    subst this
    rw [List.take_of_length_le (Nat.le_refl _)] at ho
    refine ⟨u, v, he, ho, fun k => ?_⟩
    rw [M_lop]
    simp (disch := first | omega | assumption | exact S_wf (by assumption) _ | (simp; done) | (simp; omega)) [Mb _ _ b60_0.eq_1]
  | succ j ih =>
    intro i u v he h ho
    have hu := he.wf hs1
    obtain ⟨b1, hb1, q1⟩ := (r1.mo (he.mo F)).atA i (by omega)
    have q1 := q1.rd 5 (by simp)
    simp at q1
    subst hb1
    have hx := S_ex hu [some [vI A[i].nonce, v64 A[i].bal.a, v64 A[i].bal.b, v64 A[i].bal.c, v64 A[i].bal.d]]
    obtain ⟨a2, c2, v', s', rfl, ha, he', ho'⟩ := Ow.appendN (new := [vI A[i].nonce, v64 A[i].bal.a, v64 A[i].bal.b, v64 A[i].bal.c, v64 A[i].bal.d]) (l' := [A[i]]) hs1 he ho hx (.single rfl) (by simp) (by simp; omega) (by decide)
    have ht : A.take (i + 1) = List.take i A ++ [A[i]] := List.take_succ_eq_append_getElem (by omega)
    obtain ⟨u', w, f1, f2, f3⟩ := ih (i + 1) s' v' he' (by omega) (by rw [ht]; exact ho')
    refine ⟨u', w, f1, f2, fun k => ?_⟩
    have hs' := he'.wf hs1
    obtain ⟨cw, pw⟩ := ho'.cells
    rw [← f3 k, M_lop]
    have htl : (List.take i A).length = i := by simp; omega
    simp only [htl, List.length_cons, List.length_nil, Nat.zero_add, shAcct, sh1] at ha
    simp only [htl]
    simp (disch := first | omega | assumption | exact S_wf (by assumption) _ | (simp; done) | (simp; omega)) [Mb _ _ b60_0.eq_1, decide_eq_true, decide_eq_false, if_pos, if_neg, q1, wI, hu, rdSl, rep, ha, hs', cw, pw]
theorem copyaccts_q (hK : Std ro K) {A : List Acct} {v : Value} {F : Fp} {s : St} (hs : WF s) (r1 : Sl shAcct ro F s v A) (hz : A.length < 4294967296) (pr : Option (List Nat)) : ∃ v' s', callK K (.func (.func 60) #[] #[]) [v] true pr s = some (v', s') ∧ Ex s s' ∧ Ow shAcct ro (Fresh s.n) s' v' A := by
  obtain ⟨a, c, rfl⟩ := r1.len
  obtain ⟨u', v', f1, f2, f3⟩ := copyaccts_loop hK F A hz a c (qs s) hs.q (r1.mo (Mo.q F s)) A.length 0 (qs s) (.slice none 0 0) (Ex.refl hs.q) (by omega) Ow.nil
  simp only [show ((0 : Nat) : Int) = 0 from rfl] at f3
  have h1 : K (.func (.func 60) #[] #[]) [.slice a A.length c] (qs s) = some (v', u') := by
    rw [go60 hK _ _ rfl]
    simp (disch := first | omega | assumption | exact S_wf (by assumption) _ | (simp; done) | (simp; omega)) [c60, decide_eq_true, decide_eq_false, if_pos, if_neg, f3]
  obtain ⟨s'', g1, g2, g3⟩ := callq_own (pr := pr) h1 f1 hs
  refine ⟨v', s'', g1, g2, g3 v' (fun hc => ?_) _ _ f2⟩
  obtain ⟨a', c', rfl⟩ := f2.len
  exact hc
end Go.Proofs.YtakdnpafdadblaaGreat.EV.W
namespace Go.Proofs.YtakdnpafdadblaaGreat.EV.W
open Go
set_option maxRecDepth 8000
set_option maxHeartbeats 1000000
variable {ro : Addr → Option Value} {K : H}
theorem put_ex {s0 s : St} (hs0 : WF s0) (he : Ex s0 s) {k : Nat} {r : List Value} (hk : s.get k = some r) (hn : s0.n ≤ k) (x : Option (List Value)) : Ex s0 (s.put k x) :=
  Exd.ex (D := (· = k)) he (Exd.put (he.wf hs0) hk x) (fun j hj => by omega)
theorem Ex.mayN {s0 s : St} (he : Ex s0 s) (hs0 : WF s0) {k : Nat} (hk : s0.n ≤ k) : s.may k = true := by
  rw [(he.d (fun _ => False)).may]; exact hs0.may hk
theorem Ow.put {α : Type} {h : Sh α} {n : Nat} {s : St} {v : Value} {l : List α} (r : Ow h ro (Fresh n) s v l) {k : Nat} (hk : k < n) (hks : k < s.n) (x : Option (List Value)) : Ow h ro (Fresh n) (s.put k x) v l :=
  r.mo ⟨Nat.le_refl _, fun j hj hF => ⟨St.get_put_other _ _ (by simp only [Fresh] at hF; omega) hks, hF⟩⟩
theorem Ow.weak {α : Type} {h : Sh α} {n n' : Nat} {s : St} {v : Value} {l : List α} (r : Ow h ro (Fresh n) s v l) (hn : n' ≤ n) : Ow h ro (Fresh n') s v l :=
  r.mo (Mo.weak _ fun j hj => by simp only [Fresh] at hj ⊢; omega)
theorem sh1_any {α : Type} {f : α → Value} {F F' : Fp} {s s' : St} {cs : List Value} {l : List α} (r : Rows (sh1 f) ro F s cs l) : Rows (sh1 f) ro F' s' cs l := by
  induction r with
  | nil => exact .nil
  | cons c cs x l hc _ ih => exact .cons _ _ _ _ hc ih
theorem clone64_q (hK : Std ro K) {A : List UInt64} {v : Value} {F : Fp} {s : St} (hs : WF s) (r1 : Sl sh64 ro F s v A) (hz : A.length < 4294967296) (pr : Option (List Nat)) : ∃ v' s', callK K (.func (.func 194) #[] #[]) [v] true pr s = some (v', s') ∧ Ex s s' ∧ Ow sh64 ro (Fresh s.n) s' v' A := by
  obtain ⟨a, c, cs, rfl, h1, h2, h3⟩ := r1.mo (Mo.q F s)
  have hq := hs.q
  suffices hh : ∃ v' u', K (.func (.func 194) #[] #[]) [.slice a A.length c] (qs s) = some (v', u') ∧ Ex (qs s) u' ∧ Ow sh64 ro (Fresh (qs s).n) u' v' A from by
    obtain ⟨v', u', g1, g2, g3⟩ := hh
    obtain ⟨s'', q1, q2, q3⟩ := callq_own (pr := pr) g1 g2 hs
    refine ⟨v', s'', q1, q2, q3 v' (fun hc => ?_) _ _ g3⟩
    obtain ⟨a', c', rfl⟩ := g3.len
    exact hc
  cases a with
  | none =>
    have := h2 rfl
    subst this
    refine ⟨.slice none 0 0, qs s, ?_, Ex.refl hq, Ow.nil⟩
    rw [go194 hK _ _ rfl]
    simp (disch := first | omega | assumption | exact S_wf (by assumption) _ | (simp; done) | (simp; omega)) [c194, decide_eq_true, decide_eq_false, if_pos, if_neg, isNil]
  | some b =>
    have hx := S_ex hq [some []]
    have hs1 := hx.wf hq
    have hcs : cs.length = A.length * 1 := h1.length
    have hrd := ((h3 b rfl).mo (hx.mo F)).rd (A.length * 1) (by omega)
    rw [List.take_of_length_le (by omega)] at hrd
    have ho : Ow sh64 ro (Fresh (qs s).n) (S (qs s) [some []]) (.slice (some (EV.own (qs s).n 0)) 0 1) ([] : List UInt64) := .inr ⟨_, [], rfl, by simp, by rw [S_get0]; rfl, .nil⟩
    by_cases hA : A.length = 0
    · have : A = [] := List.eq_nil_of_length_eq_zero hA
      subst this
      refine ⟨_, _, ?_, hx, ho⟩
      rw [go194 hK _ _ rfl]
      have hcs0 : cs = [] := List.eq_nil_of_length_eq_zero (by simpa using hcs)
      subst hcs0
      have hrd : rdAt ro (S (qs s) [some []]) b 0 = some [] := by simpa using hrd
      have ha : ∀ s1 : St, appendTo s1 1 (some (EV.own (qs s).n 0)) 0 1 [] 0 = some (.slice (some (EV.own (qs s).n 0)) 0 1, s1) := fun s1 => by
        unfold appendTo
        rw [if_neg (by omega), if_pos rfl, if_neg (by simp [roS, EV.own])]
      simp only [EV.own] at ha ⊢
      simp (disch := first | omega | assumption | exact S_wf (by assumption) _ | (simp; done) | (simp; omega)) [c194, decide_eq_true, decide_eq_false, if_pos, if_neg, isNil, hq, rdSl, rep, ha, hrd]
    · obtain ⟨a', c', v', s', e1, e2, e3, e4, -⟩ := Ow.append (new := cs) (l' := A) hq hx ho (sh1_any h1) (by omega) (by simp; omega) (by decide)
      cases e1
      rw [List.nil_append] at e4
      refine ⟨v', s', ?_, e3, e4⟩
      have hs' := e3.wf hq
      obtain ⟨cw, pw⟩ := e4.cells
      rw [go194 hK _ _ rfl]
      simp only [sh64, sh1, List.length_nil] at e2
      simp only [Nat.mul_one] at hrd
      simp only [EV.own] at e2 ⊢
      simp (disch := first | omega | assumption | exact S_wf (by assumption) _ | (simp; done) | (simp; omega)) [c194, decide_eq_true, decide_eq_false, if_pos, if_neg, isNil, hq, rdSl, rep, e2, hrd, hA]
theorem cloneS_q (hK : Std ro K) {A : List (List UInt8)} {v : Value} {F : Fp} {s : St} (hs : WF s) (r1 : Sl shStr ro F s v A) (hz : A.length < 4294967296) (pr : Option (List Nat)) : ∃ v' s', callK K (.func (.func 195) #[] #[]) [v] true pr s = some (v', s') ∧ Ex s s' ∧ Ow shStr ro (Fresh s.n) s' v' A := by
  obtain ⟨a, c, cs, rfl, h1, h2, h3⟩ := r1.mo (Mo.q F s)
  have hq := hs.q
  suffices hh : ∃ v' u', K (.func (.func 195) #[] #[]) [.slice a A.length c] (qs s) = some (v', u') ∧ Ex (qs s) u' ∧ Ow shStr ro (Fresh (qs s).n) u' v' A from by
    obtain ⟨v', u', g1, g2, g3⟩ := hh
    obtain ⟨s'', q1, q2, q3⟩ := callq_own (pr := pr) g1 g2 hs
    refine ⟨v', s'', q1, q2, q3 v' (fun hc => ?_) _ _ g3⟩
    obtain ⟨a', c', rfl⟩ := g3.len
    exact hc
  cases a with
  | none =>
    have := h2 rfl
    subst this
    refine ⟨.slice none 0 0, qs s, ?_, Ex.refl hq, Ow.nil⟩
    rw [go195 hK _ _ rfl]
    simp (disch := first | omega | assumption | exact S_wf (by assumption) _ | (simp; done) | (simp; omega)) [c195, decide_eq_true, decide_eq_false, if_pos, if_neg, isNil]
  | some b =>
    have hx := S_ex hq [some []]
    have hs1 := hx.wf hq
    have hcs : cs.length = A.length * 1 := h1.length
    have hrd := ((h3 b rfl).mo (hx.mo F)).rd (A.length * 1) (by omega)
    rw [List.take_of_length_le (by omega)] at hrd
    have ho : Ow shStr ro (Fresh (qs s).n) (S (qs s) [some []]) (.slice (some (EV.own (qs s).n 0)) 0 1) ([] : List (List UInt8)) := .inr ⟨_, [], rfl, by simp, by rw [S_get0]; rfl, .nil⟩
    by_cases hA : A.length = 0
    · have : A = [] := List.eq_nil_of_length_eq_zero hA
      subst this
      refine ⟨_, _, ?_, hx, ho⟩
      rw [go195 hK _ _ rfl]
      have hcs0 : cs = [] := List.eq_nil_of_length_eq_zero (by simpa using hcs)
      subst hcs0
      have hrd : rdAt ro (S (qs s) [some []]) b 0 = some [] := by simpa using hrd
      have ha : ∀ s1 : St, appendTo s1 1 (some (EV.own (qs s).n 0)) 0 1 [] 0 = some (.slice (some (EV.own (qs s).n 0)) 0 1, s1) := fun s1 => by
        unfold appendTo
        rw [if_neg (by omega), if_pos rfl, if_neg (by simp [roS, EV.own])]
      simp only [EV.own] at ha ⊢
      simp (disch := first | omega | assumption | exact S_wf (by assumption) _ | (simp; done) | (simp; omega)) [c195, decide_eq_true, decide_eq_false, if_pos, if_neg, isNil, hq, rdSl, rep, ha, hrd]
    · obtain ⟨a', c', v', s', e1, e2, e3, e4, -⟩ := Ow.append (new := cs) (l' := A) hq hx ho (sh1_any h1) (by omega) (by simp; omega) (by decide)
      cases e1
      rw [List.nil_append] at e4
      refine ⟨v', s', ?_, e3, e4⟩
      have hs' := e3.wf hq
      obtain ⟨cw, pw⟩ := e4.cells
      rw [go195 hK _ _ rfl]
      simp only [shStr, sh1, List.length_nil] at e2
      simp only [Nat.mul_one] at hrd
      simp only [EV.own] at e2 ⊢
      simp (disch := first | omega | assumption | exact S_wf (by assumption) _ | (simp; done) | (simp; omega)) [c195, decide_eq_true, decide_eq_false, if_pos, if_neg, isNil, hq, rdSl, rep, e2, hrd, hA]
end Go.Proofs.YtakdnpafdadblaaGreat.EV.W
namespace Go.Proofs.YtakdnpafdadblaaGreat.EV.W
open Go
set_option maxRecDepth 8000
set_option maxHeartbeats 1000000
variable {ro : Addr → Option Value} {K : H}
def TxA (ro : Addr → Option Value) (K : H) (f : Nat) (t : T) (h b : Value) (pr : Option (List Nat)) (s : St) : Prop :=
  ∃ h' b' s', callK K (.func (.func f) #[] #[]) [vT t h b] true pr s = some (vT t h' b', s') ∧ Ex s s' ∧ Ow sh64 ro (Fresh s.n) s' h' t.hs ∧ Ow shStr ro (Fresh s.n) s' b' t.bs
theorem TxA.of {f : Nat} {t : T} {h b h' b' : Value} {s u : St} (hs : WF s) (h1 : K (.func (.func f) #[] #[]) [vT t h b] (qs s) = some (vT t h' b', u)) (he : Ex (qs s) u) (o1 : Ow sh64 ro (Fresh s.n) u h' t.hs) (o2 : Ow shStr ro (Fresh s.n) u b' t.bs) (pr : Option (List Nat)) : TxA ro K f t h b pr s := by
  obtain ⟨s'', q1, q2, q3⟩ := callq_own (pr := pr) h1 he hs
  have hcl : clean s.n (vT t h' b') = true → clean0 s.n h' = true ∧ clean0 s.n b' = true := fun hc => by
    simp only [clean, clean1, List.all_cons, Bool.and_eq_true, List.all_nil] at hc
    exact ⟨hc.2.2.2.2.2.2.2.2.2.2.2.2.2.2.2.2.2.2.2.1, hc.2.2.2.2.2.2.2.2.2.2.2.2.2.2.2.2.2.2.2.2.1⟩
  exact ⟨h', b', s'', q1, q2, q3 h' (fun hc => (hcl hc).1) _ _ o1, q3 b' (fun hc => (hcl hc).2) _ _ o2⟩
abbrev tz : List Value := [vI 0, vI 0, v64 0, v64 0, v64 0, v64 0, v64 0, v64 0, v64 0, v64 0, v64 0, v64 0, v64 0, v64 0, v64 0, v64 0, v64 0, v64 0, vI 0, .slice none 0 0, .slice none 0 0]
theorem copytx_t (hK : Std ro K) {t : T} {h b : Value} {F : Fp} {s : St} (hq : WF s) (r : TR ro F s t h b) (hz : t.hs.length < 4294967296) (hz2 : t.bs.length < 4294967296) :
    ∃ h' b' u, K (.func (.func 63) #[] #[]) [vT t h b] s = some (vT t h' b', u) ∧ Ex s u ∧ Ow sh64 ro (Fresh s.n) u h' t.hs ∧ Ow shStr ro (Fresh s.n) u b' t.bs := by
  obtain ⟨s1, hs1d⟩ : ∃ s1, s1 = S s [some (txC t h b), some tz, some (txC t h b)] := ⟨_, rfl⟩
  have hx : Ex s s1 := by rw [hs1d]; exact S_ex hq _
  have hw1 := hx.wf hq
  have hn1 : s1.n = s.n + 3 := by rw [hs1d, S_n]; rfl
  have g10 : s1.get s.n = some (txC t h b) := by rw [hs1d]; exact S_get s _ 0
  have g11 : s1.get (s.n + 1) = some tz := by rw [hs1d]; exact S_get s _ 1
  have g12 : s1.get (s.n + 2) = some (txC t h b) := by rw [hs1d]; exact S_get s _ 2
  obtain ⟨h', u1, c1, e1, o1⟩ := copymarks_q hK hw1 (r.hs.mo (hx.mo F)) hz (some [])
  have hu1 := e1.wf hw1
  have eu1 := hx.trans e1
  have hnu1 := e1.n
  have g20 := (e1.row s.n (by omega)).trans g10
  have g21 := (e1.row (s.n + 1) (by omega)).trans g11
  have g22 := (e1.row (s.n + 2) (by omega)).trans g12
  have m1 : u1.may (s.n + 2) = true := eu1.mayN hq (show s.n ≤ _ from by omega)
  obtain ⟨s2, hs2d⟩ : ∃ s2, s2 = u1.put (s.n + 2) (some (txC t h' b)) := ⟨_, rfl⟩
  have es2 : Ex s s2 := by rw [hs2d]; exact put_ex hq eu1 g22 (Nat.le_add_right _ _) _
  have hw2 := es2.wf hq
  have hn2 : s2.n = u1.n := by rw [hs2d]; rfl
  have g30 : s2.get s.n = some (txC t h b) := by rw [hs2d, St.get_put_other _ _ (by omega) (by omega)]; exact g20
  have g31 : s2.get (s.n + 1) = some tz := by rw [hs2d, St.get_put_other _ _ (by omega) (by omega)]; exact g21
  have g32 : s2.get (s.n + 2) = some (txC t h' b) := by rw [hs2d]; exact St.get_put_same g22 _
  have o12 : Ow sh64 ro (Fresh (s.n + 3)) s2 h' t.hs := by rw [hs2d]; exact (hn1 ▸ o1).put (by omega) (by omega) _
  obtain ⟨b', u2, c2, e2, o2⟩ := copystrs_q hK hw2 (r.bs.mo (es2.mo F)) hz2 (some [])
  have hu2 := e2.wf hw2
  have eu2 := es2.trans e2
  have hnu2 := e2.n
  have g41 := (e2.row (s.n + 1) (by omega)).trans g31
  have g42 := (e2.row (s.n + 2) (by omega)).trans g32
  have m2 : u2.may (s.n + 2) = true := eu2.mayN hq (show s.n ≤ _ from by omega)
  obtain ⟨s3, hs3d⟩ : ∃ s3, s3 = u2.put (s.n + 2) (some (txC t h' b')) := ⟨_, rfl⟩
  have es3 : Ex s s3 := by rw [hs3d]; exact put_ex hq eu2 g42 (show s.n ≤ _ from by omega) _
  have hw3 := es3.wf hq
  have hn3 : s3.n = u2.n := by rw [hs3d]; rfl
  have g51 : s3.get (s.n + 1) = some tz := by rw [hs3d, St.get_put_other _ _ (by omega) (by omega)]; exact g41
  have g52 : s3.get (s.n + 2) = some (txC t h' b') := by rw [hs3d]; exact St.get_put_same g42 _
  have m3 : s3.may (s.n + 1) = true := es3.mayN hq (show s.n ≤ _ from by omega)
  obtain ⟨s4, hs4d⟩ : ∃ s4, s4 = s3.put (s.n + 1) (some (txC t h' b')) := ⟨_, rfl⟩
  have es4 : Ex s s4 := by rw [hs4d]; exact put_ex hq es3 g51 (show s.n ≤ _ from by omega) _
  have g61 : s4.get (s.n + 1) = some (txC t h' b') := by rw [hs4d]; exact St.get_put_same g51 _
  have hw4 := es4.wf hq
  have O1 : Ow sh64 ro (Fresh (s.n + 3)) s4 h' t.hs := by
    rw [hs4d, hs3d]
    exact ((o12.mo (e2.mo _)).put (by omega) (by omega) _).put (by omega) (show _ < u2.n from by omega) _
  have O2 : Ow shStr ro (Fresh (s.n + 3)) s4 b' t.bs := by
    rw [hs4d, hs3d]
    exact ((o2.weak (by omega)).put (by omega) (by omega) _).put (by omega) (show _ < u2.n from by omega) _
  obtain ⟨ch, ph⟩ := o1.cells
  obtain ⟨cb, pb⟩ := o2.cells
  refine ⟨h', b', _, ?_, es4, O1.weak (by omega), O2.weak (by omega)⟩
  rw [go63 hK _ _ rfl]
  simp only [txC, tz, EV.own] at hs1d g20 g22 g30 g32 hs2d g42 hs3d g52 hs4d g51 g61
  simp (disch := first | omega | assumption | exact S_wf (by assumption) _ | (simp; done) | (simp; omega)) [c63, decide_eq_true, decide_eq_false, if_pos, if_neg, hq, ← hs1d, c1, g10, g20, g22, m1, ← hs2d, g30, g32, c2, g42, m2, ← hs3d, g51, g52, m3, ← hs4d, g61, ch, ph, cb, pb]
theorem tcopy_t (hK : Std ro K) {t : T} {h b : Value} {F : Fp} {s : St} (hq : WF s) (r : TR ro F s t h b) (hz : t.hs.length < 4294967296) (hz2 : t.bs.length < 4294967296) :
    ∃ h' b' u, K (.func (.func 122) #[] #[]) [vT t h b] s = some (vT t h' b', u) ∧ Ex s u ∧ Ow sh64 ro (Fresh s.n) u h' t.hs ∧ Ow shStr ro (Fresh s.n) u b' t.bs := by
  obtain ⟨s1, hs1d⟩ : ∃ s1, s1 = S s [some (txC t h b), some tz] := ⟨_, rfl⟩
  have hx : Ex s s1 := by rw [hs1d]; exact S_ex hq _
  have hw1 := hx.wf hq
  have hn1 : s1.n = s.n + 2 := by rw [hs1d, S_n]; rfl
  have g10 : s1.get s.n = some (txC t h b) := by rw [hs1d]; exact S_get s _ 0
  have g11 : s1.get (s.n + 1) = some tz := by rw [hs1d]; exact S_get s _ 1
  obtain ⟨h', u1, c1, e1, o1⟩ := clone64_q hK hw1 (r.hs.mo (hx.mo F)) hz (some [])
  have hu1 := e1.wf hw1
  have eu1 := hx.trans e1
  have hnu1 := e1.n
  have g20 := (e1.row s.n (by omega)).trans g10
  have g21 := (e1.row (s.n + 1) (by omega)).trans g11
  obtain ⟨b', u2, c2, e2, o2⟩ := cloneS_q hK hu1 (r.bs.mo (eu1.mo F)) hz2 (some [])
  have hu2 := e2.wf hu1
  have eu2 := eu1.trans e2
  have hnu2 := e2.n
  have g30 := (e2.row s.n (by omega)).trans g20
  have g31 := (e2.row (s.n + 1) (by omega)).trans g21
  have m2 : u2.may s.n = true := eu2.mayN hq (show s.n ≤ _ from by omega)
  obtain ⟨s3, hs3d⟩ : ∃ s3, s3 = u2.put s.n (some (txC t h' b)) := ⟨_, rfl⟩
  have es3 : Ex s s3 := by rw [hs3d]; exact put_ex hq eu2 g30 (show s.n ≤ _ from by omega) _
  have hw3 := es3.wf hq
  have hn3 : s3.n = u2.n := by rw [hs3d]; rfl
  have g50 : s3.get s.n = some (txC t h' b) := by rw [hs3d]; exact St.get_put_same g30 _
  have g51 : s3.get (s.n + 1) = some tz := by rw [hs3d, St.get_put_other _ _ (by omega) (by omega)]; exact g31
  have m3 : s3.may s.n = true := es3.mayN hq (show s.n ≤ _ from by omega)
  obtain ⟨s4, hs4d⟩ : ∃ s4, s4 = s3.put s.n (some (txC t h' b')) := ⟨_, rfl⟩
  have es4 : Ex s s4 := by rw [hs4d]; exact put_ex hq es3 g50 (show s.n ≤ _ from by omega) _
  have hw4 := es4.wf hq
  have hn4 : s4.n = s3.n := by rw [hs4d]; rfl
  have g60 : s4.get s.n = some (txC t h' b') := by rw [hs4d]; exact St.get_put_same g50 _
  have g61 : s4.get (s.n + 1) = some tz := by rw [hs4d, St.get_put_other _ _ (by omega) (by omega)]; exact g51
  have m4 : s4.may (s.n + 1) = true := es4.mayN hq (show s.n ≤ _ from by omega)
  obtain ⟨s5, hs5d⟩ : ∃ s5, s5 = s4.put (s.n + 1) (some (txC t h' b')) := ⟨_, rfl⟩
  have es5 : Ex s s5 := by rw [hs5d]; exact put_ex hq es4 g61 (show s.n ≤ _ from by omega) _
  have g71 : s5.get (s.n + 1) = some (txC t h' b') := by rw [hs5d]; exact St.get_put_same g61 _
  have O1 : Ow sh64 ro (Fresh (s.n + 2)) s5 h' t.hs := by
    rw [hs5d, hs4d, hs3d]
    exact ((((o1.mo (e2.mo _)).weak (by omega)).put (by omega) (by omega) _).put (by omega) (show _ < u2.n from by omega) _).put (by omega) (show _ < u2.n from by omega) _
  have O2 : Ow shStr ro (Fresh (s.n + 2)) s5 b' t.bs := by
    rw [hs5d, hs4d, hs3d]
    exact (((o2.weak (by omega)).put (by omega) (by omega) _).put (by omega) (show _ < u2.n from by omega) _).put (by omega) (show _ < u2.n from by omega) _
  obtain ⟨ch, ph⟩ := o1.cells
  obtain ⟨cb, pb⟩ := o2.cells
  refine ⟨h', b', _, ?_, es5, O1.weak (by omega), O2.weak (by omega)⟩
  rw [go122 hK _ _ rfl]
  simp only [txC, tz, EV.own] at hs1d g10 g20 g30 hs3d g50 hs4d g60 g61 hs5d g71
  simp (disch := first | omega | assumption | exact S_wf (by assumption) _ | (simp; done) | (simp; omega)) [c122, decide_eq_true, decide_eq_false, if_pos, if_neg, hq, ← hs1d, c1, g10, g20, c2, g30, m2, ← hs3d, g50, m3, ← hs4d, g60, g61, m4, ← hs5d, g71, ch, ph, cb, pb]
theorem copytx_q (hK : Std ro K) {t : T} {h b : Value} {F : Fp} {s : St} (hs : WF s) (r : TR ro F s t h b) (hz : t.hs.length < 4294967296) (hz2 : t.bs.length < 4294967296) (pr : Option (List Nat)) : TxA ro K 63 t h b pr s := by
  obtain ⟨h', b', u, h1, h2, h3, h4⟩ := copytx_t hK hs.q (r.mo (Mo.q F s)) hz hz2
  exact TxA.of hs h1 h2 h3 h4 pr
theorem tcopy_q (hK : Std ro K) {t : T} {h b : Value} {F : Fp} {s : St} (hs : WF s) (r : TR ro F s t h b) (hz : t.hs.length < 4294967296) (hz2 : t.bs.length < 4294967296) (pr : Option (List Nat)) : TxA ro K 122 t h b pr s := by
  obtain ⟨h', b', u, h1, h2, h3, h4⟩ := tcopy_t hK hs.q (r.mo (Mo.q F s)) hz hz2
  exact TxA.of hs h1 h2 h3 h4 pr
end Go.Proofs.YtakdnpafdadblaaGreat.EV.W
namespace Go.Proofs.YtakdnpafdadblaaGreat.EV.W
open Go
set_option maxRecDepth 8000
set_option maxHeartbeats 1000000
variable {ro : Addr → Option Value} {K : H}
abbrev hdC (x : Held) (h b : Value) : List Value := txC x.tx h b ++ [vI x.block]
theorem copytxs_loop (hK : Std ro K) (F : Fp) (A : List T) (hsm : ∀ t ∈ A, Sz t) (hz : A.length < 4294967296) (a : Option Addr) (c : Nat) (s1 : St) (hs1 : WF s1) (r1 : Sl shTx ro F s1 (.slice a A.length c) A) :
    ∀ (j i : Nat) (u : St) (v : Value), Ex s1 u → i + j = A.length → Ow shTxO ro (Fresh s1.n) u v (A.take i) →
    ∃ u' v', Ex s1 u' ∧ Ow shTxO ro (Fresh s1.n) u' v' A ∧ ∀ k : List Fm, M ro K (.lop b95_0) (.bk 0 :: k) [(0, .slice a A.length c), (3, v), (4, vI i)] u =
      Rk ro K .nrm k [(0, .slice a A.length c), (3, v'), (4, vI A.length), (8, .bool false)] u' := by
  intro j
  induction j with
  | zero =>
    intro i u v he h ho
    have : i = A.length := by omega
    subst this
    rw [List.take_of_length_le (Nat.le_refl _)] at ho
    refine ⟨u, v, he, ho, fun k => ?_⟩
    rw [M_lop]
    simp (disch := first | omega | assumption | exact S_wf (by assumption) _ | (simp; done) | (simp; omega)) [Mb _ _ b95_0.eq_1]
  | succ j ih =>
    intro i u v he h ho
    have hu := he.wf hs1
    have hsz := hsm A[i] (by simp)
    obtain ⟨b1, h, bb, hb1, q1, t1⟩ := (r1.mo (he.mo F)).atT (fun t ht => (hsm t ht).1) i (by omega)
    subst hb1
    obtain ⟨u1, hu1d⟩ : ∃ u1, u1 = u := ⟨_, rfl⟩
    have hx1 : Ex u u1 := by rw [hu1d]; exact Ex.refl hu
    have hu1 := hx1.wf hu
    have hn1 := hx1.n
    obtain ⟨h', b', u2, c0, e2, o1, o2⟩ := copytx_q hK hu1 (t1.mo (hx1.mo F)) hsz.2.1 hsz.2.2 (some [])
    have hu2 := e2.wf hu1
    have hx3 := S_ex hu2 [some (txC A[i] h' b')]
    have e13 := hx1.trans (e2.trans hx3)
    obtain ⟨a2, c2, v', s', rfl, ha, he', ho'⟩ := Ow.appendN (new := txC A[i] h' b') (l' := [A[i]]) hs1 he ho e13 (.single ⟨h', b', rfl, (o1.mo (hx3.mo _)).weak (by omega), (o2.mo (hx3.mo _)).weak (by omega)⟩) (by simp) (by simp; omega) (by decide)
    have ht : A.take (i + 1) = List.take i A ++ [A[i]] := List.take_succ_eq_append_getElem (by omega)
    obtain ⟨u', w, f1, f2, f3⟩ := ih (i + 1) s' v' he' (by omega) (by rw [ht]; exact ho')
    refine ⟨u', w, f1, f2, fun k => ?_⟩
    have hs' := he'.wf hs1
    obtain ⟨cw, pw⟩ := ho'.cells
    obtain ⟨ch, ph⟩ := o1.cells
    obtain ⟨cb, pb⟩ := o2.cells
    rw [← f3 k, M_lop]
    have htl : (List.take i A).length = i := by simp; omega
    simp only [htl, List.length_cons, List.length_nil, Nat.zero_add, shTxO, txC, List.cons_append, List.nil_append] at ha
    simp only [txC, List.cons_append, List.nil_append] at hu1d q1 c0
    simp only [htl]
    subst hu1d
    simp (disch := first | omega | assumption | exact S_wf (by assumption) _ | (simp; done) | (simp; omega)) [Mb _ _ b95_0.eq_1, decide_eq_true, decide_eq_false, if_pos, if_neg, q1, wI, hu, rdSl, rep, c0, ha, hs', hu2, cw, pw, ch, ph, cb, pb]
theorem copytxs_q (hK : Std ro K) {A : List T} {v : Value} {F : Fp} {s : St} (hs : WF s) (r1 : Sl shTx ro F s v A) (hsm : ∀ t ∈ A, Sz t) (hz : A.length < 4294967296) (pr : Option (List Nat)) : ∃ v' s', callK K (.func (.func 95) #[] #[]) [v] true pr s = some (v', s') ∧ Ex s s' ∧ Ow shTxO ro (Fresh s.n) s' v' A := by
  obtain ⟨a, c, rfl⟩ := r1.len
  obtain ⟨u', v', f1, f2, f3⟩ := copytxs_loop hK F A hsm hz a c (qs s) hs.q (r1.mo (Mo.q F s)) A.length 0 (qs s) (.slice none 0 0) (Ex.refl hs.q) (by omega) Ow.nil
  simp only [show ((0 : Nat) : Int) = 0 from rfl] at f3
  have h1 : K (.func (.func 95) #[] #[]) [.slice a A.length c] (qs s) = some (v', u') := by
    rw [go95 hK _ _ rfl]
    simp (disch := first | omega | assumption | exact S_wf (by assumption) _ | (simp; done) | (simp; omega)) [c95, decide_eq_true, decide_eq_false, if_pos, if_neg, f3]
  obtain ⟨s'', g1, g2, g3⟩ := callq_own (pr := pr) h1 f1 hs
  refine ⟨v', s'', g1, g2, g3 v' (fun hc => ?_) _ _ f2⟩
  obtain ⟨a', c', rfl⟩ := f2.len
  exact hc
theorem copies_loop (hK : Std ro K) (F : Fp) (A : List T) (hsm : ∀ t ∈ A, Sz t) (hz : A.length < 4294967296) (a : Option Addr) (c : Nat) (s1 : St) (hs1 : WF s1) (r1 : Sl shTx ro F s1 (.slice a A.length c) A) :
    ∀ (j i : Nat) (u : St) (v : Value), Ex s1 u → i + j = A.length → Ow shTxO ro (Fresh s1.n) u v (A.take i) →
    ∃ u' v', Ex s1 u' ∧ Ow shTxO ro (Fresh s1.n) u' v' A ∧ ∀ k : List Fm, M ro K (.lop b131_0) (.bk 0 :: k) [(3, v), (6, .slice a A.length c), (7, vI A.length), (8, vI i)] u =
      Rk ro K .nrm k [(3, v'), (6, .slice a A.length c), (7, vI A.length), (8, vI A.length), (9, .bool false)] u' := by
  intro j
  induction j with
  | zero =>
    intro i u v he h ho
    have : i = A.length := by omega
    subst this
    rw [List.take_of_length_le (Nat.le_refl _)] at ho
    refine ⟨u, v, he, ho, fun k => ?_⟩
    rw [M_lop]
    simp (disch := first | omega | assumption | exact S_wf (by assumption) _ | (simp; done) | (simp; omega)) [Mb _ _ b131_0.eq_1]
  | succ j ih =>
    intro i u v he h ho
    have hu := he.wf hs1
    have hsz := hsm A[i] (by simp)
    obtain ⟨b1, h, bb, hb1, q1, t1⟩ := (r1.mo (he.mo F)).atT (fun t ht => (hsm t ht).1) i (by omega)
    subst hb1
    obtain ⟨u1, hu1d⟩ : ∃ u1, u1 = S u [some (txC A[i] h bb)] := ⟨_, rfl⟩
    have hx1 : Ex u u1 := by rw [hu1d]; exact S_ex hu _
    have hu1 := hx1.wf hu
    have hn1 := hx1.n
    obtain ⟨h', b', u2, c0, e2, o1, o2⟩ := tcopy_q hK hu1 (t1.mo (hx1.mo F)) hsz.2.1 hsz.2.2 (some [])
    have hu2 := e2.wf hu1
    have hx3 := S_ex hu2 [some (txC A[i] h' b')]
    have e13 := hx1.trans (e2.trans hx3)
    obtain ⟨a2, c2, v', s', rfl, ha, he', ho'⟩ := Ow.appendN (new := txC A[i] h' b') (l' := [A[i]]) hs1 he ho e13 (.single ⟨h', b', rfl, (o1.mo (hx3.mo _)).weak (by omega), (o2.mo (hx3.mo _)).weak (by omega)⟩) (by simp) (by simp; omega) (by decide)
    have ht : A.take (i + 1) = List.take i A ++ [A[i]] := List.take_succ_eq_append_getElem (by omega)
    obtain ⟨u', w, f1, f2, f3⟩ := ih (i + 1) s' v' he' (by omega) (by rw [ht]; exact ho')
    refine ⟨u', w, f1, f2, fun k => ?_⟩
    have hs' := he'.wf hs1
    obtain ⟨cw, pw⟩ := ho'.cells
    obtain ⟨ch, ph⟩ := o1.cells
    obtain ⟨cb, pb⟩ := o2.cells
    rw [← f3 k, M_lop]
    have htl : (List.take i A).length = i := by simp; omega
    simp only [htl, List.length_cons, List.length_nil, Nat.zero_add, shTxO, txC, List.cons_append, List.nil_append] at ha
    simp only [txC, List.cons_append, List.nil_append] at hu1d q1 c0
    simp only [htl]
    have g2 : u2.get u.n = some (txC A[i] h bb) := (e2.row u.n (by rw [hu1d, S_n]; simp)).trans (by rw [hu1d, S_get0]; rfl)
    simp only [hdC, txC, List.cons_append, List.nil_append] at g2
    subst hu1d
    simp (disch := first | omega | assumption | exact S_wf (by assumption) _ | (simp; done) | (simp; omega)) [Mb _ _ b131_0.eq_1, decide_eq_true, decide_eq_false, if_pos, if_neg, q1, wI, hu, rdSl, rep, c0, ha, hs', hu2, g2, cw, pw, ch, ph, cb, pb]
theorem copies_q (hK : Std ro K) {A : List T} {v : Value} {F : Fp} {s : St} (hs : WF s) (r1 : Sl shTx ro F s v A) (hsm : ∀ t ∈ A, Sz t) (hz : A.length < 4294967296) (pr : Option (List Nat)) : ∃ v' s', callK K (.func (.func 131) #[] #[]) [v] true pr s = some (v', s') ∧ Ex s s' ∧ Ow shTxO ro (Fresh s.n) s' v' A := by
  obtain ⟨a, c, rfl⟩ := r1.len
  obtain ⟨u', v', f1, f2, f3⟩ := copies_loop hK F A hsm hz a c (qs s) hs.q (r1.mo (Mo.q F s)) A.length 0 (qs s) (.slice none 0 0) (Ex.refl hs.q) (by omega) Ow.nil
  simp only [show ((0 : Nat) : Int) = 0 from rfl] at f3
  have h1 : K (.func (.func 131) #[] #[]) [.slice a A.length c] (qs s) = some (v', u') := by
    rw [go131 hK _ _ rfl]
    simp (disch := first | omega | assumption | exact S_wf (by assumption) _ | (simp; done) | (simp; omega)) [c131, decide_eq_true, decide_eq_false, if_pos, if_neg, f3]
  obtain ⟨s'', g1, g2, g3⟩ := callq_own (pr := pr) h1 f1 hs
  refine ⟨v', s'', g1, g2, g3 v' (fun hc => ?_) _ _ f2⟩
  obtain ⟨a', c', rfl⟩ := f2.len
  exact hc
abbrev vH (x : Held) (h b : Value) : Value := .agg (hdC x h b).toArray
abbrev hz0 : List Value := tz ++ [vI 0]
theorem copyheld_t (hK : Std ro K) {x : Held} {h b : Value} {F : Fp} {s : St} (hq : WF s) (r : TR ro F s x.tx h b) (hz : x.tx.hs.length < 4294967296) (hz2 : x.tx.bs.length < 4294967296) :
    ∃ h' b' u, K (.func (.func 179) #[] #[]) [vH x h b] s = some (vH x h' b', u) ∧ Ex s u ∧ Ow sh64 ro (Fresh s.n) u h' x.tx.hs ∧ Ow shStr ro (Fresh s.n) u b' x.tx.bs := by
  obtain ⟨s1, hs1d⟩ : ∃ s1, s1 = S s [some (hdC x h b), some hz0, some (hdC x h b)] := ⟨_, rfl⟩
  have hx : Ex s s1 := by rw [hs1d]; exact S_ex hq _
  have hw1 := hx.wf hq
  have hn1 : s1.n = s.n + 3 := by rw [hs1d, S_n]; rfl
  have g10 : s1.get s.n = some (hdC x h b) := by rw [hs1d]; exact S_get s _ 0
  have g11 : s1.get (s.n + 1) = some hz0 := by rw [hs1d]; exact S_get s _ 1
  have g12 : s1.get (s.n + 2) = some (hdC x h b) := by rw [hs1d]; exact S_get s _ 2
  obtain ⟨h', b', u1, c1, e1, o1, o2⟩ := copytx_q hK hw1 (r.mo (hx.mo F)) hz hz2 (some [])
  have hu1 := e1.wf hw1
  have eu1 := hx.trans e1
  have hnu1 := e1.n
  have g21 := (e1.row (s.n + 1) (by omega)).trans g11
  have g22 := (e1.row (s.n + 2) (by omega)).trans g12
  have m1 : u1.may (s.n + 2) = true := eu1.mayN hq (show s.n ≤ _ from by omega)
  obtain ⟨s3, hs3d⟩ : ∃ s3, s3 = u1.put (s.n + 2) (some (hdC x h' b')) := ⟨_, rfl⟩
  have es3 : Ex s s3 := by rw [hs3d]; exact put_ex hq eu1 g22 (show s.n ≤ _ from by omega) _
  have hw3 := es3.wf hq
  have hn3 : s3.n = u1.n := by rw [hs3d]; rfl
  have g51 : s3.get (s.n + 1) = some hz0 := by rw [hs3d, St.get_put_other _ _ (by omega) (by omega)]; exact g21
  have g52 : s3.get (s.n + 2) = some (hdC x h' b') := by rw [hs3d]; exact St.get_put_same g22 _
  have m3 : s3.may (s.n + 1) = true := es3.mayN hq (show s.n ≤ _ from by omega)
  obtain ⟨s4, hs4d⟩ : ∃ s4, s4 = s3.put (s.n + 1) (some (hdC x h' b')) := ⟨_, rfl⟩
  have es4 : Ex s s4 := by rw [hs4d]; exact put_ex hq es3 g51 (show s.n ≤ _ from by omega) _
  have g61 : s4.get (s.n + 1) = some (hdC x h' b') := by rw [hs4d]; exact St.get_put_same g51 _
  have O1 : Ow sh64 ro (Fresh (s.n + 3)) s4 h' x.tx.hs := by
    rw [hs4d, hs3d]
    exact ((hn1 ▸ o1).put (by omega) (by omega) _).put (by omega) (show _ < u1.n from by omega) _
  have O2 : Ow shStr ro (Fresh (s.n + 3)) s4 b' x.tx.bs := by
    rw [hs4d, hs3d]
    exact ((hn1 ▸ o2).put (by omega) (by omega) _).put (by omega) (show _ < u1.n from by omega) _
  obtain ⟨ch, ph⟩ := o1.cells
  obtain ⟨cb, pb⟩ := o2.cells
  refine ⟨h', b', _, ?_, es4, O1.weak (by omega), O2.weak (by omega)⟩
  rw [go179 hK _ _ rfl]
  simp only [hdC, hz0, txC, tz, List.cons_append, List.nil_append, EV.own] at hs1d g10 g12 g22 hs3d hs4d g51 g52 g61 c1
  simp only [vH, hdC, txC, List.cons_append, List.nil_append]
  simp (disch := first | omega | assumption | exact S_wf (by assumption) _ | (simp; done) | (simp; omega)) [c179, decide_eq_true, decide_eq_false, if_pos, if_neg, hq, ← hs1d, c1, g10, g12, g22, m1, ← hs3d, g51, g52, m3, ← hs4d, g61, ch, ph, cb, pb]
theorem copyheld_q (hK : Std ro K) {x : Held} {h b : Value} {F : Fp} {s : St} (hs : WF s) (r : TR ro F s x.tx h b) (hz : x.tx.hs.length < 4294967296) (hz2 : x.tx.bs.length < 4294967296) (pr : Option (List Nat)) :
    ∃ h' b' u, callK K (.func (.func 179) #[] #[]) [vH x h b] true pr s = some (vH x h' b', u) ∧ Ex s u ∧ Ow sh64 ro (Fresh s.n) u h' x.tx.hs ∧ Ow shStr ro (Fresh s.n) u b' x.tx.bs := by
  obtain ⟨h', b', u, h1, he, o1, o2⟩ := copyheld_t hK hs.q (r.mo (Mo.q F s)) hz hz2
  obtain ⟨s'', q1, q2, q3⟩ := callq_own (pr := pr) h1 he hs
  have hcl : clean s.n (vH x h' b') = true → clean0 s.n h' = true ∧ clean0 s.n b' = true := fun hc => by
    simp only [vH, hdC, txC, List.cons_append, List.nil_append, clean, clean1, List.all_cons, Bool.and_eq_true, List.all_nil] at hc
    exact ⟨hc.2.2.2.2.2.2.2.2.2.2.2.2.2.2.2.2.2.2.2.1, hc.2.2.2.2.2.2.2.2.2.2.2.2.2.2.2.2.2.2.2.2.1⟩
  exact ⟨h', b', s'', q1, q2, q3 h' (fun hc => (hcl hc).1) _ _ o1, q3 b' (fun hc => (hcl hc).2) _ _ o2⟩
theorem copylimbo_loop (hK : Std ro K) (F : Fp) (A : List Held) (hsm : ∀ t ∈ A, Sz t.tx) (hz : A.length < 4294967296) (a : Option Addr) (c : Nat) (s1 : St) (hs1 : WF s1) (r1 : Sl shHeld ro F s1 (.slice a A.length c) A) :
    ∀ (j i : Nat) (u : St) (v : Value), Ex s1 u → i + j = A.length → Ow shHeldO ro (Fresh s1.n) u v (A.take i) →
    ∃ u' v', Ex s1 u' ∧ Ow shHeldO ro (Fresh s1.n) u' v' A ∧ ∀ k : List Fm, M ro K (.lop b96_0) (.bk 0 :: k) [(0, .slice a A.length c), (3, v), (4, vI i)] u =
      Rk ro K .nrm k [(0, .slice a A.length c), (3, v'), (4, vI A.length), (8, .bool false)] u' := by
  intro j
  induction j with
  | zero =>
    intro i u v he h ho
    have : i = A.length := by omega
    subst this
    rw [List.take_of_length_le (Nat.le_refl _)] at ho
    refine ⟨u, v, he, ho, fun k => ?_⟩
    rw [M_lop]
    simp (disch := first | omega | assumption | exact S_wf (by assumption) _ | (simp; done) | (simp; omega)) [Mb _ _ b96_0.eq_1]
  | succ j ih =>
    intro i u v he h ho
    have hu := he.wf hs1
    have hsz := hsm A[i] (by simp)
    obtain ⟨b1, h, bb, hb1, q1, t1⟩ := (r1.mo (he.mo F)).atH (fun t ht => (hsm t ht).1) i (by omega)
    have q1 := q1.rd 22 (by simp)
    simp at q1
    subst hb1
    obtain ⟨u1, hu1d⟩ : ∃ u1, u1 = u := ⟨_, rfl⟩
    have hx1 : Ex u u1 := by rw [hu1d]; exact Ex.refl hu
    have hu1 := hx1.wf hu
    have hn1 := hx1.n
    obtain ⟨h', b', u2, c0, e2, o1, o2⟩ := copyheld_q hK hu1 (t1.mo (hx1.mo F)) hsz.2.1 hsz.2.2 (some [])
    have hu2 := e2.wf hu1
    have hx3 := S_ex hu2 [some (hdC A[i] h' b')]
    have e13 := hx1.trans (e2.trans hx3)
    obtain ⟨a2, c2, v', s', rfl, ha, he', ho'⟩ := Ow.appendN (new := hdC A[i] h' b') (l' := [A[i]]) hs1 he ho e13 (.single ⟨h', b', rfl, (o1.mo (hx3.mo _)).weak (by omega), (o2.mo (hx3.mo _)).weak (by omega)⟩) (by simp) (by simp; omega) (by decide)
    have ht : A.take (i + 1) = List.take i A ++ [A[i]] := List.take_succ_eq_append_getElem (by omega)
    obtain ⟨u', w, f1, f2, f3⟩ := ih (i + 1) s' v' he' (by omega) (by rw [ht]; exact ho')
    refine ⟨u', w, f1, f2, fun k => ?_⟩
    have hs' := he'.wf hs1
    obtain ⟨cw, pw⟩ := ho'.cells
    obtain ⟨ch, ph⟩ := o1.cells
    obtain ⟨cb, pb⟩ := o2.cells
    rw [← f3 k, M_lop]
    have htl : (List.take i A).length = i := by simp; omega
    simp only [htl, List.length_cons, List.length_nil, Nat.zero_add, shHeldO, vH, hdC, txC, List.cons_append, List.nil_append] at ha
    simp only [vH, hdC, txC, List.cons_append, List.nil_append] at hu1d q1 c0
    simp only [htl]
    subst hu1d
    simp (disch := first | omega | assumption | exact S_wf (by assumption) _ | (simp; done) | (simp; omega)) [Mb _ _ b96_0.eq_1, decide_eq_true, decide_eq_false, if_pos, if_neg, q1, wI, hu, rdSl, rep, c0, ha, hs', hu2, cw, pw, ch, ph, cb, pb]
theorem copylimbo_q (hK : Std ro K) {A : List Held} {v : Value} {F : Fp} {s : St} (hs : WF s) (r1 : Sl shHeld ro F s v A) (hsm : ∀ t ∈ A, Sz t.tx) (hz : A.length < 4294967296) (pr : Option (List Nat)) : ∃ v' s', callK K (.func (.func 96) #[] #[]) [v] true pr s = some (v', s') ∧ Ex s s' ∧ Ow shHeldO ro (Fresh s.n) s' v' A := by
  obtain ⟨a, c, rfl⟩ := r1.len
  obtain ⟨u', v', f1, f2, f3⟩ := copylimbo_loop hK F A hsm hz a c (qs s) hs.q (r1.mo (Mo.q F s)) A.length 0 (qs s) (.slice none 0 0) (Ex.refl hs.q) (by omega) Ow.nil
  simp only [show ((0 : Nat) : Int) = 0 from rfl] at f3
  have h1 : K (.func (.func 96) #[] #[]) [.slice a A.length c] (qs s) = some (v', u') := by
    rw [go96 hK _ _ rfl]
    simp (disch := first | omega | assumption | exact S_wf (by assumption) _ | (simp; done) | (simp; omega)) [c96, decide_eq_true, decide_eq_false, if_pos, if_neg, f3]
  obtain ⟨s'', g1, g2, g3⟩ := callq_own (pr := pr) h1 f1 hs
  refine ⟨v', s'', g1, g2, g3 v' (fun hc => ?_) _ _ f2⟩
  obtain ⟨a', c', rfl⟩ := f2.len
  exact hc
end Go.Proofs.YtakdnpafdadblaaGreat.EV.W
namespace Go.Proofs.YtakdnpafdadblaaGreat.EV.W
open Go
set_option maxRecDepth 8000
set_option maxHeartbeats 1000000
variable {ro : Addr → Option Value} {K : H}
structure BkO (ro : Addr → Option Value) (n : Nat) (s : St) (x : Bk) (a t l : Value) : Prop where
  a : Ow shAcct ro (Fresh n) s a x.accts
  t : Ow shTxO ro (Fresh n) s t x.txs
  l : Ow shHeldO ro (Fresh n) s l x.limbo
theorem BkO.r {n : Nat} {s : St} {x : Bk} {a t l : Value} (h : BkO ro n s x a t l) : BkR ro (Fresh n) s x a t l := ⟨h.a.sl, h.t.txs, h.l.helds⟩
theorem BkO.mo {n : Nat} {s s' : St} {x : Bk} {a t l : Value} (h : BkO ro n s x a t l) (m : Mo (Fresh n) s (Fresh n) s') : BkO ro n s' x a t l := ⟨h.a.mo m, h.t.mo m, h.l.mo m⟩
theorem BkO.weak {n n' : Nat} {s : St} {x : Bk} {a t l : Value} (h : BkO ro n s x a t l) (hn : n' ≤ n) : BkO ro n' s x a t l := ⟨h.a.weak hn, h.t.weak hn, h.l.weak hn⟩
theorem BkO.put {n : Nat} {s : St} {x : Bk} {a t l : Value} (h : BkO ro n s x a t l) {k : Nat} (hk : k < n) (hks : k < s.n) (r : Option (List Value)) : BkO ro n (s.put k r) x a t l := ⟨h.a.put hk hks r, h.t.put hk hks r, h.l.put hk hks r⟩
theorem BkO.cells {n : Nat} {s : St} {x : Bk} {a t l : Value} (h : BkO ro n s x a t l) : (EV.cells a = [a] ∧ plainT a = true) ∧ (EV.cells t = [t] ∧ plainT t = true) ∧ (EV.cells l = [l] ∧ plainT l = true) := ⟨h.a.cells, h.t.cells, h.l.cells⟩
theorem bk_clean {n : Nat} {x : Bk} {a t l : Value} (hc : clean n (vB x a t l) = true) : clean0 n a = true ∧ clean0 n t = true ∧ clean0 n l = true := by
  simp only [clean, clean1, List.all_cons, Bool.and_eq_true, List.all_nil] at hc
  exact ⟨hc.2.2.2.2.2.2.2.1, hc.2.2.2.2.2.2.2.2.1, hc.2.2.2.2.2.2.2.2.2.1⟩
abbrev bz : List Value := [vI 0, vI 0, v64 0, v64 0, v64 0, v64 0, vI 0, .slice none 0 0, .slice none 0 0, .slice none 0 0]
theorem copybook_t (hK : Std ro K) {x : Bk} {a t l : Value} {F : Fp} {s : St} (hq : WF s) (r : BkR ro F s x a t l) (z : BSz x) :
    ∃ a' t' l' u, K (.func (.func 33) #[] #[]) [vB x a t l] s = some (vB x a' t' l', u) ∧ Ex s u ∧ BkO ro s.n u x a' t' l' ∧ ∃ m, Ow shTxO ro (Fresh m) u t' x.txs ∧ Ow shHeldO ro (Fresh m) u l' x.limbo ∧ s.n ≤ m ∧ ∀ j, Dv a' j → j < m := by
  obtain ⟨s1, hs1d⟩ : ∃ s1, s1 = S s [some (bkC x a t l), some bz, some (bkC x a t l)] := ⟨_, rfl⟩
  have hx : Ex s s1 := by rw [hs1d]; exact S_ex hq _
  have hw1 := hx.wf hq
  have hn1 : s1.n = s.n + 3 := by rw [hs1d, S_n]; rfl
  have i0 : s1.get s.n = some (bkC x a t l) := by rw [hs1d]; exact S_get s _ 0
  have i1 : s1.get (s.n + 1) = some bz := by rw [hs1d]; exact S_get s _ 1
  have i2 : s1.get (s.n + 2) = some (bkC x a t l) := by rw [hs1d]; exact S_get s _ 2
  obtain ⟨a', u1, c1, e1, o1⟩ := copyaccts_q hK hw1 (r.a.mo (hx.mo F)) z.na (some [])
  have eu1 := hx.trans e1
  have hwu1 := eu1.wf hq
  have hnu1 := e1.n
  have gu10 := (e1.row s.n (by omega)).trans i0
  have gu11 := (e1.row (s.n + 1) (by omega)).trans i1
  have gu12 := (e1.row (s.n + 2) (by omega)).trans i2
  have m1 : u1.may (s.n + 2) = true := eu1.mayN hq (show s.n ≤ _ from by omega)
  obtain ⟨w1, hw1d⟩ : ∃ w1, w1 = u1.put (s.n + 2) (some (bkC x a' t l)) := ⟨_, rfl⟩
  have ew1 : Ex s w1 := by rw [hw1d]; exact put_ex hq eu1 gu12 (show s.n ≤ _ from by omega) _
  have hws1 := ew1.wf hq
  have hnw1 : w1.n = u1.n := by rw [hw1d]; rfl
  have g10 : w1.get s.n = some (bkC x a t l) := by rw [hw1d, St.get_put_other _ _ (by omega) (by omega)]; exact gu10
  have g11 : w1.get (s.n + 1) = some bz := by rw [hw1d, St.get_put_other _ _ (by omega) (by omega)]; exact gu11
  have g12 : w1.get (s.n + 2) = some (bkC x a' t l) := by rw [hw1d]; exact St.get_put_same gu12 _
  obtain ⟨t', u2, c2, e2, o2⟩ := copytxs_q hK hws1 (r.t.mo (ew1.mo F)) z.tx z.nt (some [])
  have eu2 := ew1.trans e2
  have hwu2 := eu2.wf hq
  have hnu2 := e2.n
  have gu20 := (e2.row s.n (by omega)).trans g10
  have gu21 := (e2.row (s.n + 1) (by omega)).trans g11
  have gu22 := (e2.row (s.n + 2) (by omega)).trans g12
  have m2 : u2.may (s.n + 2) = true := eu2.mayN hq (show s.n ≤ _ from by omega)
  obtain ⟨w2, hw2d⟩ : ∃ w2, w2 = u2.put (s.n + 2) (some (bkC x a' t' l)) := ⟨_, rfl⟩
  have ew2 : Ex s w2 := by rw [hw2d]; exact put_ex hq eu2 gu22 (show s.n ≤ _ from by omega) _
  have hws2 := ew2.wf hq
  have hnw2 : w2.n = u2.n := by rw [hw2d]; rfl
  have g20 : w2.get s.n = some (bkC x a t l) := by rw [hw2d, St.get_put_other _ _ (by omega) (by omega)]; exact gu20
  have g21 : w2.get (s.n + 1) = some bz := by rw [hw2d, St.get_put_other _ _ (by omega) (by omega)]; exact gu21
  have g22 : w2.get (s.n + 2) = some (bkC x a' t' l) := by rw [hw2d]; exact St.get_put_same gu22 _
  obtain ⟨l', u3, c3, e3, o3⟩ := copylimbo_q hK hws2 (r.l.mo (ew2.mo F)) z.lb z.nl (some [])
  have eu3 := ew2.trans e3
  have hwu3 := eu3.wf hq
  have hnu3 := e3.n
  have gu30 := (e3.row s.n (by omega)).trans g20
  have gu31 := (e3.row (s.n + 1) (by omega)).trans g21
  have gu32 := (e3.row (s.n + 2) (by omega)).trans g22
  have m3 : u3.may (s.n + 2) = true := eu3.mayN hq (show s.n ≤ _ from by omega)
  obtain ⟨w3, hw3d⟩ : ∃ w3, w3 = u3.put (s.n + 2) (some (bkC x a' t' l')) := ⟨_, rfl⟩
  have ew3 : Ex s w3 := by rw [hw3d]; exact put_ex hq eu3 gu32 (show s.n ≤ _ from by omega) _
  have hws3 := ew3.wf hq
  have hnw3 : w3.n = u3.n := by rw [hw3d]; rfl
  have g30 : w3.get s.n = some (bkC x a t l) := by rw [hw3d, St.get_put_other _ _ (by omega) (by omega)]; exact gu30
  have g31 : w3.get (s.n + 1) = some bz := by rw [hw3d, St.get_put_other _ _ (by omega) (by omega)]; exact gu31
  have g32 : w3.get (s.n + 2) = some (bkC x a' t' l') := by rw [hw3d]; exact St.get_put_same gu32 _
  have m4 : w3.may (s.n + 1) = true := ew3.mayN hq (show s.n ≤ _ from by omega)
  obtain ⟨w4, hw4d⟩ : ∃ w4, w4 = w3.put (s.n + 1) (some (bkC x a' t' l')) := ⟨_, rfl⟩
  have ew4 : Ex s w4 := by rw [hw4d]; exact put_ex hq ew3 g31 (show s.n ≤ _ from by omega) _
  have g41 : w4.get (s.n + 1) = some (bkC x a' t' l') := by rw [hw4d]; exact St.get_put_same g31 _
  have q2 : Ow shTxO ro (Fresh w1.n) w2 t' x.txs := by rw [hw2d]; exact o2.put (by omega) (by omega) _
  have q2 : Ow shTxO ro (Fresh w1.n) w3 t' x.txs := by rw [hw3d]; exact (q2.mo (e3.mo _)).put (by omega) (by omega) _
  have q2 : Ow shTxO ro (Fresh w1.n) w4 t' x.txs := by rw [hw4d]; exact q2.put (by omega) (by omega) _
  have q3 : Ow shHeldO ro (Fresh w1.n) w3 l' x.limbo := by rw [hw3d]; exact (o3.weak (by omega)).put (by omega) (by omega) _
  have q3 : Ow shHeldO ro (Fresh w1.n) w4 l' x.limbo := by rw [hw4d]; exact q3.put (by omega) (by omega) _
  have q1 : ∀ j, Dv a' j → j < w1.n := fun j ⟨n0, c0, hh⟩ => by
    rcases o1 with ⟨h0, -⟩ | ⟨k0, cs0, h0, -, h1, -⟩
    · rw [h0] at hh; cases hh
    · rw [h0] at hh; cases hh; have := St.get_lt h1; omega
  have o1 : Ow shAcct ro (Fresh (s.n + 3)) w1 a' x.accts := by rw [hw1d]; exact (hn1 ▸ o1).put (by omega) (by omega) _
  have o2 : Ow shTxO ro (Fresh (s.n + 3)) w2 t' x.txs := by rw [hw2d]; exact (o2.weak (by omega)).put (by omega) (by omega) _
  have o3 : Ow shHeldO ro (Fresh (s.n + 3)) w3 l' x.limbo := by rw [hw3d]; exact (o3.weak (by omega)).put (by omega) (by omega) _
  have o1 : Ow shAcct ro (Fresh (s.n + 3)) w2 a' x.accts := by rw [hw2d]; exact (o1.mo (e2.mo _)).put (by omega) (by omega) _
  have o1 : Ow shAcct ro (Fresh (s.n + 3)) w3 a' x.accts := by rw [hw3d]; exact (o1.mo (e3.mo _)).put (by omega) (by omega) _
  have o2 : Ow shTxO ro (Fresh (s.n + 3)) w3 t' x.txs := by rw [hw3d]; exact (o2.mo (e3.mo _)).put (by omega) (by omega) _
  have O : BkO ro (s.n + 3) w4 x a' t' l' := by rw [hw4d]; exact BkO.put ⟨o1, o2, o3⟩ (by omega) (by omega) _
  obtain ⟨⟨ca, pa⟩, ⟨ct, pt⟩, ⟨cl, pl⟩⟩ := O.cells
  refine ⟨a', t', l', w4, ?_, ew4, O.weak (by omega), w1.n, q2, q3, by omega, q1⟩
  rw [go33 hK _ _ rfl]
  simp only [bz, EV.own] at hs1d g41 g11 g21 g31
  simp (disch := first | omega | assumption | exact S_wf (by assumption) _ | (simp; done) | (simp; omega)) [c33, decide_eq_true, decide_eq_false, if_pos, if_neg, hq, ← hs1d, i0, i2, c1, gu12, m1, ← hw1d, g10, g11, g12, c2, gu22, m2, ← hw2d, g20, g21, g22, c3, gu32, m3, ← hw3d, g30, g31, g32, m4, ← hw4d, g41, ca, pa, ct, pt, cl, pl]
theorem copybook_q (hK : Std ro K) {x : Bk} {a t l : Value} {F : Fp} {s : St} (hs : WF s) (r : BkR ro F s x a t l) (z : BSz x) (pr : Option (List Nat)) :
    ∃ a' t' l' u, callK K (.func (.func 33) #[] #[]) [vB x a t l] true pr s = some (vB x a' t' l', u) ∧ Ex s u ∧ BkO ro s.n u x a' t' l' := by
  obtain ⟨a', t', l', u, h1, he, o, -⟩ := copybook_t hK hs.q (r.mo (Mo.q F s)) z
  obtain ⟨s'', q1, q2, q3⟩ := callq_own (pr := pr) h1 he hs
  exact ⟨a', t', l', s'', q1, q2, q3 a' (fun hc => (bk_clean hc).1) _ _ o.a, q3 t' (fun hc => (bk_clean hc).2.1) _ _ o.t, q3 l' (fun hc => (bk_clean hc).2.2) _ _ o.l⟩
theorem copybook_s (hK : Std ro K) {x : Bk} {a t l : Value} {F : Fp} {s : St} (hs : WF s) (r : BkR ro F s x a t l) (z : BSz x) (hne : x.accts ≠ []) (pr : Option (List Nat)) :
    ∃ a' t' l' u, callK K (.func (.func 33) #[] #[]) [vB x a t l] true pr s = some (vB x a' t' l', u) ∧ Ex s u ∧ BkO ro s.n u x a' t' l' ∧ ∃ m, Ow shTxO ro (Fresh m) u t' x.txs ∧ Ow shHeldO ro (Fresh m) u l' x.limbo ∧ s.n ≤ m ∧ ∀ j, Dv a' j → j < m := by
  obtain ⟨a', t', l', u, h1, he, o, m, p1, p2, p3, p4⟩ := copybook_t hK hs.q (r.mo (Mo.q F s)) z
  have hcl : clean s.n (vB x a' t' l') = false := by
    cases hc : clean s.n (vB x a' t' l') with
    | false => rfl
    | true =>
      have h2 := (bk_clean hc).1
      rcases o.a with ⟨-, h0⟩ | ⟨k, cs, rfl, h3, -⟩
      · exact absurd h0 hne
      · simp only [clean0, cleanA, EV.own, decide_eq_true_eq] at h2
        have h2 := of_decide_eq_true h2
        exact absurd h3 (Nat.not_le.2 h2)
  have mo : ∀ F : Fp, Mo F u F { u with fl := s.fl, lf := s.lf } := fun F => ⟨Nat.le_refl _, fun j _ hF => ⟨rfl, hF⟩⟩
  exact ⟨a', t', l', _, callq_keep h1 hcl, he.unq, o.mo (mo _), m, p1.mo (mo _), p2.mo (mo _), p3, p4⟩
end Go.Proofs.YtakdnpafdadblaaGreat.EV.W
namespace Go.Proofs.YtakdnpafdadblaaGreat.EV.W
open Go
set_option maxRecDepth 8000
set_option maxHeartbeats 1000000
variable {ro : Addr → Option Value} {K : H}
def headOk (h : Head) : Bool := decide (0 ≤ h.number ∧ h.number ≤ 1099511627776) && decide (0 ≤ h.excess ∧ h.excess ≤ 1099511627776)
abbrev vHd (h : Head) : Value := .agg #[vI h.number, v64 h.base.a, v64 h.base.b, v64 h.base.c, v64 h.base.d, vI h.excess]
def acctOk (a : Acct) : Bool := decide (0 ≤ a.nonce ∧ a.nonce ≤ 1099511627776)
def acctsOk (l : List Acct) : Bool := l.all acctOk && decide (l.length = 8)
def heldOk (x : Held) : Bool := okT x.tx && decide (0 ≤ x.block ∧ x.block ≤ 1099511627776)
def limboGo : Option T → List Held → Bool
  | _, [] => true
  | none, x :: l => if heldOk x then limboGo (some x.tx) l else false
  | some q, x :: l => if heldOk x && decide (idT q < idT x.tx) then limboGo (some x.tx) l else false
def limboOk (l : List Held) : Bool := limboGo none l && decide (l.length ≤ 48)
def slotsT : List T → Nat
  | [] => 0
  | t :: l => roomT t + slotsT l
theorem roomT_le (t : T) : roomT t ≤ 1024 := by
  unfold roomT
  have := shelfN_lt (bytesT t).length
  have : 2 ^ shelfN (bytesT t).length ≤ 2 ^ 3 := Nat.pow_le_pow_right (by omega) (by omega)
  omega
def roomOk (n : Int) : Bool := decide (1024 ≤ n ∧ n ≤ 1048576)
def findIx : List UInt64 → UInt64 → Nat → Int
  | [], _, _ => -1
  | y :: l, x, i => if y = x then (i : Int) else findIx l x (i + 1)
end Go.Proofs.YtakdnpafdadblaaGreat.EV.W
namespace Go.Proofs.YtakdnpafdadblaaGreat.EV.W
open Go
set_option maxRecDepth 8000
set_option maxHeartbeats 1000000
variable {ro : Addr → Option Value} {K : H}
def spentG : U → List T → Option U
  | x, [] => some x
  | x, t :: l => if x.val + ((costT t).getD U0).val < 2 ^ 256 then spentG (U.of (x.val + ((costT t).getD U0).val)) l else none
theorem okT_cost {t : T} (h : okT t = true) : ∃ x, costT t = some x := by
  unfold okT at h
  simp only [Bool.and_eq_true] at h
  exact Option.isSome_iff_exists.1 h.2
def spentV : Option U → Value
  | some x => vUB x true
  | none => vUB U0 false
def linkT (a : Int) (n : Int) : List T → Bool
  | [] => true
  | t :: l => if t.frm = a ∧ t.nonce = n + 1 then linkT a t.nonce l else false
def chainOk : List T → Bool
  | [] => true
  | t :: l => decide (l.length < 6) && (t :: l).all okT && linkT t.frm t.nonce l && (spentG U0 (t :: l)).isSome
theorem Sl.atF {F : Fp} {s : St} {a : Option Addr} {n c : Nat} {L : List T} (r : Sl shTx ro F s (.slice a n c) L) (i : Nat) (hi : i < L.length) :
    ∃ b, a = some b ∧ rdAt ro s (shift b (i * 21)) 1 = some [vI L[i].frm] ∧ rdAt ro s (shift b (i * 21 + 1)) 1 = some [vI L[i].nonce] := by
  obtain ⟨b, hb, cs, ⟨h, bb, rfl, h1, h2⟩, h3⟩ := r.at i hi
  refine ⟨b, hb, ?_, ?_⟩
  · have := h3.rd 1 (by simp)
    simpa [shTx] using this
  · have := h3.2 1 1 (by simp)
    rw [shift_shift] at this
    simpa [shTx] using this
end Go.Proofs.YtakdnpafdadblaaGreat.EV.W
namespace Go.Proofs.YtakdnpafdadblaaGreat.EV.W
open Go
set_option maxRecDepth 8000
set_option maxHeartbeats 1000000
variable {ro : Addr → Option Value} {K : H}
def Cp (esz : Nat) (v : Value) : Prop := ∃ a n c, v = .slice a n c ∧ (roS a = true → n ≤ c) ∧ (roS a = false → c = esz ∨ c = 0)
theorem Ow.cp {α : Type} {h : Sh α} {F : Fp} {s : St} {v : Value} {l : List α} (r : Ow h ro F s v l) : Cp h.sz v := by
  rcases r with ⟨rfl, rfl⟩ | ⟨k, cs, rfl, -⟩
  · exact ⟨none, 0, 0, rfl, fun _ => Nat.le_refl _, fun _ => .inr rfl⟩
  · exact ⟨_, _, _, rfl, fun hh => by simp [roS, EV.own] at hh, fun _ => .inl rfl⟩
theorem Sl.sli {α : Type} {h : Sh α} {F : Fp} {s : St} {a : Option Addr} {n c : Nat} {L : List α} (r : Sl h ro F s (.slice a n c) L) (hc : Cp h.sz (.slice a n c)) (lo hi : Nat) (h1 : lo ≤ hi) (h2 : hi ≤ L.length) :
    n = L.length ∧ sliOk a hi c h.sz = true ∧ Sl h ro F s (.slice (a.map (sliAdr c lo h.sz)) (hi - lo) (sliCap a c lo)) ((L.drop lo).take (hi - lo)) ∧ Cp h.sz (.slice (a.map (sliAdr c lo h.sz)) (hi - lo) (sliCap a c lo)) := by
  obtain ⟨a', c', cs, he, hr, hn, hb⟩ := r
  cases he
  obtain ⟨a', n', c', he, p1, p2⟩ := hc
  cases he
  have hro : roS (a.map (sliAdr c lo h.sz)) = roS a := by
    cases a with
    | none => rfl
    | some b =>
      simp only [Option.map_some, roS, sliAdr]
      split <;> rfl
  refine ⟨rfl, ?_, ?_, _, _, _, rfl, fun hh => ?_, fun hh => ?_⟩
  · unfold sliOk
    cases hr : roS a with
    | true => rw [if_pos rfl]; exact decide_eq_true (by have := p1 hr; omega)
    | false =>
      rw [if_neg Bool.false_ne_true]
      rcases p2 hr with h | h
      · simp [h]
      · simp [h]
  · have hl : ((L.drop lo).take (hi - lo)).length = hi - lo := by rw [List.length_take, List.length_drop]; omega
    refine ⟨_, _, (cs.drop (lo * h.sz)).take ((hi - lo) * h.sz), by rw [hl], (hr.drop lo).take _, fun hh => ?_, fun b hb' => ?_⟩
    · cases a with
      | none => rw [hn rfl]; simp
      | some b => cases hh
    · cases a with
      | none => cases hb'
      | some b0 =>
        simp only [Option.map_some, Option.some.injEq] at hb'
        subst hb'
        have hrd := hb b0 rfl
        have hlen := hr.length
        unfold sliAdr
        split
        · rename_i hh
          have : hi = lo := by
            have := p1 (by simp [roS, hh.1]); omega
          rw [this, Nat.sub_self, Nat.zero_mul, List.take_zero]
          refine ⟨hrd.1, fun o m hm => ?_⟩
          simp only [List.length_nil] at hm
          have e1 : o = 0 := by omega
          have e2 : m = 0 := by omega
          subst e1 e2
          have := hrd.2 0 0 (by omega)
          simpa using this
        · refine hrd.sub _ _ ?_
          rw [hlen, ← Nat.add_mul]
          exact Nat.mul_le_mul_right _ (by omega)
  · rw [hro] at hh
    have := p1 hh
    unfold sliCap
    rw [if_pos hh]; omega
  · rw [hro] at hh
    unfold sliCap
    rw [if_neg (by rw [hh]; exact Bool.false_ne_true)]
    exact p2 hh
def covT (L : List T) (b : U) : Nat → Nat
  | 0 => 0
  | n + 1 => match spentG U0 (L.take (n + 1)) with
    | some x => if x.val ≤ b.val then n + 1 else covT L b n
    | none => covT L b n
def ofA (L : List T) (x : Int) : List T := L.filter fun t => decide (t.frm = x)
end Go.Proofs.YtakdnpafdadblaaGreat.EV.W
namespace Go.Proofs.YtakdnpafdadblaaGreat.EV.W
open Go
set_option maxRecDepth 8000
set_option maxHeartbeats 1000000
variable {ro : Addr → Option Value} {K : H}
def sortGo : T → List T → Bool
  | _, [] => true
  | p, t :: l => if p.frm < t.frm ∨ (p.frm = t.frm ∧ p.nonce < t.nonce) then sortGo t l else false
def sortOk : List T → Bool
  | [] => true
  | t :: l => sortGo t l
def acctFine (L : List T) (ac : Acct) (x : Int) : Bool :=
  chainOk (ofA L x) && (match ofA L x with
    | [] => true
    | t :: _ => decide (t.nonce = ac.nonce)) && decide (covT (ofA L x) ac.bal (ofA L x).length = (ofA L x).length)
def fineGo (L : List T) : List Acct → Int → Bool
  | [], _ => true
  | ac :: l, x => if acctFine L ac x then fineGo L l (x + 1) else false
theorem ofA_sub {L : List T} {x : Int} {t : T} (h : t ∈ ofA L x) : t ∈ L := (List.mem_filter.1 h).1
theorem ofA_le (L : List T) (x : Int) : (ofA L x).length ≤ L.length := List.length_filter_le _ _
def idsGo : List UInt64 → List T → Option (List UInt64)
  | s, [] => some s
  | s, t :: l => if findIx s (idT t) 0 < 0 then idsGo (s ++ [idT t]) l else none
def outOk (ids : List UInt64) (l : List Held) : Bool := l.all fun x => decide (findIx ids (idT x.tx) 0 < 0)
end Go.Proofs.YtakdnpafdadblaaGreat.EV.W
namespace Go.Proofs.YtakdnpafdadblaaGreat.EV.W
open Go
set_option maxRecDepth 8000
set_option maxHeartbeats 1000000
variable {ro : Addr → Option Value} {K : H}
def idsB (b : Bk) : Bool := match idsGo [] b.txs with
  | some ids => outOk ids b.limbo
  | none => false
def wideB (b : Bk) : Bool := headOk b.head && (acctsOk b.accts && (decide (b.txs.length ≤ 48) && (b.txs.all okT && (limboOk b.limbo && (sortOk b.txs && (fineGo b.txs b.accts 0 && idsB b))))))
theorem limboGo_all : ∀ (l : List Held) (q : Option T), limboGo q l = true → ∀ x ∈ l, heldOk x = true
  | [], _, _, _, hx => by cases hx
  | y :: l, q, h, x, hx => by
    have h1 : heldOk y = true ∧ limboGo (some y.tx) l = true := by
      cases q with
      | none =>
        rw [limboGo] at h
        split at h
        · exact ⟨by assumption, h⟩
        · cases h
      | some q =>
        rw [limboGo] at h
        split at h
        · rename_i hh
          rw [Bool.and_eq_true] at hh
          exact ⟨hh.1, h⟩
        · cases h
    rcases List.mem_cons.1 hx with rfl | hx
    · exact h1.1
    · exact limboGo_all l _ h1.2 x hx
theorem heldOk_tx {x : Held} (h : heldOk x = true) : okT x.tx = true := by
  unfold heldOk at h
  rw [Bool.and_eq_true] at h
  exact h.1
def okB (b : Bk) : Bool := wideB b && (roomOk b.room && decide ((slotsT b.txs : Int) ≤ b.room))
theorem wideB_txs {b : Bk} (h : wideB b = true) : ∀ t ∈ b.txs, okT t = true := by
  unfold wideB at h
  simp only [Bool.and_eq_true] at h
  exact fun t ht => List.all_eq_true.1 h.2.2.2.1 t ht
end Go.Proofs.YtakdnpafdadblaaGreat.EV.W
namespace Go.Proofs.YtakdnpafdadblaaGreat.EV.W
open Go
set_option maxRecDepth 8000
set_option maxHeartbeats 1000000
variable {ro : Addr → Option Value} {K : H}
theorem app_copy (hK : Std ro K) {x : Bk} {a' l' v : Value} {k5 : Nat} {s1 u : St} {acc : List T} {t : T} {h b : Value} {F : Fp} (hs1 : WF s1) (hm5 : s1.may k5 = true) (hk5 : k5 < s1.n) (he : Exd (· = k5) s1 u) (g5 : u.get k5 = some (bkC x a' v l')) (ho : Ow shTxO ro (Fresh s1.n) u v acc) (hT : TR ro F u t h b) (hsz : Sz t) (hl : acc.length < 4294967295) :
    ∃ h' b' u2 s' v' aa cc, callK K (.func (.func 63) #[] #[]) [vT t h b] true (some []) u = some (vT t h' b', u2) ∧ WF u2 ∧ v = .slice aa acc.length cc ∧ appendTo (S u2 [some (txC t h' b')]) 21 aa acc.length cc (txC t h' b') 1 = some (v', s') ∧ WF s' ∧ s'.get k5 = some (bkC x a' v l') ∧ s'.may k5 = true ∧
      Exd (· = k5) s1 (s'.put k5 (some (bkC x a' v' l'))) ∧ (s'.put k5 (some (bkC x a' v' l'))).get k5 = some (bkC x a' v' l') ∧ Ow shTxO ro (Fresh s1.n) (s'.put k5 (some (bkC x a' v' l'))) v' (acc ++ [t]) ∧
      (EV.cells v' = [v'] ∧ plainT v' = true) ∧ (EV.cells h' = [h'] ∧ plainT h' = true) ∧ (EV.cells b' = [b'] ∧ plainT b' = true) ∧
      (∀ j, j < u.n → j ≠ k5 → ¬ Dv v j → (s'.put k5 (some (bkC x a' v' l'))).get j = u.get j) ∧ u.n ≤ s'.n := by
  have hu := he.wf hs1
  have hun := he.n
  obtain ⟨h', b', u2, c0, e2, o1, o2⟩ := copytx_q hK hu hT hsz.2.1 hsz.2.2 (some [])
  have hu2 := e2.wf hu
  have hx3 := S_ex hu2 [some (txC t h' b')]
  have e13 := e2.trans hx3
  have hs3 := e13.wf hu
  have hn13 := e13.n
  have hr : Rows shTxO ro (fun j => Fresh s1.n j ∧ ¬ Dv v j) (S u2 [some (txC t h' b')]) (txC t h' b') [t] := by
    refine .single ⟨h', b', rfl, (o1.mo (hx3.mo _)).mo (Mo.weak _ fun j hj => ?_), (o2.mo (hx3.mo _)).mo (Mo.weak _ fun j hj => ?_)⟩
    all_goals
      simp only [Fresh] at hj ⊢
      refine ⟨by omega, fun ⟨nn, cc, hh⟩ => ?_⟩
      rcases ho with ⟨hh2, -⟩ | ⟨kk, css, hh2, hk1, hk2, -⟩
      · rw [hh2] at hh; cases hh
      · rw [hh2] at hh; cases hh
        have := St.get_lt hk2
        omega
  obtain ⟨aa, cc, s', hv, ha, he4, ho4, hn4⟩ := Ow.app (h := shTxO) (F := Fresh s1.n) (new := txC t h' b') (l' := [t]) hs3 (by simp only [Fresh]; omega)
    (fun j hj hFj => by
      have : s1.may j = true := hs1.may hFj
      rw [(e13.d (fun _ => False)).may, he.may]; exact this) (ho.mo (e13.mo _)) hr (by simp) (by simp; omega) (by decide)
  have hnd : ¬ Dv v k5 := fun ⟨nn, cc, hh⟩ => by
    rcases ho with ⟨hh2, -⟩ | ⟨kk, css, hh2, hk1, hk2, -⟩
    · rw [hh2] at hh; cases hh
    · rw [hh2] at hh; cases hh
      simp only [Fresh] at hk1; omega
  have hs4 := he4.wf hs3
  have g4 : s'.get k5 = some (bkC x a' v l') := by
    rw [he4.row k5 (by omega) hnd, e13.row k5 (by omega)]; exact g5
  have m4 : s'.may k5 = true := by rw [he4.may, (e13.d (fun _ => False)).may, he.may]; exact hm5
  have hp := Exd.put hs4 g4 (some (bkC x a' (.slice (some (own (S u2 [some (txC t h' b')]).n 0)) (acc.length + 1) 21) l'))
  refine ⟨h', b', u2, s', _, aa, cc, c0, hu2, hv, ha, hs4, g4, m4, ?_, St.get_put_same g4 _, ?_, ho4.cells, o1.cells, o2.cells, fun j hj h1 h2 => ?_, by omega⟩
  · refine (he.trans (E := (· = k5)) (e13.d (fun _ => False)) (fun _ _ h => h) (fun _ _ h => h.elim)).trans (he4.trans (E := fun j => j = k5 ∨ s1.n ≤ j) hp (fun j _ ⟨nn, cc, hh⟩ => ?_) (fun j _ h => .inl h)) (fun _ _ h => h) (fun j hj h => ?_)
    · rcases ho with ⟨hh2, -⟩ | ⟨kk, css, hh2, hk1, hk2, -⟩
      · rw [hh2] at hh; cases hh
      · rw [hh2] at hh; cases hh; exact .inr hk1
    · rcases h with h | h
      · exact h
      · omega
  · exact ho4.mo (hp.mo fun j hj e => by subst e; simp only [Fresh] at hj; omega)
  · exact (hp.row j (by omega) h1).trans ((he4.row j (by omega) h2).trans (e13.row j hj))
theorem Ow.lt {α : Type} {h : Sh α} {F : Fp} {s : St} {v : Value} {l : List α} (r : Ow h ro F s v l) : ∀ j, Dv v j → j < s.n ∧ F j := fun j ⟨n1, c1, hh⟩ => by
  rcases r with ⟨rfl, -⟩ | ⟨k, cs, rfl, h2, h3, h4⟩
  · cases hh
  · cases hh; exact ⟨St.get_lt h3, h2⟩
def putL (t : T) : Bool → List T → List T → Bool × List T
  | inn, acc, [] => (inn, acc)
  | inn, acc, o :: l =>
    if inn = false ∧ (t.frm < o.frm ∨ (o.frm = t.frm ∧ t.nonce ≤ o.nonce)) then
      if o.frm ≠ t.frm ∨ o.nonce ≠ t.nonce then putL t true (acc ++ [t] ++ [o]) l else putL t true (acc ++ [t]) l
    else if o.frm ≠ t.frm ∨ o.nonce ≠ t.nonce then putL t inn (acc ++ [o]) l else putL t inn acc l
def putT (L : List T) (t : T) : List T := if (putL t false [] L).1 then (putL t false [] L).2 else (putL t false [] L).2 ++ [t]
theorem rput_loop (hK : Std ro K) (F : Fp) (b : Bk) (t : T) (hz : ∀ x ∈ b.txs, Sz x) (hzt : Sz t) (hlen : b.txs.length < 1000000000) (x : Bk) (a' l' va vl ht bt : Value) (a : Option Addr) (c : Nat) (k2 k3 k5 : Nat) (p4 : Value) (s1 : St) (hs1 : WF s1) (hm5 : s1.may k5 = true) (hk5 : k5 < s1.n) (h25 : k2 ≠ k5) (h35 : k3 ≠ k5)
    (hF : ∀ j, F j → j < s1.n ∧ j ≠ k5) (r : Sl shTx ro F s1 (.slice a b.txs.length c) b.txs) (rt : TR ro F s1 t ht bt) (g2 : s1.get k2 = some (bkC b va (.slice a b.txs.length c) vl)) (g3 : s1.get k3 = some (txC t ht bt)) :
    ∀ (j i : Nat) (u : St) (v : Value) (acc : List T) (inn : Bool), i + j = b.txs.length → acc.length ≤ 2 * i → Exd (· = k5) s1 u → u.get k5 = some (bkC x a' v l') → Ow shTxO ro (Fresh s1.n) u v acc →
    ∃ u' v', Exd (· = k5) s1 u' ∧ u'.get k5 = some (bkC x a' v' l') ∧ Ow shTxO ro (Fresh s1.n) u' v' (putL t inn acc (b.txs.drop i)).2 ∧ (putL t inn acc (b.txs.drop i)).2.length ≤ 2 * b.txs.length ∧
    ∀ k : List Fm, M ro K (.lop b32_0) (.bk 0 :: k) [(2, .pointer (some (EV.own k2 0))), (3, .pointer (some (EV.own k3 0))), (4, p4), (5, .pointer (some (EV.own k5 0))), (6, .bool inn), (7, vI i)] u =
      Rk ro K .nrm k [(2, .pointer (some (EV.own k2 0))), (3, .pointer (some (EV.own k3 0))), (4, p4), (5, .pointer (some (EV.own k5 0))), (6, .bool (putL t inn acc (b.txs.drop i)).1), (7, vI b.txs.length), (16, .bool false)] u' := by
  intro j
  induction j with
  | zero =>
    intro i u v acc inn h hl he g5 ho
    have : i = b.txs.length := by omega
    subst this
    have g2' := (he.row k2 (St.get_lt g2) h25).trans g2
    rw [List.drop_of_length_le (Nat.le_refl _), putL]
    refine ⟨u, v, he, g5, ho, hl, fun k => ?_⟩
    rw [M_lop]
    simp (disch := first | omega | assumption | exact S_wf (by assumption) _ | (simp; done) | (simp; omega)) [Mb _ _ b32_0.eq_1, g2']
  | succ j ih =>
    intro i u v acc inn h hl he g5 ho
    have hu := he.wf hs1
    have hun := he.n
    have keep : Mo F s1 F u := he.mo fun j hj => (hF j hj).2
    obtain ⟨b1, ho1, bo1, hb, q1, hT⟩ := (r.mo keep).atT (fun t ht => (hz t ht).1) i (by omega)
    subst hb
    obtain ⟨o, hod⟩ : ∃ o, o = b.txs[i] := ⟨_, rfl⟩
    have hzo : Sz o := by rw [hod]; exact hz _ (by simp)
    rw [List.drop_eq_getElem_cons (show i < b.txs.length by omega), ← hod]
    rw [← hod] at q1 hT
    have g2' := (he.row k2 (St.get_lt g2) h25).trans g2
    have g3' := (he.row k3 (St.get_lt g3) h35).trans g3
    have hk2u := St.get_lt g2'
    have hk3u := St.get_lt g3'
    obtain ⟨u0, hu0⟩ : ∃ u0, u0 = S u [some (txC o ho1 bo1)] := ⟨_, rfl⟩
    have x0 : Ex u u0 := by rw [hu0]; exact S_ex hu _
    have w0 := x0.wf hu
    have hn0 : u0.n = u.n + 1 := by rw [hu0, S_n]; rfl
    have e0 : Exd (· = k5) s1 u0 := he.trans (x0.d (fun _ => False)) (fun _ _ h => h) (fun _ _ h => h.elim)
    have g20 : u0.get k2 = some (bkC b va (.slice (some b1) b.txs.length c) vl) := (x0.row k2 hk2u).trans g2'
    have g30 : u0.get k3 = some (txC t ht bt) := (x0.row k3 hk3u).trans g3'
    have g50 : u0.get k5 = some (bkC x a' v l') := (x0.row k5 (St.get_lt g5)).trans g5
    have g80 : u0.get u.n = some (txC o ho1 bo1) := by rw [hu0, S_get0]; rfl
    have o0 := ho.mo (x0.mo _)
    have hTo : TR ro F u0 o ho1 bo1 := hT.mo (x0.mo F)
    have hTt : TR ro F u0 t ht bt := (rt.mo keep).mo (x0.mo F)
    simp only [bkC, txC, EV.own] at hu0 g20 g30 g50 g80
    by_cases hins : inn = false ∧ (t.frm < o.frm ∨ (o.frm = t.frm ∧ t.nonce ≤ o.nonce))
    · obtain ⟨hi1, hi2⟩ := hins
      subst hi1
      obtain ⟨h', b', u2, s', v', aa, cc, z1, z2, z3, z4, z5, z6, z7, z8, z9, z10, ⟨z11, z12⟩, ⟨z13, z14⟩, ⟨z15, z16⟩, z17, z18⟩ := app_copy hK hs1 hm5 hk5 e0 g50 o0 hTt hzt (by omega)
      obtain ⟨w1, hw1⟩ : ∃ w1, w1 = s'.put k5 (some (bkC x a' v' l')) := ⟨_, rfl⟩
      rw [← hw1] at z8 z9 z10 z17
      have hnw1 : w1.n = s'.n := by rw [hw1]; rfl
      have y2 : w1.get k2 = some (bkC b va (.slice (some b1) b.txs.length c) vl) := (z8.row k2 (St.get_lt g2) h25).trans g2
      have y3 : w1.get k3 = some (txC t ht bt) := (z8.row k3 (St.get_lt g3) h35).trans g3
      have y8 : w1.get u.n = some (txC o ho1 bo1) := (z17 u.n (by omega) (by omega) (fun hd => by have := (ho.lt _ hd).1; omega)).trans g80
      by_cases hkp : o.frm ≠ t.frm ∨ o.nonce ≠ t.nonce
      · have hpl : ∀ l, putL t false acc (o :: l) = putL t true (acc ++ [t] ++ [o]) l := fun l => by rw [putL, if_pos ⟨rfl, hi2⟩, if_pos hkp]
        have hTo1 : TR ro F w1 o ho1 bo1 := hTo.mo ⟨by omega, fun j hj hf => ⟨by rw [z8.row j (hF j hf).1 (hF j hf).2, e0.row j (hF j hf).1 (hF j hf).2], hf⟩⟩
        obtain ⟨h2', b2', u3, s2', v2', aa2, cc2, y11, y12, y13, y14, y15, y16, y17, y18, y19, y20, ⟨y21, y22⟩, ⟨y23, y24⟩, ⟨y25, y26⟩, y27, y28⟩ := app_copy hK hs1 hm5 hk5 z8 z9 z10 hTo1 hzo (by simp; omega)
        obtain ⟨u', w, f1, f2, f3, f4, f5⟩ := ih (i + 1) _ v2' (acc ++ [t] ++ [o]) true (by omega) (by simp; omega) y18 y19 y20
        refine ⟨u', w, f1, f2, by rw [hpl]; exact f3, by rw [hpl]; exact f4, fun k => ?_⟩
        rw [hpl, ← f5 k, M_lop]
        subst z3
        subst y13
        have hw1w := z8.wf hs1
        simp only [bkC, txC, EV.own, List.length_append, List.length_cons, List.length_nil, Nat.zero_add] at z1 z4 z6 z9 z11 z12 hw1 y2 y3 y8 y11 y14 y16 g2' g3' q1 ⊢
        clear hpl f5 ih
        rcases hi2 with hi2 | ⟨hi2, hi3⟩
        · have hne : ¬ o.frm = t.frm := by omega
          simp (disch := first | omega | assumption | exact S_wf (by assumption) _ | (simp; done) | (simp; omega)) [Mb _ _ b32_0.eq_1, decide_eq_true, decide_eq_false, if_pos, if_neg, g2', g3', q1, hu, ← hu0, g80, g30, g50, z1, z2, z4, z5, z6, z7, z11, z12, z13, z14, z15, z16, rdSl, rep, wI, ← hw1, z9, y2, y3, y8, y11, y12, y14, y15, y16, y17, y21, y22, y23, y24, y25, y26, hw1w]
        · have hne : ¬ o.nonce = t.nonce := by rcases hkp with h | h; exact absurd hi2 h; exact h
          have hng : ¬ t.frm < o.frm := by omega
          simp (disch := first | omega | assumption | exact S_wf (by assumption) _ | (simp; done) | (simp; omega)) [Mb _ _ b32_0.eq_1, decide_eq_true, decide_eq_false, if_pos, if_neg, g2', g3', q1, hu, ← hu0, g80, g30, g50, z1, z2, z4, z5, z6, z7, z11, z12, z13, z14, z15, z16, rdSl, rep, wI, ← hw1, z9, y2, y3, y8, y11, y12, y14, y15, y16, y17, y21, y22, y23, y24, y25, y26, hw1w]
      · have hpl : ∀ l, putL t false acc (o :: l) = putL t true (acc ++ [t]) l := fun l => by rw [putL, if_pos ⟨rfl, hi2⟩, if_neg hkp]
        obtain ⟨u', w, f1, f2, f3, f4, f5⟩ := ih (i + 1) _ v' (acc ++ [t]) true (by omega) (by simp; omega) z8 z9 z10
        refine ⟨u', w, f1, f2, by rw [hpl]; exact f3, by rw [hpl]; exact f4, fun k => ?_⟩
        rw [hpl, ← f5 k, M_lop]
        subst z3
        have hw1w := z8.wf hs1
        have hk1 : o.frm = t.frm := by omega
        have hk2 : o.nonce = t.nonce := by omega
        have hng : ¬ t.frm < o.frm := by omega
        have hng2 : t.nonce ≤ o.nonce := by omega
        simp only [bkC, txC, EV.own] at z1 z4 z6 z9 hw1 y2 y3 y8 g2' g3' q1 ⊢
        clear hpl f5 ih
        simp (disch := first | omega | assumption | exact S_wf (by assumption) _ | (simp; done) | (simp; omega)) [Mb _ _ b32_0.eq_1, decide_eq_true, decide_eq_false, if_pos, if_neg, g2', g3', q1, hu, ← hu0, g80, g30, g50, z1, z2, z4, z5, z6, z7, z11, z12, z13, z14, z15, z16, rdSl, rep, wI, ← hw1, z9, y2, y3, y8, hw1w]
    · by_cases hkp : o.frm ≠ t.frm ∨ o.nonce ≠ t.nonce
      · have hpl : ∀ l, putL t inn acc (o :: l) = putL t inn (acc ++ [o]) l := fun l => by rw [putL, if_neg hins, if_pos hkp]
        obtain ⟨h', b', u2, s', v', aa, cc, z1, z2, z3, z4, z5, z6, z7, z8, z9, z10, ⟨z11, z12⟩, ⟨z13, z14⟩, ⟨z15, z16⟩, z17, z18⟩ := app_copy hK hs1 hm5 hk5 e0 g50 o0 hTo hzo (by omega)
        obtain ⟨u', w, f1, f2, f3, f4, f5⟩ := ih (i + 1) _ v' (acc ++ [o]) inn (by omega) (by simp; omega) z8 z9 z10
        refine ⟨u', w, f1, f2, by rw [hpl]; exact f3, by rw [hpl]; exact f4, fun k => ?_⟩
        rw [hpl, ← f5 k, M_lop]
        subst z3
        simp only [bkC, txC, EV.own] at z1 z4 z6 g2' g3' q1 ⊢
        clear hpl f5 ih
        by_cases hk1 : o.frm = t.frm
        · have hk2 : ¬ o.nonce = t.nonce := by rcases hkp with h | h; exact absurd hk1 h; exact h
          cases inn with
          | true => simp (disch := first | omega | assumption | exact S_wf (by assumption) _ | (simp; done) | (simp; omega)) [Mb _ _ b32_0.eq_1, decide_eq_true, decide_eq_false, if_pos, if_neg, g2', g3', q1, hu, ← hu0, g80, g30, g50, z1, z2, z4, z5, z6, z7, z11, z12, z13, z14, z15, z16, rdSl, rep, wI]
          | false =>
            have hk3 : ¬ t.nonce ≤ o.nonce := fun hh => hins ⟨rfl, .inr ⟨hk1, hh⟩⟩
            have hng : ¬ t.frm < o.frm := by omega
            simp (disch := first | omega | assumption | exact S_wf (by assumption) _ | (simp; done) | (simp; omega)) [Mb _ _ b32_0.eq_1, decide_eq_true, decide_eq_false, if_pos, if_neg, g2', g3', q1, hu, ← hu0, g80, g30, g50, z1, z2, z4, z5, z6, z7, z11, z12, z13, z14, z15, z16, rdSl, rep, wI]
        · cases inn with
          | true => simp (disch := first | omega | assumption | exact S_wf (by assumption) _ | (simp; done) | (simp; omega)) [Mb _ _ b32_0.eq_1, decide_eq_true, decide_eq_false, if_pos, if_neg, g2', g3', q1, hu, ← hu0, g80, g30, g50, z1, z2, z4, z5, z6, z7, z11, z12, z13, z14, z15, z16, rdSl, rep, wI]
          | false =>
            have hng : ¬ t.frm < o.frm := fun hh => hins ⟨rfl, .inl hh⟩
            simp (disch := first | omega | assumption | exact S_wf (by assumption) _ | (simp; done) | (simp; omega)) [Mb _ _ b32_0.eq_1, decide_eq_true, decide_eq_false, if_pos, if_neg, g2', g3', q1, hu, ← hu0, g80, g30, g50, z1, z2, z4, z5, z6, z7, z11, z12, z13, z14, z15, z16, rdSl, rep, wI]
      · have hpl : ∀ l, putL t inn acc (o :: l) = putL t inn acc l := fun l => by rw [putL, if_neg hins, if_neg hkp]
        obtain ⟨u', w, f1, f2, f3, f4, f5⟩ := ih (i + 1) u0 v acc inn (by omega) (by omega) e0 g50 o0
        refine ⟨u', w, f1, f2, by rw [hpl]; exact f3, by rw [hpl]; exact f4, fun k => ?_⟩
        rw [hpl, ← f5 k, M_lop]
        have hk1 : o.frm = t.frm := Classical.byContradiction fun h => hkp (.inl h)
        have hk2 : o.nonce = t.nonce := Classical.byContradiction fun h => hkp (.inr h)
        have hng : ¬ t.frm < o.frm := by omega
        have hng2 : t.nonce ≤ o.nonce := by omega
        simp only [bkC, txC, EV.own] at g2' g3' q1 ⊢
        clear hpl f5 ih
        cases inn with
        | true => simp (disch := first | omega | assumption | exact S_wf (by assumption) _ | (simp; done) | (simp; omega)) [Mb _ _ b32_0.eq_1, decide_eq_true, decide_eq_false, if_pos, if_neg, g2', g3', q1, hu, ← hu0, g80, g30, g50, wI]
        | false => exact absurd ⟨rfl, .inr ⟨hk1, hng2⟩⟩ hins
end Go.Proofs.YtakdnpafdadblaaGreat.EV.W
namespace Go.Proofs.YtakdnpafdadblaaGreat.EV.W
open Go
set_option maxRecDepth 8000
set_option maxHeartbeats 1000000
variable {ro : Addr → Option Value} {K : H}
theorem rput_t (hK : Std ro K) {b : Bk} {a tv l : Value} {t : T} {h bb : Value} {F : Fp} {s : St} (hs : WF s) (r : BkR ro F s b a tv l) (z : BSz b) (rt : TR ro F s t h bb) (hzt : Sz t) (hlen : b.txs.length < 1000000000) :
    ∃ a' t' l' u, K (.func (.func 32) #[] #[]) [vB b a tv l, vT t h bb] s = some (vB { b with txs := putT b.txs t } a' t' l', u) ∧ Ex s u ∧ BkO ro s.n u { b with txs := putT b.txs t } a' t' l' := by
  obtain ⟨atx, ct, htx⟩ := r.t.len
  subst htx
  obtain ⟨s1, hs1d⟩ : ∃ s1, s1 = S s [some (bkC b a (.slice atx b.txs.length ct) l), some (txC t h bb), some bz] := ⟨_, rfl⟩
  have hx : Ex s s1 := by rw [hs1d]; exact S_ex hs _
  have hw1 := hx.wf hs
  have hn1 : s1.n = s.n + 3 := by rw [hs1d, S_n]; rfl
  have i0 : s1.get s.n = some (bkC b a (.slice atx b.txs.length ct) l) := by rw [hs1d]; exact S_get s _ 0
  have i1 : s1.get (s.n + 1) = some (txC t h bb) := by rw [hs1d]; exact S_get s _ 1
  have i2 : s1.get (s.n + 2) = some bz := by rw [hs1d]; exact S_get s _ 2
  have r' : BkR ro (fun j => F j ∧ j < s.n) s b a (.slice atx b.txs.length ct) l := r.mo ⟨Nat.le_refl _, fun j hj hF => ⟨rfl, hF, hj⟩⟩
  have rt' : TR ro (fun j => F j ∧ j < s.n) s t h bb := rt.mo ⟨Nat.le_refl _, fun j hj hF => ⟨rfl, hF, hj⟩⟩
  obtain ⟨a', t0, l', u1, c1, e1, o1⟩ := copybook_q hK hw1 (r.mo (hx.mo F)) z (some [])
  have hu1 := e1.wf hw1
  have hnu1 := e1.n
  obtain ⟨⟨ca, pa⟩, ⟨ct0, pt0⟩, ⟨cl, pl⟩⟩ := o1.cells
  obtain ⟨s2, hs2d⟩ : ∃ s2, s2 = S u1 [some (bkC b a' (.slice none 0 0) l')] := ⟨_, rfl⟩
  have hx2 : Ex u1 s2 := by rw [hs2d]; exact S_ex hu1 _
  have hw2 := hx2.wf hu1
  have hn2 : s2.n = u1.n + 1 := by rw [hs2d, S_n]; rfl
  have es2 := hx.trans (e1.trans hx2)
  have j0 : s2.get s.n = some (bkC b a (.slice atx b.txs.length ct) l) := (hx2.row _ (by omega)).trans ((e1.row _ (by omega)).trans i0)
  have j1 : s2.get (s.n + 1) = some (txC t h bb) := (hx2.row _ (by omega)).trans ((e1.row _ (by omega)).trans i1)
  have j2 : s2.get (s.n + 2) = some bz := (hx2.row _ (by omega)).trans ((e1.row _ (by omega)).trans i2)
  have j5 : s2.get u1.n = some (bkC b a' (.slice none 0 0) l') := by rw [hs2d, S_get0]; rfl
  have m5 : s2.may u1.n = true := by rw [hs2d]; exact S_may0 hu1 _
  obtain ⟨u2, v', e2, g5, o2, hl2, lp⟩ := rput_loop hK (fun j => F j ∧ j < s.n) b t z.tx hzt hlen b a' l' a l h bb atx ct s.n (s.n + 1) u1.n (.pointer (some (EV.own (s.n + 2) 0))) s2 hw2 m5 (by omega) (by omega) (by omega) (fun j hj => by omega)
    ((r'.t).mo (es2.mo _)) (rt'.mo (es2.mo _)) j0 j1 b.txs.length 0 s2 (.slice none 0 0) [] false (by omega) (by simp) ((Ex.refl hw2).d _) j5 Ow.nil
  simp only [show ((0 : Nat) : Int) = 0 from rfl, EV.own, List.drop_zero] at lp o2 hl2
  have hu2 := e2.wf hw2
  have hnu2 := e2.n
  have k1 : u2.get (s.n + 1) = some (txC t h bb) := (e2.row _ (by omega) (by omega)).trans j1
  have k2 : u2.get (s.n + 2) = some bz := (e2.row _ (by omega) (by omega)).trans j2
  have eu2 : Ex s u2 := Exd.ex es2 e2 (fun j hj => by omega)
  have fin : ∀ (w : St) (v'' : Value), Exd (fun j => j = u1.n) s2 w → w.get u1.n = some (bkC b a' v'' l') → Ow shTxO ro (Fresh s2.n) w v'' (putT b.txs t) →
      ∃ w4, w4 = w.put (s.n + 2) (some (bkC b a' v'' l')) ∧ w.may (s.n + 2) = true ∧ w.get (s.n + 2) = some bz ∧ w4.get (s.n + 2) = some (bkC b a' v'' l') ∧ Ex s w4 ∧ BkO ro s.n w4 { b with txs := putT b.txs t } a' v'' l' ∧ WF w ∧ EV.cells v'' = [v''] ∧ plainT v'' = true := by
    intro w v'' eW gW oW
    have hnW := eW.n
    have ew : Ex s w := Exd.ex es2 eW (fun j hj => by omega)
    have g4 : w.get (s.n + 2) = some bz := (eW.row _ (by omega) (by omega)).trans j2
    have mA : Mo (Fresh s1.n) u1 (Fresh (s.n + 3)) w := ⟨by omega, fun j hj hf => ⟨(eW.row j (by omega) (by omega)).trans (hx2.row j hj), by simp only [Fresh] at hf ⊢; omega⟩⟩
    refine ⟨_, rfl, ew.mayN hs (show s.n ≤ _ from by omega), g4, St.get_put_same g4 _, put_ex hs ew g4 (show s.n ≤ _ from by omega) _, ?_, ew.wf hs, oW.cells.1, oW.cells.2⟩
    exact ⟨((o1.a.mo mA).put (by omega) (by omega) _).weak (by omega), ((oW.weak (n' := s.n + 3) (by omega)).put (by omega) (by omega) _).weak (by omega), ((o1.l.mo mA).put (by omega) (by omega) _).weak (by omega)⟩
  rw [go32 hK _ _ rfl]
  simp only [bkC, bz, txC, EV.own] at hs1d i0 c1 hs2d j0 j1 g5 k1
  cases hin : (putL t false [] b.txs).1 with
  | true =>
    have hpt : putT b.txs t = (putL t false [] b.txs).2 := by unfold putT; rw [if_pos hin]
    obtain ⟨w4, hw4, m4, g4, g4', e4, O, hww, cv, pv⟩ := fin u2 v' e2 g5 (hpt ▸ o2)
    refine ⟨a', v', l', w4, ?_, e4, O⟩
    rw [hin] at lp
    simp only [bkC, bz] at hw4 g4 g4'
    simp (disch := first | omega | assumption | exact S_wf (by assumption) _ | (simp; done) | (simp; omega)) [c32, decide_eq_true, decide_eq_false, if_pos, if_neg, hs, ← hs1d, i0, c1, hu1, ca, pa, ct0, pt0, cl, pl, ← hs2d, lp, g5, ← hw4, m4, g4, g4', cv, pv, splice, rep]
  | false =>
    have hpt : putT b.txs t = (putL t false [] b.txs).2 ++ [t] := by unfold putT; rw [if_neg (by rw [hin]; exact Bool.false_ne_true)]
    have hT2 : TR ro (fun j => F j ∧ j < s.n) u2 t h bb := (rt'.mo (es2.mo _)).mo ⟨e2.n, fun j hj hf => ⟨e2.row j hj (by omega), hf⟩⟩
    obtain ⟨h', b', u3, s', v'', aa, cc, z1, z2, z3, z4, z5, z6, z7, z8, z9, z10, ⟨z11, z12⟩, ⟨z13, z14⟩, ⟨z15, z16⟩, z17, z18⟩ := app_copy hK hw2 m5 (by omega) e2 g5 o2 hT2 hzt (by omega)
    obtain ⟨w, hw⟩ : ∃ w, w = s'.put u1.n (some (bkC b a' v'' l')) := ⟨_, rfl⟩
    rw [← hw] at z8 z9 z10
    obtain ⟨w4, hw4, m4, g4, g4', e4, O, hww, cv, pv⟩ := fin w v'' z8 z9 (hpt ▸ z10)
    refine ⟨a', v'', l', w4, ?_, e4, O⟩
    rw [hin] at lp
    subst z3
    simp only [bkC, bz, txC, EV.own] at hw4 g4 g4' hw z1 z4 z6 z9
    simp (disch := first | omega | assumption | exact S_wf (by assumption) _ | (simp; done) | (simp; omega)) [c32, decide_eq_true, decide_eq_false, if_pos, if_neg, hs, ← hs1d, i0, c1, hu1, ca, pa, ct0, pt0, cl, pl, ← hs2d, lp, g5, k1, z1, z2, z4, z5, z6, z7, z11, z12, z13, z14, z15, z16, ← hw, z9, ← hw4, m4, g4, g4', cv, pv, splice, rep, rdSl]
theorem rput_q (hK : Std ro K) {b : Bk} {a tv l : Value} {t : T} {h bb : Value} {F : Fp} {s : St} (hs : WF s) (r : BkR ro F s b a tv l) (z : BSz b) (rt : TR ro F s t h bb) (hzt : Sz t) (hlen : b.txs.length < 1000000000) (pr : Option (List Nat)) :
    ∃ a' t' l' u, callK K (.func (.func 32) #[] #[]) [vB b a tv l, vT t h bb] true pr s = some (vB { b with txs := putT b.txs t } a' t' l', u) ∧ Ex s u ∧ BkO ro s.n u { b with txs := putT b.txs t } a' t' l' := by
  obtain ⟨a', t', l', u, h1, he, o⟩ := rput_t hK hs.q (r.mo (Mo.q F s)) z (rt.mo (Mo.q F s)) hzt hlen
  obtain ⟨s'', q1, q2, q3⟩ := callq_own (pr := pr) h1 he hs
  exact ⟨a', t', l', s'', q1, q2, q3 a' (fun hc => (bk_clean hc).1) _ _ o.a, q3 t' (fun hc => (bk_clean hc).2.1) _ _ o.t, q3 l' (fun hc => (bk_clean hc).2.2) _ _ o.l⟩
end Go.Proofs.YtakdnpafdadblaaGreat.EV.W
namespace Go.Proofs.YtakdnpafdadblaaGreat.EV.W
open Go
set_option maxRecDepth 8000
set_option maxHeartbeats 1000000
variable {ro : Addr → Option Value} {K : H}
end Go.Proofs.YtakdnpafdadblaaGreat.EV.W
namespace Go.Proofs.YtakdnpafdadblaaGreat.EV.W
open Go
set_option maxRecDepth 8000
set_option maxHeartbeats 1000000
variable {ro : Addr → Option Value} {K : H}
def goneP (ac n : Int) (t : T) : Bool := decide (t.frm = ac ∧ n ≤ t.nonce)
end Go.Proofs.YtakdnpafdadblaaGreat.EV.W
namespace Go.Proofs.YtakdnpafdadblaaGreat.EV.W
open Go
set_option maxRecDepth 8000
set_option maxHeartbeats 1000000
variable {ro : Addr → Option Value} {K : H}
theorem Ow.fp {α : Type} {h : Sh α} {F F' : Fp} {s : St} {v : Value} {l : List α} (r : Ow h ro F s v l) (hF : ∀ j, F j → F' j) : Ow h ro F' s v l := r.mo (Mo.weak _ hF)
end Go.Proofs.YtakdnpafdadblaaGreat.EV.W
namespace Go.Proofs.YtakdnpafdadblaaGreat.EV.W
open Go
set_option maxRecDepth 8000
set_option maxHeartbeats 1000000
variable {ro : Addr → Option Value} {K : H}
theorem slot3_q (hK : Std ro K) {s : St} (hs : WF s) (pr : Option (List Nat)) : callK K (.func (.func 198) #[] #[]) [vI 3] true pr s = some (.tuple #[vI 1024, vI 0], s) := by
  refine Fv.q (v := .tuple #[vI 1024, vI 0]) (fun s hs => ?_) (fun _ => rfl) hs
  rw [go198 hK _ _ rfl]
  simp (disch := first | omega | assumption | exact S_wf (by assumption) _ | (simp; done) | (simp; omega)) [c198, decide_eq_true, decide_eq_false, if_pos, if_neg, wI]
theorem shelf_fv (hK : Std ro K) (n : Nat) (h : n ≤ 1008) : Fv K 211 [vI n] (.tuple #[vI (shelfN n), vI 0]) := by
  intro s hs
  rw [go211 hK _ _ rfl]
  unfold shelfN
  by_cases e0 : n ≤ 112
  · simp (disch := first | omega | assumption | exact S_wf (by assumption) _ | (simp; done) | (simp; omega)) [c211, M_lop b211_0, Mb _ _ b211_0.eq_1, decide_eq_true, decide_eq_false, if_pos, if_neg, hs, wI, e0]
  · by_cases e1 : n ≤ 240
    · simp (disch := first | omega | assumption | exact S_wf (by assumption) _ | (simp; done) | (simp; omega)) [c211, M_lop b211_0, Mb _ _ b211_0.eq_1, decide_eq_true, decide_eq_false, if_pos, if_neg, hs, wI, e0, e1]
    · by_cases e2 : n ≤ 496
      · simp (disch := first | omega | assumption | exact S_wf (by assumption) _ | (simp; done) | (simp; omega)) [c211, M_lop b211_0, Mb _ _ b211_0.eq_1, decide_eq_true, decide_eq_false, if_pos, if_neg, hs, wI, e0, e1, e2]
      · simp (disch := first | omega | assumption | exact S_wf (by assumption) _ | (simp; done) | (simp; omega)) [c211, M_lop b211_0, Mb _ _ b211_0.eq_1, decide_eq_true, decide_eq_false, if_pos, if_neg, hs, wI, e0, e1, e2, h]
theorem shelf_q (hK : Std ro K) (n : Nat) (h : n ≤ 1008) {s : St} (hs : WF s) (pr : Option (List Nat)) : callK K (.func (.func 211) #[] #[]) [vI n] true pr s = some (.tuple #[vI (shelfN n), vI 0], s) :=
  (shelf_fv hK n h).q (fun _ => rfl) hs
theorem shl128 (n : Nat) (h : n < 4) : IntKind.i64.wrap (128 * 2 ^ n) = 128 * 2 ^ n := by
  have : n = 0 ∨ n = 1 ∨ n = 2 ∨ n = 3 := by omega
  rcases this with rfl | rfl | rfl | rfl <;> rfl
def sizeA (t : T) : Value := if okT t then .tuple #[vI (bytesT t).length, vI (shelfN (bytesT t).length), vI (roomT t), vI 0] else .tuple #[vI 0, vI 0, vI 0, vI 1]
theorem sizeof_t (hK : Std ro K) (t : T) (h b : Value) (F : Fp) (s : St) (hs : WF s) (r : TR ro F s t h b) :
    ∃ s', K (.func (.func 149) #[] #[]) [vT t h b] s = some (sizeA t, s') := by
  rw [go149 hK _ _ rfl]
  have hex0 := S_ex hs [some (txC t h b)]
  have hb := fun (pr : Option (List Nat)) => bytes_q hK (hex0.wf hs) (r.mo (hex0.mo F)) pr
  unfold sizeA
  by_cases hok : okT t = true
  · rw [if_pos hok] at hb ⊢
    have hlen := bytesT_le hok
    have hm := fun (s : St) (hs : WF s) (pr : Option (List Nat)) => shelf_q hK (bytesT t).length hlen hs pr
    have hlt := shelfN_lt (bytesT t).length
    obtain ⟨x, hx⟩ : ∃ x, x = shelfN (bytesT t).length := ⟨_, rfl⟩
    have hmin : min x 64 = x := by omega
    have hr : ((roomT t : Nat) : Int) = 128 * 2 ^ x := by unfold roomT; rw [← hx]; push_cast; rfl
    have h128 := shl128 x (by omega)
    rw [hr]
    rw [← hx] at hm hlt ⊢
    simp (disch := first | omega | assumption | exact S_wf (by assumption) _ | (simp; done) | (simp; omega)) [c149, decide_eq_true, decide_eq_false, if_pos, if_neg, hs, hb, hm, hmin, h128]
  · rw [if_neg hok] at hb ⊢
    simp (disch := first | omega | assumption | exact S_wf (by assumption) _ | (simp; done) | (simp; omega)) [c149, decide_eq_true, decide_eq_false, if_pos, if_neg, hs, hb]
theorem sizeof_q (hK : Std ro K) {t : T} {h b : Value} {F : Fp} {s : St} (hs : WF s) (r : TR ro F s t h b) (pr : Option (List Nat)) : callK K (.func (.func 149) #[] #[]) [vT t h b] true pr s = some (sizeA t, s) := by
  obtain ⟨s', h1⟩ := sizeof_t hK t h b F (qs s) hs.q (r.mo (Mo.q F s))
  exact callq h1 (by unfold sizeA; split <;> rfl)
theorem phead_fv (hK : Std ro K) (h : Head) : Fv K 126 [vHd h] (.bool (headOk h)) := by
  intro s hs
  rw [go126 hK _ _ rfl]
  unfold headOk
  by_cases h1 : 0 ≤ h.number
  · by_cases h2 : h.number ≤ 1099511627776
    · rw [decide_eq_true ⟨h1, h2⟩, Bool.true_and]
      by_cases h3 : 0 ≤ h.excess
      · by_cases h4 : h.excess ≤ 1099511627776
        · simp (disch := first | omega | assumption | exact S_wf (by assumption) _ | (simp; done) | (simp; omega)) [c126, decide_eq_true, decide_eq_false, if_pos, if_neg, hs, h1, h2, h3, h4]
        · simp (disch := first | omega | assumption | exact S_wf (by assumption) _ | (simp; done) | (simp; omega)) [c126, decide_eq_true, decide_eq_false, if_pos, if_neg, hs, h1, h2, h3, h4]
      · simp (disch := first | omega | assumption | exact S_wf (by assumption) _ | (simp; done) | (simp; omega)) [c126, decide_eq_true, decide_eq_false, if_pos, if_neg, hs, h1, h2, h3]
    · rw [decide_eq_false (fun e => h2 e.2), Bool.false_and]
      simp (disch := first | omega | assumption | exact S_wf (by assumption) _ | (simp; done) | (simp; omega)) [c126, decide_eq_true, decide_eq_false, if_pos, if_neg, hs, h1, h2]
  · rw [decide_eq_false (fun e => h1 e.1), Bool.false_and]
    simp (disch := first | omega | assumption | exact S_wf (by assumption) _ | (simp; done) | (simp; omega)) [c126, decide_eq_true, decide_eq_false, if_pos, if_neg, hs, h1]
theorem proomy_fv (hK : Std ro K) (n : Int) : Fv K 124 [vI n] (.bool (roomOk n)) := by
  intro s hs
  rw [go124 hK _ _ rfl]
  have h3 := fun (s : St) (hs : WF s) (pr : Option (List Nat)) => slot3_q hK hs pr
  unfold roomOk
  by_cases e1 : 1024 ≤ n
  · by_cases e2 : n ≤ 1048576
    · simp (disch := first | omega | assumption | exact S_wf (by assumption) _ | (simp; done) | (simp; omega)) [c124, decide_eq_true, decide_eq_false, if_pos, if_neg, hs, h3, e1, e2]
    · simp (disch := first | omega | assumption | exact S_wf (by assumption) _ | (simp; done) | (simp; omega)) [c124, decide_eq_true, decide_eq_false, if_pos, if_neg, hs, h3, e1, e2]
  · simp (disch := first | omega | assumption | exact S_wf (by assumption) _ | (simp; done) | (simp; omega)) [c124, decide_eq_true, decide_eq_false, if_pos, if_neg, hs, h3, e1]
end Go.Proofs.YtakdnpafdadblaaGreat.EV.W
namespace Go.Proofs.YtakdnpafdadblaaGreat.EV.W
open Go
set_option maxRecDepth 8000
set_option maxHeartbeats 1000000
variable {ro : Addr → Option Value} {K : H}
def slotsP : List T → Nat
  | [] => 0
  | t :: l => (if okT t then roomT t else 0) + slotsP l
theorem slotsP_ok : ∀ l : List T, (∀ t ∈ l, okT t = true) → slotsP l = slotsT l
  | [], _ => rfl
  | t :: l, h => by rw [slotsP, slotsT, if_pos (h t (by simp)), slotsP_ok l (fun t ht => h t (by simp [ht]))]
theorem slots_loop (hK : Std ro K) (F : Fp) (L : List T) (hsm : ∀ x ∈ L, Sm x) (hz : L.length < 4294967296) (a : Option Addr) (c : Nat) (s1 : St) (hs1 : WF s1) (r : Sl shTx ro F s1 (.slice a L.length c) L) :
    ∀ (j i m : Nat) (u : St), i + j = L.length → m ≤ i * 1024 → Ex s1 u → ∃ u', Ex s1 u' ∧ ∀ k : List Fm, M ro K (.lop b114_0) (.bk 0 :: k) [(3, vI m), (10, .slice a L.length c), (11, vI L.length), (12, vI i)] u =
      Rk ro K .nrm k [(3, vI (m + slotsP (L.drop i) : Nat)), (10, .slice a L.length c), (11, vI L.length), (12, vI L.length), (13, .bool false)] u' := by
  intro j
  induction j with
  | zero =>
    intro i m u h hm he
    have : i = L.length := by omega
    subst this
    refine ⟨u, he, fun k => ?_⟩
    rw [M_lop, List.drop_of_length_le (Nat.le_refl _)]
    simp (disch := first | omega | assumption | exact S_wf (by assumption) _ | (simp; done) | (simp; omega)) [Mb _ _ b114_0.eq_1, slotsP]
  | succ j ih =>
    intro i m u h hm he
    have hu := he.wf hs1
    obtain ⟨b, hv, bv, hb, hrd, hT⟩ := (r.mo (he.mo F)).atT hsm i (by omega)
    subst hb
    have hx := S_ex hu [some (txC L[i] hv bv)]
    have hc := fun (pr : Option (List Nat)) => sizeof_q hK (hx.wf hu) (hT.mo (hx.mo F)) pr
    have hle := roomT_le L[i]
    rw [List.drop_eq_getElem_cons (show i < L.length by omega), slotsP]
    unfold sizeA at hc
    obtain ⟨w, hw⟩ : ∃ w, w = roomT L[i] := ⟨_, rfl⟩
    rw [← hw] at hc hle ⊢
    by_cases hok : okT L[i] = true
    · rw [if_pos hok] at hc ⊢
      obtain ⟨u', e1, e2⟩ := ih (i + 1) (m + w) _ (by omega) (by omega) (he.trans hx)
      refine ⟨u', e1, fun k => ?_⟩
      rw [show m + (w + slotsP (List.drop (i + 1) L)) = m + w + slotsP (List.drop (i + 1) L) by omega, ← e2 k, M_lop]
      simp (disch := first | omega | assumption | exact S_wf (by assumption) _ | (simp; done) | (simp; omega)) [Mb _ _ b114_0.eq_1, decide_eq_true, decide_eq_false, if_pos, if_neg, hrd, hc, wI, hu]
    · rw [if_neg hok] at hc ⊢
      obtain ⟨u', e1, e2⟩ := ih (i + 1) m _ (by omega) (by omega) (he.trans hx)
      refine ⟨u', e1, fun k => ?_⟩
      rw [Nat.zero_add, ← e2 k, M_lop]
      simp (disch := first | omega | assumption | exact S_wf (by assumption) _ | (simp; done) | (simp; omega)) [Mb _ _ b114_0.eq_1, decide_eq_true, decide_eq_false, if_pos, if_neg, hrd, hc, wI, hu]
theorem slots_q (hK : Std ro K) {L : List T} {v : Value} {F : Fp} {s : St} (hs : WF s) (r : Sl shTx ro F s v L) (hsm : ∀ x ∈ L, Sm x) (hz : L.length < 4294967296) (pr : Option (List Nat)) : callK K (.func (.func 114) #[] #[]) [v] true pr s = some (vI (slotsP L), s) := by
  obtain ⟨a, c, rfl⟩ := r.len
  have h1 : ∃ s', K (.func (.func 114) #[] #[]) [.slice a L.length c] (qs s) = some (vI (slotsP L), s') := by
    obtain ⟨u', e1, hl⟩ := slots_loop hK F L hsm hz a c (qs s) hs.q (r.mo (Mo.q F s)) L.length 0 0 _ (by omega) (by omega) (Ex.refl hs.q)
    simp only [show ((0 : Nat) : Int) = 0 from rfl, List.drop_zero, Nat.zero_add] at hl
    rw [go114 hK _ _ rfl]
    simp (disch := first | omega | assumption | exact S_wf (by assumption) _ | (simp; done) | (simp; omega)) [c114, decide_eq_true, decide_eq_false, if_pos, if_neg, hl]
  obtain ⟨s', h1⟩ := h1
  exact callq h1 rfl
def idP (t : T) : UInt64 := if okT t then idT t else 0
theorem ids_loop (hK : Std ro K) (F : Fp) (A : List T) (hsm : ∀ x ∈ A, Sm x) (hz : A.length < 4294967296) (a : Option Addr) (c : Nat) (s1 : St) (hs1 : WF s1) (r1 : Sl shTx ro F s1 (.slice a A.length c) A) :
    ∀ (j i : Nat) (u : St) (v : Value), Ex s1 u → i + j = A.length → Ow sh64 ro (Fresh s1.n) u v ((A.take i).map idP) →
    ∃ u' v', Ex s1 u' ∧ Ow sh64 ro (Fresh s1.n) u' v' (A.map idP) ∧ ∀ k : List Fm, M ro K (.lop b137_0) (.bk 0 :: k) [(3, v), (8, .slice a A.length c), (9, vI A.length), (10, vI i)] u =
      Rk ro K .nrm k [(3, v'), (8, .slice a A.length c), (9, vI A.length), (10, vI A.length), (11, .bool false)] u' := by
  intro j
  induction j with
  | zero =>
    intro i u v he h ho
    have : i = A.length := by omega
    subst this
    rw [List.take_of_length_le (Nat.le_refl _)] at ho
    refine ⟨u, v, he, ho, fun k => ?_⟩
    rw [M_lop]
    simp (disch := first | omega | assumption | exact S_wf (by assumption) _ | (simp; done) | (simp; omega)) [Mb _ _ b137_0.eq_1]
  | succ j ih =>
    intro i u v he h ho
    have hu := he.wf hs1
    obtain ⟨b1, hv, bv, hb1, q1, hT⟩ := (r1.mo (he.mo F)).atT hsm i (by omega)
    subst hb1
    obtain ⟨x, hxd⟩ : ∃ x, x = idP A[i] := ⟨_, rfl⟩
    have hx := S_ex hu [some (txC A[i] hv bv)]
    have hx2 := S_ex hu [some (txC A[i] hv bv), some [v64 x]]
    have hc0 := fun (pr : Option (List Nat)) => id_q hK (hx.wf hu) (hT.mo (hx.mo F)) pr
    obtain ⟨e, hc⟩ : ∃ e : Int, ∀ pr, callK K (.func (.func 89) #[] #[]) [vT A[i] hv bv] true pr (S u [some (txC A[i] hv bv)]) = some (.tuple #[v64 x, vI e], S u [some (txC A[i] hv bv)]) := by
      unfold idP at hxd
      by_cases hok : okT A[i] = true
      · rw [if_pos hok] at hxd; refine ⟨0, fun pr => ?_⟩; rw [hc0, if_pos hok, hxd]
      · rw [if_neg hok] at hxd; refine ⟨1, fun pr => ?_⟩; rw [hc0, if_neg hok, hxd]
    obtain ⟨a2, c2, v', s', rfl, ha, he', ho'⟩ := Ow.appendN (new := [v64 x]) (l' := [x]) hs1 he ho hx2 (.single rfl) (by simp) (by simp; omega) (by decide)
    have ht : (A.take (i + 1)).map idP = (List.take i A).map idP ++ [x] := by rw [List.take_succ_eq_append_getElem (by omega), List.map_append, hxd]; rfl
    obtain ⟨u', w, f1, f2, f3⟩ := ih (i + 1) s' v' he' (by omega) (by rw [ht]; exact ho')
    refine ⟨u', w, f1, f2, fun k => ?_⟩
    have hs' := he'.wf hs1
    obtain ⟨cw, pw⟩ := ho'.cells
    rw [← f3 k, M_lop]
    have htl : ((List.take i A).map idP).length = i := by simp; omega
    simp only [htl, List.length_cons, List.length_nil, Nat.zero_add, sh64, sh1] at ha
    simp only [htl]
    simp (disch := first | omega | assumption | exact S_wf (by assumption) _ | (simp; done) | (simp; omega)) [Mb _ _ b137_0.eq_1, decide_eq_true, decide_eq_false, if_pos, if_neg, q1, hc, wI, hu, rdSl, rep, ha, hs', cw, pw]
theorem ids_q (hK : Std ro K) {A : List T} {v : Value} {F : Fp} {s : St} (hs : WF s) (r1 : Sl shTx ro F s v A) (hsm : ∀ t ∈ A, Sm t) (hz : A.length < 4294967296) (pr : Option (List Nat)) : ∃ v' s', callK K (.func (.func 137) #[] #[]) [v] true pr s = some (v', s') ∧ Ex s s' ∧ Ow sh64 ro (Fresh s.n) s' v' (A.map idP) := by
  obtain ⟨a, c, rfl⟩ := r1.len
  obtain ⟨u', v', f1, f2, f3⟩ := ids_loop hK F A hsm hz a c (qs s) hs.q (r1.mo (Mo.q F s)) A.length 0 (qs s) (.slice none 0 0) (Ex.refl hs.q) (by omega) Ow.nil
  simp only [show ((0 : Nat) : Int) = 0 from rfl] at f3
  have h1 : K (.func (.func 137) #[] #[]) [.slice a A.length c] (qs s) = some (v', u') := by
    rw [go137 hK _ _ rfl]
    simp (disch := first | omega | assumption | exact S_wf (by assumption) _ | (simp; done) | (simp; omega)) [c137, decide_eq_true, decide_eq_false, if_pos, if_neg, f3]
  obtain ⟨s'', g1, g2, g3⟩ := callq_own (pr := pr) h1 f1 hs
  refine ⟨v', s'', g1, g2, g3 v' (fun hc => ?_) _ _ f2⟩
  obtain ⟨a', c', rfl⟩ := f2.len
  exact hc
end Go.Proofs.YtakdnpafdadblaaGreat.EV.W
namespace Go.Proofs.YtakdnpafdadblaaGreat.EV.W
open Go
set_option maxRecDepth 8000
set_option maxHeartbeats 1000000
variable {ro : Addr → Option Value} {K : H}
theorem limbo_loop (hK : Std ro K) (F : Fp) (L : List Held) (hsm : ∀ x ∈ L, Sm x.tx) (hz : L.length < 4294967296) (a : Option Addr) (c : Nat) (s1 : St) (hs1 : WF s1) (r : Sl shHeld ro F s1 (.slice a L.length c) L) :
    ∀ (j i : Nat) (h : i + j = L.length) (q : Option T) (last : UInt64) (u : St), Ex s1 u → (0 < i → ∃ p, q = some p ∧ last = idT p) → (i = 0 → q = none) → ∃ u', Ex s1 u' ∧
      if limboGo q (L.drop i) then ∃ z : UInt64, ∀ k : List Fm, M ro K (.lop b199_0) (.bk 0 :: k) [(3, v64 last), (11, .slice a L.length c), (12, vI L.length), (13, vI i)] u = Rk ro K .nrm k [(3, v64 z), (11, .slice a L.length c), (12, vI L.length), (13, vI L.length), (14, .bool false)] u'
      else ∀ k : List Fm, M ro K (.lop b199_0) (.bk 0 :: k) [(3, v64 last), (11, .slice a L.length c), (12, vI L.length), (13, vI i)] u = Rk ro K .ret k [(2, .bool false)] u' := by
  intro j
  induction j with
  | zero =>
    intro i h q last u he hq hq0
    have : i = L.length := by omega
    subst this
    refine ⟨u, he, ?_⟩
    rw [List.drop_of_length_le (Nat.le_refl _), if_pos (by cases q <;> rfl)]
    refine ⟨last, fun k => ?_⟩
    rw [M_lop]
    simp (disch := first | omega | assumption | exact S_wf (by assumption) _ | (simp; done) | (simp; omega)) [Mb _ _ b199_0.eq_1]
  | succ j ih =>
    intro i h q last u he hq hq0
    have hu := he.wf hs1
    obtain ⟨b, hv, bv, hb, hrd, hT⟩ := (r.mo (he.mo F)).atH hsm i (by omega)
    subst hb
    have q1 := hrd.rd 22 (by simp)
    simp only [txC, List.cons_append, List.nil_append, List.take_succ_cons, List.take_zero, List.drop_succ_cons, List.drop_zero, shift_shift] at q1
    have hx := S_ex hu [some (hdC L[i] hv bv)]
    have hid := fun (pr : Option (List Nat)) => id_q hK (hx.wf hu) (hT.mo (hx.mo F)) pr
    simp only [hdC, txC, List.cons_append, List.nil_append] at hx hid
    rw [List.drop_eq_getElem_cons (show i < L.length by omega)]
    obtain ⟨x, hxd⟩ : ∃ x, x = idT L[i].tx := ⟨_, rfl⟩
    rw [← hxd] at hid
    have hverd : limboGo q (L[i] :: List.drop (i + 1) L) = ((heldOk L[i] && (decide (i = 0) || decide (last < x))) && limboGo (some L[i].tx) (List.drop (i + 1) L)) := by
      by_cases hi : i = 0
      · rw [hq0 hi, limboGo, decide_eq_true hi, Bool.true_or, Bool.and_true]
        cases heldOk L[i] <;> simp
      · obtain ⟨p, hp1, hp2⟩ := hq (by omega)
        rw [hp1, limboGo, decide_eq_false hi, Bool.false_or, hp2, hxd]
        cases heldOk L[i] && decide (idT p < idT L[i].tx) <;> simp
    rw [hverd]
    have hne : ∀ k : List Fm, (heldOk L[i] && (decide (i = 0) || decide (last < x))) = false → M ro K (.lop b199_0) (.bk 0 :: k) [(3, v64 last), (11, .slice (some b) L.length c), (12, vI L.length), (13, vI i)] u = Rk ro K .ret k [(2, .bool false)] (S u [some (hdC L[i] hv bv)]) := by
      intro k hf
      rw [M_lop]
      unfold heldOk at hf
      by_cases hok : okT L[i].tx = true
      · rw [if_pos hok] at hid
        rw [hok, Bool.true_and] at hf
        by_cases hi : 0 < i
        · have hi0 : ¬ i = 0 := by omega
          by_cases hlt : x ≤ last
          · simp (disch := first | omega | assumption | exact S_wf (by assumption) _ | (simp; done) | (simp; omega)) [Mb _ _ b199_0.eq_1, decide_eq_true, decide_eq_false, if_pos, if_neg, q1, hid, wI, hu, hlt]
          · by_cases h1 : L[i].block < 0
            · simp (disch := first | omega | assumption | exact S_wf (by assumption) _ | (simp; done) | (simp; omega)) [Mb _ _ b199_0.eq_1, decide_eq_true, decide_eq_false, if_pos, if_neg, q1, hid, wI, hu, hlt, h1]
            · by_cases h2 : 1099511627776 < L[i].block
              · simp (disch := first | omega | assumption | exact S_wf (by assumption) _ | (simp; done) | (simp; omega)) [Mb _ _ b199_0.eq_1, decide_eq_true, decide_eq_false, if_pos, if_neg, q1, hid, wI, hu, hlt, h1, h2]
              · exfalso
                rw [decide_eq_true (by omega), decide_eq_false hi0, decide_eq_true (by rw [UInt64.lt_iff_toNat_lt]; rw [UInt64.le_iff_toNat_le] at hlt; omega)] at hf
                cases hf
        · have hi0 : i = 0 := by omega
          subst hi0
          by_cases h1 : L[0].block < 0
          · simp (disch := first | omega | assumption | exact S_wf (by assumption) _ | (simp; done) | (simp; omega)) [Mb _ _ b199_0.eq_1, decide_eq_true, decide_eq_false, if_pos, if_neg, q1, hid, wI, hu, h1]
          · by_cases h2 : 1099511627776 < L[0].block
            · simp (disch := first | omega | assumption | exact S_wf (by assumption) _ | (simp; done) | (simp; omega)) [Mb _ _ b199_0.eq_1, decide_eq_true, decide_eq_false, if_pos, if_neg, q1, hid, wI, hu, h1, h2]
            · exfalso
              rw [decide_eq_true (by omega), decide_eq_true rfl] at hf
              cases hf
      · rw [if_neg hok] at hid
        simp (disch := first | omega | assumption | exact S_wf (by assumption) _ | (simp; done) | (simp; omega)) [Mb _ _ b199_0.eq_1, decide_eq_true, decide_eq_false, if_pos, if_neg, q1, hid, wI, hu]
    cases hf : heldOk L[i] && (decide (i = 0) || decide (last < x)) with
    | false =>
      rw [Bool.false_and]
      refine ⟨_, he.trans hx, ?_⟩
      rw [if_neg Bool.false_ne_true]
      exact fun k => hne k hf
    | true =>
      rw [Bool.true_and]
      obtain ⟨u', e1, e2⟩ := ih (i + 1) (by omega) (some L[i].tx) x (S u [some (hdC L[i] hv bv)]) (he.trans hx) (fun _ => ⟨_, rfl, hxd⟩) (fun hh => by omega)
      have hstep : ∀ k : List Fm, M ro K (.lop b199_0) (.bk 0 :: k) [(3, v64 last), (11, .slice (some b) L.length c), (12, vI L.length), (13, vI i)] u = M ro K (.lop b199_0) (.bk 0 :: k) [(3, v64 x), (11, .slice (some b) L.length c), (12, vI L.length), (13, vI (i + 1 : Nat))] (S u [some (hdC L[i] hv bv)]) := by
        intro k
        rw [Bool.and_eq_true] at hf
        obtain ⟨hf1, hf2⟩ := hf
        unfold heldOk at hf1
        rw [Bool.and_eq_true, decide_eq_true_eq] at hf1
        obtain ⟨hok, hb1, hb2⟩ := hf1
        rw [if_pos hok] at hid
        have hn1 : ¬ L[i].block < 0 := by omega
        have hn2 : ¬ 1099511627776 < L[i].block := by omega
        rw [M_lop]
        by_cases hi : 0 < i
        · have hi0 : ¬ i = 0 := by omega
          rw [decide_eq_false hi0, Bool.false_or, decide_eq_true_eq] at hf2
          have hlt : ¬ x ≤ last := by rw [UInt64.le_iff_toNat_le]; rw [UInt64.lt_iff_toNat_lt] at hf2; omega
          simp (disch := first | omega | assumption | exact S_wf (by assumption) _ | (simp; done) | (simp; omega)) [Mb _ _ b199_0.eq_1, decide_eq_true, decide_eq_false, if_pos, if_neg, q1, hid, wI, hu, hlt]
        · have hi0 : i = 0 := by omega
          subst hi0
          simp (disch := first | omega | assumption | exact S_wf (by assumption) _ | (simp; done) | (simp; omega)) [Mb _ _ b199_0.eq_1, decide_eq_true, decide_eq_false, if_pos, if_neg, q1, hid, wI, hu]
      refine ⟨u', e1, ?_⟩
      cases hg : limboGo (some L[i].tx) (List.drop (i + 1) L) with
      | true =>
        rw [hg, if_pos rfl] at e2
        obtain ⟨z, e2⟩ := e2
        rw [if_pos rfl]
        exact ⟨z, fun k => (hstep k).trans (e2 k)⟩
      | false =>
        rw [hg, if_neg Bool.false_ne_true] at e2
        rw [if_neg Bool.false_ne_true]
        exact fun k => (hstep k).trans (e2 k)
theorem limbo_q (hK : Std ro K) {L : List Held} {v : Value} {F : Fp} {s : St} (hs : WF s) (r : Sl shHeld ro F s v L) (hsm : ∀ x ∈ L, Sm x.tx) (hz : L.length < 4294967296) (pr : Option (List Nat)) : callK K (.func (.func 199) #[] #[]) [v] true pr s = some (.bool (limboOk L), s) := by
  obtain ⟨a, c, rfl⟩ := r.len
  have h1 : ∃ s', K (.func (.func 199) #[] #[]) [.slice a L.length c] (qs s) = some (.bool (limboOk L), s') := by
    obtain ⟨u', e1, hl⟩ := limbo_loop hK F L hsm hz a c (qs s) hs.q (r.mo (Mo.q F s)) L.length 0 (by omega) none 0 _ (Ex.refl hs.q) (fun h => absurd h (by omega)) (fun _ => rfl)
    simp only [show ((0 : Nat) : Int) = 0 from rfl, List.drop_zero] at hl
    rw [go199 hK _ _ rfl]
    unfold limboOk
    by_cases h48 : L.length ≤ 48
    · rw [decide_eq_true h48, Bool.and_true]
      cases hx : limboGo none L with
      | true =>
        rw [hx, if_pos rfl] at hl
        obtain ⟨z, hl⟩ := hl
        simp (disch := first | omega | assumption | exact S_wf (by assumption) _ | (simp; done) | (simp; omega)) [c199, decide_eq_true, decide_eq_false, if_pos, if_neg, hl, h48]
      | false =>
        rw [hx, if_neg Bool.false_ne_true] at hl
        simp (disch := first | omega | assumption | exact S_wf (by assumption) _ | (simp; done) | (simp; omega)) [c199, decide_eq_true, decide_eq_false, if_pos, if_neg, hl, h48]
    · rw [decide_eq_false h48, Bool.and_false]
      simp (disch := first | omega | assumption | exact S_wf (by assumption) _ | (simp; done) | (simp; omega)) [c199, decide_eq_true, decide_eq_false, if_pos, if_neg, h48]
  obtain ⟨s', h1⟩ := h1
  exact callq h1 rfl
end Go.Proofs.YtakdnpafdadblaaGreat.EV.W
namespace Go.Proofs.YtakdnpafdadblaaGreat.EV.W
open Go
set_option maxRecDepth 8000
set_option maxHeartbeats 1000000
variable {ro : Addr → Option Value} {K : H}
theorem acct1_t (hK : Std ro K) (n : Int) (a b c d : UInt64) (s : St) (hs : WF s) : K (.func (.func 205) #[] #[]) [.agg #[vI n, v64 a, v64 b, v64 c, v64 d]] s = some (.bool (!decide (0 ≤ n ∧ n ≤ 1099511627776)), S s [some [vI n, v64 a, v64 b, v64 c, v64 d]]) := by
  rw [go205 hK _ _ rfl]
  by_cases h1 : n < 0
  · rw [decide_eq_false (by omega)]
    simp (disch := first | omega | assumption | exact S_wf (by assumption) _ | (simp; done) | (simp; omega)) [c205, decide_eq_true, decide_eq_false, if_pos, if_neg, hs, h1]
  · by_cases h2 : 1099511627776 < n
    · rw [decide_eq_false (by omega)]
      simp (disch := first | omega | assumption | exact S_wf (by assumption) _ | (simp; done) | (simp; omega)) [c205, decide_eq_true, decide_eq_false, if_pos, if_neg, hs, h1, h2]
    · rw [decide_eq_true (by omega)]
      simp (disch := first | omega | assumption | exact S_wf (by assumption) _ | (simp; done) | (simp; omega)) [c205, decide_eq_true, decide_eq_false, if_pos, if_neg, hs, h1, h2]
theorem acctsix_loop (hK : Std ro K) (F : Fp) (L : List Acct) (hz : L.length < 4294967296) (a : Option Addr) (c : Nat) (s1 : St) (hs1 : WF s1) (r : Sl shAcct ro F s1 (.slice a L.length c) L) :
    ∀ (j i : Nat) (u : St), i + j = L.length → Ex s1 u → ∃ u', Ex s1 u' ∧ if (L.drop i).all acctOk then ∀ k : List Fm, M ro K (.lop b247_0) (.bk 0 :: k) [(0, .slice a L.length c), (1, .func (.func 205) #[] #[]), (7, vI L.length), (8, vI i)] u = Rk ro K .nrm k [(0, .slice a L.length c), (1, .func (.func 205) #[] #[]), (7, vI L.length), (8, vI L.length), (9, .bool false)] u'
      else ∃ x : Nat, ∀ k : List Fm, M ro K (.lop b247_0) (.bk 0 :: k) [(0, .slice a L.length c), (1, .func (.func 205) #[] #[]), (7, vI L.length), (8, vI i)] u = Rk ro K .ret k [(4, vI x)] u' := by
  intro j
  induction j with
  | zero =>
    intro i u h he
    have : i = L.length := by omega
    subst this
    refine ⟨u, he, ?_⟩
    rw [List.drop_of_length_le (Nat.le_refl _), if_pos (by rfl)]
    intro k
    rw [M_lop]
    simp (disch := first | omega | assumption | exact S_wf (by assumption) _ | (simp; done) | (simp; omega)) [Mb _ _ b247_0.eq_1]
  | succ j ih =>
    intro i u h he
    have hu := he.wf hs1
    obtain ⟨b, hb, hrd⟩ := (r.mo (he.mo F)).atA i (by omega)
    subst hb
    have q1 := hrd.rd 5 (by simp)
    simp at q1
    have hc := acct1_t hK L[i].nonce L[i].bal.a L[i].bal.b L[i].bal.c L[i].bal.d u hu
    have hx := S_ex hu [some [vI L[i].nonce, v64 L[i].bal.a, v64 L[i].bal.b, v64 L[i].bal.c, v64 L[i].bal.d]]
    rw [List.drop_eq_getElem_cons (show i < L.length by omega), List.all_cons]
    unfold acctOk at *
    cases hd : decide (0 ≤ L[i].nonce ∧ L[i].nonce ≤ 1099511627776) with
    | true =>
      rw [hd] at hc
      obtain ⟨u', e1, e2⟩ := ih (i + 1) _ (by omega) (he.trans hx)
      refine ⟨u', e1, ?_⟩
      rw [Bool.true_and]
      have hstep : ∀ k : List Fm, M ro K (.lop b247_0) (.bk 0 :: k) [(0, .slice (some b) L.length c), (1, .func (.func 205) #[] #[]), (7, vI L.length), (8, vI i)] u = M ro K (.lop b247_0) (.bk 0 :: k) [(0, .slice (some b) L.length c), (1, .func (.func 205) #[] #[]), (7, vI L.length), (8, vI (i + 1 : Nat))] (S u [some [vI L[i].nonce, v64 L[i].bal.a, v64 L[i].bal.b, v64 L[i].bal.c, v64 L[i].bal.d]]) := by
        intro k
        rw [M_lop]
        simp (disch := first | omega | assumption | exact S_wf (by assumption) _ | (simp; done) | (simp; omega)) [Mb _ _ b247_0.eq_1, decide_eq_true, decide_eq_false, if_pos, if_neg, q1, callK_f, hc, wI, hu]
      split at e2
      · rename_i hg
        rw [if_pos hg]
        exact fun k => (hstep k).trans (e2 k)
      · rename_i hg
        rw [if_neg hg]
        obtain ⟨x, e2⟩ := e2
        exact ⟨x, fun k => (hstep k).trans (e2 k)⟩
    | false =>
      rw [hd] at hc
      rw [Bool.false_and]
      refine ⟨_, he.trans hx, ?_⟩
      rw [if_neg Bool.false_ne_true]
      refine ⟨i, fun k => ?_⟩
      rw [M_lop]
      simp (disch := first | omega | assumption | exact S_wf (by assumption) _ | (simp; done) | (simp; omega)) [Mb _ _ b247_0.eq_1, decide_eq_true, decide_eq_false, if_pos, if_neg, q1, callK_f, hc, wI, hu]
theorem acctsix_q (hK : Std ro K) {L : List Acct} {v : Value} {F : Fp} {s : St} (hs : WF s) (r : Sl shAcct ro F s v L) (hz : L.length < 4294967296) (pr : Option (List Nat)) : ∃ x : Int, (x < 0 ↔ L.all acctOk = true) ∧ callK K (.func (.func 247) #[] #[]) [v, .func (.func 205) #[] #[]] true pr s = some (vI x, s) := by
  obtain ⟨a, c, rfl⟩ := r.len
  suffices hh : ∃ x : Int, (x < 0 ↔ L.all acctOk = true) ∧ ∃ s', K (.func (.func 247) #[] #[]) [.slice a L.length c, .func (.func 205) #[] #[]] (qs s) = some (vI x, s') from by
    obtain ⟨x, h1, s', h2⟩ := hh
    exact ⟨x, h1, callq h2 rfl⟩
  obtain ⟨u', e1, hl⟩ := acctsix_loop hK F L hz a c (qs s) hs.q (r.mo (Mo.q F s)) L.length 0 _ (by omega) (Ex.refl hs.q)
  simp only [show ((0 : Nat) : Int) = 0 from rfl, List.drop_zero] at hl
  rw [go247 hK _ _ rfl]
  split at hl
  · rename_i hg
    refine ⟨-1, by simp [hg], ?_⟩
    simp (disch := first | omega | assumption | exact S_wf (by assumption) _ | (simp; done) | (simp; omega)) [c247, decide_eq_true, decide_eq_false, if_pos, if_neg, hl]
  · rename_i hg
    obtain ⟨x, hl⟩ := hl
    refine ⟨x, ⟨fun h => by omega, fun h => absurd h hg⟩, ?_⟩
    simp (disch := first | omega | assumption | exact S_wf (by assumption) _ | (simp; done) | (simp; omega)) [c247, decide_eq_true, decide_eq_false, if_pos, if_neg, hl]
theorem accts_q (hK : Std ro K) {L : List Acct} {v : Value} {F : Fp} {s : St} (hs : WF s) (r : Sl shAcct ro F s v L) (hz : L.length < 4294967296) (pr : Option (List Nat)) : callK K (.func (.func 127) #[] #[]) [v] true pr s = some (.bool (acctsOk L), s) := by
  have h204 : ∀ (s : St), WF s → Sl shAcct ro F s v L → ∀ pr, callK K (.func (.func 204) #[] #[]) [v, .func (.func 205) #[] #[]] true pr s = some (.bool (!L.all acctOk), s) := by
    intro s hs r pr
    obtain ⟨x, h1, h2⟩ := acctsix_q hK hs.q (r.mo (Mo.q F s)) hz (some [])
    have h3 : ∃ s', K (.func (.func 204) #[] #[]) [v, .func (.func 205) #[] #[]] (qs s) = some (.bool (!L.all acctOk), s') := by
      rw [go204 hK _ _ rfl]
      cases hg : L.all acctOk with
      | true =>
        have : ¬ 0 ≤ x := by have := h1.2 hg; omega
        simp (disch := first | omega | assumption | exact S_wf (by assumption) _ | (simp; done) | (simp; omega)) [c204, decide_eq_true, decide_eq_false, if_pos, if_neg, h2]
      | false =>
        have : 0 ≤ x := by
          have : ¬ x < 0 := fun hh => by rw [h1.1 hh] at hg; cases hg
          omega
        simp (disch := first | omega | assumption | exact S_wf (by assumption) _ | (simp; done) | (simp; omega)) [c204, decide_eq_true, decide_eq_false, if_pos, if_neg, h2]
    obtain ⟨s', h3⟩ := h3
    exact callq h3 rfl
  have h5 := h204 _ hs.q (r.mo (Mo.q F s))
  obtain ⟨a, c, rfl⟩ := r.len
  have h1 : ∃ s', K (.func (.func 127) #[] #[]) [.slice a L.length c] (qs s) = some (.bool (acctsOk L), s') := by
    rw [go127 hK _ _ rfl]
    unfold acctsOk
    by_cases h8 : L.length = 8
    · rw [h8] at h5 ⊢
      rw [decide_eq_true rfl, Bool.and_true]
      cases hg : L.all acctOk with
      | true => rw [hg] at h5; simp (disch := first | omega | assumption | exact S_wf (by assumption) _ | (simp; done) | (simp; omega)) [c127, decide_eq_true, decide_eq_false, if_pos, if_neg, h5]
      | false => rw [hg] at h5; simp (disch := first | omega | assumption | exact S_wf (by assumption) _ | (simp; done) | (simp; omega)) [c127, decide_eq_true, decide_eq_false, if_pos, if_neg, h5]
    · have hI : ¬ ((L.length : Int) = 8) := by omega
      rw [decide_eq_false h8, Bool.and_false]
      simp (disch := first | omega | assumption | exact S_wf (by assumption) _ | (simp; done) | (simp; omega)) [c127, decide_eq_true, decide_eq_false, if_pos, if_neg, hI, h8]
  obtain ⟨s', h1⟩ := h1
  exact callq h1 rfl
end Go.Proofs.YtakdnpafdadblaaGreat.EV.W
namespace Go.Proofs.YtakdnpafdadblaaGreat.EV.W
open Go
set_option maxRecDepth 8000
set_option maxHeartbeats 1000000
variable {ro : Addr → Option Value} {K : H}
def spC : U → Option (Int × Int) → List T → Option U
  | x, _, [] => some x
  | x, none, t :: l => if okT t = true then (if x.val + ((costT t).getD U0).val < 2 ^ 256 then spC (U.of (x.val + ((costT t).getD U0).val)) (some (t.frm, t.nonce)) l else none) else none
  | x, some (f, n), t :: l => if okT t = true ∧ t.frm = f ∧ t.nonce = n + 1 then (if x.val + ((costT t).getD U0).val < 2 ^ 256 then spC (U.of (x.val + ((costT t).getD U0).val)) (some (f, t.nonce)) l else none) else none
theorem spC_some (f : Int) : ∀ (l : List T) (x : U) (n : Int), spC x (some (f, n)) l = if l.all okT = true ∧ linkT f n l = true then spentG x l else none
  | [], x, n => by simp [spC, spentG, linkT]
  | t :: l, x, n => by
    rw [spC, spentG, linkT, List.all_cons]
    by_cases h1 : okT t = true
    · by_cases h2 : t.frm = f ∧ t.nonce = n + 1
      · rw [if_pos ⟨h1, h2⟩, if_pos h2, h1, Bool.true_and]
        split
        · rw [spC_some f l]
        · split <;> rfl
      · rw [if_neg (fun e => h2 e.2), if_neg h2, if_neg (fun e => Bool.false_ne_true e.2)]
    · rw [if_neg (fun e => h1 e.1), if_neg]
      rw [Bool.not_eq_true] at h1
      rw [h1, Bool.false_and]
      exact fun e => Bool.false_ne_true e.1
theorem spC_chain (L : List T) (h : L.length ≤ 6) : spC U0 none L = if chainOk L = true then spentG U0 L else none := by
  cases L with
  | nil => rfl
  | cons t l =>
    simp only [List.length_cons] at h
    rw [spC, chainOk, decide_eq_true (by omega), Bool.true_and, List.all_cons]
    by_cases h1 : okT t = true
    · rw [if_pos h1, h1, Bool.true_and]
      cases h2 : spentG U0 (t :: l) with
      | none =>
        rw [spentG] at h2
        split at h2
        · rename_i hh
          rw [if_pos hh, spC_some, h2]
          split <;> split <;> rfl
        · rename_i hh
          rw [if_neg hh]
          split <;> rfl
      | some y =>
        have h3 := h2
        rw [spentG] at h2
        split at h2
        · rename_i hh
          rw [if_pos hh, spC_some, h2]
          cases l.all okT <;> cases linkT t.frm t.nonce l <;> simp
        · cases h2
    · rw [Bool.not_eq_true] at h1
      rw [h1]
      simp
def prv (L : List T) (i : Nat) : Option (Int × Int) := match i, L with
  | 0, _ => none
  | _, [] => none
  | i + 1, t :: l => some (t.frm, ((t :: l)[i]?.getD t).nonce)
theorem prv_succ (L : List T) (i : Nat) (hi : i < L.length) : prv L (i + 1) = some ((L[0]'(by omega)).frm, L[i].nonce) := by
  cases L with
  | nil => simp at hi
  | cons t l => simp only [prv, List.getElem?_eq_getElem hi, Option.getD_some, List.getElem_cons_zero]
theorem put_put (s : St) (k : Nat) (x y : Option (List Value)) : (s.put k x).put k y = s.put k y := by
  unfold St.put
  simp [List.set_set]
theorem spent_loop (hK : Std ro K) (F : Fp) (L : List T) (hsm : ∀ x ∈ L, Sm x) (hz : L.length < 4294967296) (a : Option Addr) (c : Nat) (k2 : Nat) (s1 : St) (hs1 : WF s1) (hF : ∀ j, F j → j ≠ k2) (r : Sl shTx ro F s1 (.slice a L.length c) L) (hm2 : s1.may k2 = true) :
    ∀ (j i : Nat) (u : St) (x : U), Exd (· = k2) s1 u → u.get k2 = some (cU x) → i + j = L.length → (∀ q, q < i → ∀ h : q < L.length, okT L[q] = true) →
    ∃ u', Exd (· = k2) s1 u' ∧ match spC x (prv L i) (L.drop i) with
    | some y => u'.get k2 = some (cU y) ∧ ∀ k : List Fm, M ro K (.lop b235_0) (.bk 0 :: k) [(0, .slice a L.length c), (2, .pointer (some (EV.own k2 0))), (12, .slice a L.length c), (13, vI L.length), (14, vI i)] u = Rk ro K .nrm k [(0, .slice a L.length c), (2, .pointer (some (EV.own k2 0))), (12, .slice a L.length c), (13, vI L.length), (14, vI L.length), (15, .bool false)] u'
    | none => u'.get k2 = some (cU U0) ∧ ∀ k : List Fm, M ro K (.lop b235_0) (.bk 0 :: k) [(0, .slice a L.length c), (2, .pointer (some (EV.own k2 0))), (12, .slice a L.length c), (13, vI L.length), (14, vI i)] u = Rk ro K .ret k [(2, .pointer (some (EV.own k2 0))), (3, .bool false)] u' := by
  intro j
  induction j with
  | zero =>
    intro i u x he hg h hp
    have : i = L.length := by omega
    subst this
    rw [List.drop_of_length_le (Nat.le_refl _)]
    have : spC x (prv L L.length) [] = some x := by cases prv L L.length <;> rfl
    rw [this]
    refine ⟨u, he, hg, fun k => ?_⟩
    rw [M_lop]
    simp (disch := first | omega | assumption | exact S_wf (by assumption) _ | (simp; done) | (simp; omega)) [Mb _ _ b235_0.eq_1]
  | succ j ih =>
    intro i u x he hg h hp
    have hu := he.wf hs1
    have hlt := St.get_lt hg
    have ru := r.mo (he.mo fun j hj => hF j hj)
    obtain ⟨b, hv, bv, rfl, hrd, hT⟩ := ru.atT hsm i (by omega)
    have hx1 := S_ex hu [some (txC L[i] hv bv)]
    have hc := fun (pr : Option (List Nat)) => tcost_q hK (hx1.wf hu) (hT.mo (hx1.mo F)) pr
    have ha := fun (a b c d e f g h : UInt64) (s : St) (hs : WF s) (pr : Option (List Nat)) => add_q hK a b c d e f g h hs pr
    have hsg : ∀ l, (S u l).get k2 = some (cU x) := fun l => by rw [S_old _ _ hlt]; exact hg
    have hsm2 : ∀ l, (S u l).may k2 = true := fun l => by rw [((S_ex hu l).d (fun _ => False)).may, he.may]; exact hm2
    have fail : ∀ l, ∃ u', u' = (S u l).put k2 (some (cU U0)) ∧ Exd (· = k2) s1 u' ∧ u'.get k2 = some (cU U0) := fun l =>
      ⟨_, rfl, (he.trans (E := (· = k2)) ((S_ex hu l).d (fun _ => False)) (fun _ _ h => h) (fun _ _ h => h.elim)).trans (E := (· = k2)) (Exd.put (S_wf hu l) (hsg l) _) (fun _ _ h => h) (fun _ _ h => h), St.get_put_same (hsg l) _⟩
    rw [List.drop_eq_getElem_cons (show i < L.length by omega)]
    by_cases hok : okT L[i] = true
    · obtain ⟨cx, hcx⟩ := okT_cost hok
      rw [if_pos hok, hcx] at hc
      simp only [Option.getD_some] at hc
      have lk : (i = 0 ∨ (0 < i ∧ L[i].frm = (L[0]'(by omega)).frm ∧ L[i].nonce = (L[i-1]'(by omega)).nonce + 1)) ∨ (0 < i ∧ ¬ (L[i].frm = (L[0]'(by omega)).frm ∧ L[i].nonce = (L[i-1]'(by omega)).nonce + 1)) := by
        by_cases h0 : i = 0
        · exact .inl (.inl h0)
        · by_cases h1 : L[i].frm = (L[0]'(by omega)).frm ∧ L[i].nonce = (L[i-1]'(by omega)).nonce + 1
          · exact .inl (.inr ⟨by omega, h1⟩)
          · exact .inr ⟨by omega, h1⟩
      have hprv : 0 < i → prv L i = some ((L[0]'(by omega)).frm, (L[i-1]'(by omega)).nonce) := fun h0 => by
        obtain ⟨i', rfl⟩ : ∃ i', i = i' + 1 := ⟨i - 1, by omega⟩
        exact prv_succ L i' (by omega)
      have rd0 : 0 < i → ∀ l, rdAt ro (S u l) (shift b 0) 1 = some [vI (L[0]'(by omega)).frm] ∧ rdAt ro (S u l) (shift b ((i - 1) * 21 + 1)) 1 = some [vI (L[i-1]'(by omega)).nonce] := fun h0 l => by
        obtain ⟨b', hb, q0, q1⟩ := (ru.mo ((S_ex hu l).mo F)).atF 0 (by omega)
        obtain ⟨b'', hb', q2, q3⟩ := (ru.mo ((S_ex hu l).mo F)).atF (i - 1) (by omega)
        cases hb; cases hb'
        exact ⟨by simpa using q0, q3⟩
      have nb : 0 < i → -9223372036854775808 ≤ (L[i-1]'(by omega)).nonce + 1 ∧ (L[i-1]'(by omega)).nonce + 1 < 9223372036854775808 := fun h0 => by
        have o2 := okT_parts (hp (i - 1) (by omega) (by omega))
        omega
      have hi1 : 0 < i → (i : Int) - 1 = ((i - 1 : Nat) : Int) := fun _ => by omega
      rcases lk with lk | ⟨h0, lk⟩
      · have hsp : spC x (prv L i) (L[i] :: L.drop (i + 1)) = if x.val + cx.val < 2 ^ 256 then spC (U.of (x.val + cx.val)) (prv L (i + 1)) (L.drop (i + 1)) else none := by
          rw [prv_succ L i (by omega)]
          rcases lk with h0 | ⟨h0, l1, l2⟩
          · subst h0
            simp only [prv, spC, hok, if_true, hcx, Option.getD_some]
          · rw [hprv h0, spC, if_pos ⟨hok, l1, l2⟩, hcx, Option.getD_some]
        rw [hsp]
        by_cases hov : x.val + cx.val < 2 ^ 256
        · rw [if_pos hov]
          have e1 : addR ⟨x.a, x.b, x.c, x.d⟩ ⟨cx.a, cx.b, cx.c, cx.d⟩ = (U.of (x.val + cx.val), 0) := by simp only [U_eta]; unfold addR; rw [if_pos hov]
          have ep := Exd.put (S_wf hu [some (txC L[i] hv bv), some (cU cx)]) (hsg _) (some (cU (U.of (x.val + cx.val))))
          have en := (he.trans (E := (· = k2)) ((S_ex hu [some (txC L[i] hv bv), some (cU cx)]).d (fun _ => False)) (fun _ _ h => h) (fun _ _ h => h.elim)).trans (E := (· = k2)) ep (fun _ _ h => h) (fun _ _ h => h)
          obtain ⟨u', f1, f2⟩ := ih (i + 1) _ (U.of (x.val + cx.val)) en (St.get_put_same (hsg _) _) (by omega) (fun q hq hl => by
            by_cases hqi : q = i
            · subst hqi; exact hok
            · exact hp q (by omega) hl)
          refine ⟨u', f1, ?_⟩
          have step : ∀ k : List Fm, M ro K (.lop b235_0) (.bk 0 :: k) [(0, .slice (some b) L.length c), (2, .pointer (some (EV.own k2 0))), (12, .slice (some b) L.length c), (13, vI L.length), (14, vI i)] u = M ro K (.lop b235_0) (.bk 0 :: k) [(0, .slice (some b) L.length c), (2, .pointer (some (EV.own k2 0))), (12, .slice (some b) L.length c), (13, vI L.length), (14, vI (i + 1 : Nat))] ((S u [some (txC L[i] hv bv), some (cU cx)]).put k2 (some (cU (U.of (x.val + cx.val))))) := by
            intro k
            rw [M_lop]
            rcases lk with h0 | ⟨h0, l1, l2⟩
            · subst h0
              have hrd0 : rdAt ro u (shift b 0) 21 = some (txC L[0] hv bv) := by simpa using hrd
              simp (disch := first | omega | assumption | exact S_wf (by assumption) _ | (simp; done) | (simp; omega)) [Mb _ _ b235_0.eq_1, decide_eq_true, decide_eq_false, if_pos, if_neg, hrd, hrd0, hc, ha, wI, hu, hsg, hsm2, e1]
            · have q0 := fun l => (rd0 h0 l).1
              have q1 := fun l => (rd0 h0 l).2
              obtain ⟨n1, n2⟩ := nb h0
              have hi1 := hi1 h0
              simp (disch := first | omega | assumption | exact S_wf (by assumption) _ | (simp; done) | (simp; omega)) [Mb _ _ b235_0.eq_1, decide_eq_true, decide_eq_false, if_pos, if_neg, hrd, hc, ha, wI, hu, hsg, hsm2, e1, q0, q1, hi1, ← l1, ← l2]
          cases hsq : spC (U.of (x.val + cx.val)) (prv L (i + 1)) (L.drop (i + 1)) with
          | some y =>
            rw [hsq] at f2
            exact ⟨f2.1, fun k => (step k).trans (f2.2 k)⟩
          | none =>
            rw [hsq] at f2
            exact ⟨f2.1, fun k => (step k).trans (f2.2 k)⟩
        · rw [if_neg hov]
          have e1 : addR ⟨x.a, x.b, x.c, x.d⟩ ⟨cx.a, cx.b, cx.c, cx.d⟩ = (U0, 8) := by simp only [U_eta]; unfold addR; rw [if_neg hov]
          obtain ⟨u', hu', g1, g2⟩ := fail [some (txC L[i] hv bv), some (cU cx)]
          refine ⟨u', g1, g2, fun k => ?_⟩
          have pp : ((S u [some (txC L[i] hv bv), some (cU cx)]).put k2 (some (cU U0))).put k2 (some (cU U0)) = u' := by rw [hu']; exact put_put _ _ _ _
          have gg := St.get_put_same (hsg [some (txC L[i] hv bv), some (cU cx)]) (some (cU U0))
          have mm : ((S u [some (txC L[i] hv bv), some (cU cx)]).put k2 (some (cU U0))).may k2 = true := hsm2 [some (txC L[i] hv bv), some (cU cx)]
          rw [M_lop]
          rcases lk with h0 | ⟨h0, l1, l2⟩
          · subst h0
            have hrd0 : rdAt ro u (shift b 0) 21 = some (txC L[0] hv bv) := by simpa using hrd
            simp (disch := first | omega | assumption | exact S_wf (by assumption) _ | (simp; done) | (simp; omega)) [Mb _ _ b235_0.eq_1, decide_eq_true, decide_eq_false, if_pos, if_neg, hrd, hrd0, hc, ha, wI, hu, hsg, hsm2, e1, pp, gg, mm]
          · have q0 := fun l => (rd0 h0 l).1
            have q1 := fun l => (rd0 h0 l).2
            obtain ⟨n1, n2⟩ := nb h0
            have hi1 := hi1 h0
            simp (disch := first | omega | assumption | exact S_wf (by assumption) _ | (simp; done) | (simp; omega)) [Mb _ _ b235_0.eq_1, decide_eq_true, decide_eq_false, if_pos, if_neg, hrd, hc, ha, wI, hu, hsg, hsm2, e1, q0, q1, hi1, ← l1, ← l2, pp, gg, mm]
      · have hsp : spC x (prv L i) (L[i] :: L.drop (i + 1)) = none := by
          rw [hprv h0, spC, if_neg (fun hh => lk hh.2)]
        rw [hsp]
        obtain ⟨u', hu', g1, g2⟩ := fail [some (txC L[i] hv bv), some (cU cx)]
        refine ⟨u', g1, g2, fun k => ?_⟩
        rw [M_lop]
        have q0 := fun l => (rd0 h0 l).1
        have q1 := fun l => (rd0 h0 l).2
        obtain ⟨n1, n2⟩ := nb h0
        have hi1 := hi1 h0
        by_cases l1 : L[i].frm = (L[0]'(by omega)).frm
        · have l2 : ¬ L[i].nonce = (L[i-1]'(by omega)).nonce + 1 := fun hh => lk ⟨l1, hh⟩
          simp (disch := first | omega | assumption | exact S_wf (by assumption) _ | (simp; done) | (simp; omega)) [Mb _ _ b235_0.eq_1, decide_eq_true, decide_eq_false, if_pos, if_neg, hrd, hc, wI, hu, hsg, hsm2, q0, q1, hi1, ← l1, l2, ← hu']
        · simp (disch := first | omega | assumption | exact S_wf (by assumption) _ | (simp; done) | (simp; omega)) [Mb _ _ b235_0.eq_1, decide_eq_true, decide_eq_false, if_pos, if_neg, hrd, hc, wI, hu, hsg, hsm2, q0, q1, hi1, l1, ← hu']
    · rw [if_neg hok] at hc
      have hsp : spC x (prv L i) (L[i] :: L.drop (i + 1)) = none := by
        cases prv L i with
        | none => rw [spC, if_neg hok]
        | some p => obtain ⟨f, n⟩ := p; rw [spC, if_neg (fun hh => hok hh.1)]
      rw [hsp]
      obtain ⟨u', hu', g1, g2⟩ := fail [some (txC L[i] hv bv), some (cU U0)]
      refine ⟨u', g1, g2, fun k => ?_⟩
      rw [M_lop]
      simp (disch := first | omega | assumption | exact S_wf (by assumption) _ | (simp; done) | (simp; omega)) [Mb _ _ b235_0.eq_1, decide_eq_true, decide_eq_false, if_pos, if_neg, hrd, hc, wI, hu, hsg, hsm2, ← hu']
def spentP (L : List T) : Option U := if L.length ≤ 6 then spC U0 none L else none
theorem spentP_eq (L : List T) : spentP L = if chainOk L = true then spentG U0 L else none := by
  unfold spentP
  by_cases h : L.length ≤ 6
  · rw [if_pos h, spC_chain L h]
  · rw [if_neg h, if_neg]
    cases L with
    | nil => simp at h
    | cons t l =>
      simp only [List.length_cons] at h
      rw [chainOk, decide_eq_false (by omega)]
      simp
theorem spent_q (hK : Std ro K) {L : List T} {v : Value} {F : Fp} {s : St} (hs : WF s) (r : Sl shTx ro F s v L) (hsm : ∀ x ∈ L, Sm x) (hz : L.length < 4294967296) (pr : Option (List Nat)) : callK K (.func (.func 235) #[] #[]) [v] true pr s = some (spentV (spentP L), s) := by
  obtain ⟨a, c, rfl⟩ := r.len
  suffices h1 : ∀ s, WF s → Sl shTx ro F s (.slice a L.length c) L → ∃ s', K (.func (.func 235) #[] #[]) [.slice a L.length c] s = some (spentV (spentP L), s') by
    obtain ⟨s', h1⟩ := h1 _ hs.q (r.mo (Mo.q F s))
    exact callq h1 (by cases spentP L <;> rfl)
  intro s hs r
  have hx := S_ex hs [some (cU U0)]
  have hs1 := hx.wf hs
  have m2 : (S s [some (cU U0)]).may s.n = true := S_may hs _ 0
  rw [go235 hK _ _ rfl]
  unfold spentP
  by_cases h6 : L.length ≤ 6
  · have r' : Sl shTx ro (fun j => F j ∧ j < s.n) s (.slice a L.length c) L := r.mo ⟨Nat.le_refl _, fun j hj hF => ⟨rfl, hF, hj⟩⟩
    obtain ⟨u', e1, e2⟩ := spent_loop hK (fun j => F j ∧ j < s.n) L hsm hz a c s.n _ hs1 (fun j hj => by omega) (r'.mo (hx.mo _)) m2 L.length 0 _ U0 ((Ex.refl hs1).d _) (by rw [S_get0]; rfl) (by omega) (fun q hq => by omega)
    simp only [show ((0 : Nat) : Int) = 0 from rfl, List.drop_zero, EV.own, prv] at e2
    have mu : u'.may s.n = true := by rw [e1.may]; exact m2
    rw [if_pos h6]
    cases hx : spC U0 none L with
    | some y =>
      rw [hx] at e2
      obtain ⟨g2, hl⟩ := e2
      have g2' := St.get_put_same g2 (some (cU y))
      simp (disch := first | omega | assumption | exact S_wf (by assumption) _ | (simp; done) | (simp; omega)) [c235, decide_eq_true, decide_eq_false, if_pos, if_neg, hs, hl, g2, mu, g2', spentV]
    | none =>
      rw [hx] at e2
      obtain ⟨g2, hl⟩ := e2
      simp (disch := first | omega | assumption | exact S_wf (by assumption) _ | (simp; done) | (simp; omega)) [c235, decide_eq_true, decide_eq_false, if_pos, if_neg, hs, hl, g2, mu, spentV]
  · rw [if_neg h6]
    simp (disch := first | omega | assumption | exact S_wf (by assumption) _ | (simp; done) | (simp; omega)) [c235, decide_eq_true, decide_eq_false, if_pos, if_neg, hs, spentV]
theorem spentE_q (hK : Std ro K) {L : List T} {v : Value} {F : Fp} {s : St} (hs : WF s) (r : Sl shTx ro F s v L) (hsm : ∀ x ∈ L, Sm x) (hz : L.length < 4294967296) (pr : Option (List Nat)) : callK K (.func (.func 201) #[] #[]) [v] true pr s = some (match spentP L with | some y => vUE y 0 | none => vUE U0 1, s) := by
  obtain ⟨a, c, rfl⟩ := r.len
  suffices h1 : ∀ s, WF s → Sl shTx ro F s (.slice a L.length c) L → ∃ s', K (.func (.func 201) #[] #[]) [.slice a L.length c] s = some (match spentP L with | some y => vUE y 0 | none => vUE U0 1, s') by
    obtain ⟨s', h1⟩ := h1 _ hs.q (r.mo (Mo.q F s))
    exact callq h1 (by cases spentP L <;> rfl)
  intro s hs r
  have hx := S_ex hs [some (cU U0)]
  have hc := fun (pr : Option (List Nat)) => spent_q hK (hx.wf hs) (r.mo (hx.mo F)) hsm hz pr
  rw [go201 hK _ _ rfl]
  cases hy : spentP L with
  | some y =>
    rw [hy] at hc
    simp only [spentV] at hc
    simp (disch := first | omega | assumption | exact S_wf (by assumption) _ | (simp; done) | (simp; omega)) [c201, decide_eq_true, decide_eq_false, if_pos, if_neg, hs, hc]
  | none =>
    rw [hy] at hc
    simp only [spentV] at hc
    simp (disch := first | omega | assumption | exact S_wf (by assumption) _ | (simp; done) | (simp; omega)) [c201, decide_eq_true, decide_eq_false, if_pos, if_neg, hs, hc]
end Go.Proofs.YtakdnpafdadblaaGreat.EV.W
namespace Go.Proofs.YtakdnpafdadblaaGreat.EV.W
open Go
set_option maxRecDepth 8000
set_option maxHeartbeats 1000000
variable {ro : Addr → Option Value} {K : H}
def lt6 (x y : UInt64) : Bool := decide (x < y)
def g6 (d : Array UInt64) (i : Nat) : UInt64 := d[i]!
def rw6 (d : Array UInt64) : List Value := d.toList.map v64
@[simp] theorem rw6_len (d : Array UInt64) : (rw6 d).length = d.size := by simp [rw6]
theorem rw6_set (d : Array UInt64) (i : Nat) (x : UInt64) : (rw6 d).set i (v64 x) = rw6 (d.setIfInBounds i x) := by simp [rw6, List.map_set]
theorem rw6_at (d : Array UInt64) (i : Nat) (h : i < d.size) : ((rw6 d).drop i).take 1 = [v64 (g6 d i)] := by
  rw [List.drop_eq_getElem_cons (by rw [rw6_len]; exact h)]
  simp [rw6, g6, getElem!_pos d i h]
theorem swp_rw (d : Array UInt64) (i j : Nat) : ((rw6 d).set i (v64 (g6 d j))).set j (v64 (g6 d i)) = rw6 (Go.Sort.swp d i j) := by rw [rw6_set, rw6_set]; rfl
theorem g6_eq (d : Array UInt64) (i : Nat) : d[i]! = g6 d i := rfl
structure At (k : Nat) (d : Array UInt64) (s : St) : Prop where
  g : s.get k = some (rw6 d)
  m : s.may k = true
  w : WF s
theorem may_put (s : St) (k j : Nat) (x : Option (List Value)) : (s.put k x).may j = s.may j := rfl
def Tn (k : Nat) (d : Array UInt64) (s s' : St) : Prop := At k d s' ∧ Exd (· = k) s s'
theorem At.put {k : Nat} {d : Array UInt64} {s : St} (h : At k d s) (d' : Array UInt64) : Tn k d' s (s.put k (some (rw6 d'))) :=
  ⟨⟨St.get_put_same h.g _, h.m, (Exd.put h.w h.g _).wf h.w⟩, Exd.put h.w h.g _⟩
theorem At.rd {k : Nat} {d : Array UInt64} {s : St} (h : At k d s) (i : Nat) (hi : i < d.size) : rdAt ro s ⟨k, i, some 0⟩ 1 = some [v64 (g6 d i)] := by
  rw [rdAt_own, h.g]
  simp only [cut]
  rw [if_pos (by rw [rw6_len]; omega), rw6_at d i hi]
theorem At.refl {k : Nat} {d : Array UInt64} {s : St} (h : At k d s) : Tn k d s s := ⟨h, (Ex.refl h.w).d _⟩
theorem Tn.trans {k : Nat} {d d' : Array UInt64} {s s1 s2 : St} (h : Tn k d s s1) (q : Tn k d' s1 s2) : Tn k d' s s2 :=
  ⟨q.1, h.2.trans q.2 (fun _ _ h => h) (fun _ _ h => h)⟩
@[simp] theorem swp_size (d : Array UInt64) (i j : Nat) : (Go.Sort.swp d i j).size = d.size := by simp [Go.Sort.swp]
theorem At.gp {k : Nat} {d : Array UInt64} {s : St} (h : At k d s) (x : Option (List Value)) : (s.put k x).get k = x := St.get_put_same h.g x
theorem less_fv (hK : Std ro K) (x y : UInt64) : Fv K 275 [v64 x, v64 y] (.bool (lt6 x y)) := by
  intro s hs
  have hn : ∀ (x : UInt64) (s : St) (hs : WF s) (pr : Option (List Nat)), callK K (.func (.func 296) #[] #[]) [v64 x] true pr s = some (.bool false, s) := fun x s hs pr => by
    refine Fv.q (v := .bool false) (fun s hs => ?_) (fun _ => rfl) hs
    rw [go296 hK _ _ rfl]
    simp (disch := first | omega | assumption | exact S_wf (by assumption) _ | (simp; done) | (simp; omega)) [c296]
  rw [go275 hK _ _ rfl]
  simp (disch := first | omega | assumption | exact S_wf (by assumption) _ | (simp; done) | (simp; omega)) [c275, hn, hs]
  rfl
theorem less_q (hK : Std ro K) (x y : UInt64) {s : St} (hs : WF s) (pr : Option (List Nat)) : callK K (.func (.func 275) #[] #[]) [v64 x, v64 y] true pr s = some (.bool (lt6 x y), s) :=
  (less_fv hK x y).q (fun _ => rfl) hs
section
variable (hK : Std ro K) (k n a b : Nat) (hn : n < 4294967296)
include hK hn
theorem ins_inner (i : Nat) : ∀ (j : Nat) (d : Array UInt64) (s : St), At k d s → d.size = n → j < n → a < 4294967296 →
    ∃ s' j', Tn k (Go.Sort.insInner lt6 a j d) s s' ∧ (Go.Sort.insInner lt6 a j d).size = n ∧ ∀ kk : List Fm, M ro K (.lop b269_0) (.bk 2 :: kk) [(0, .slice (some (EV.own k 0)) n 1), (1, vI a), (2, vI b), (6, vI i), (7, vI j)] s = Rk ro K .nrm kk [(0, .slice (some (EV.own k 0)) n 1), (1, vI a), (2, vI b), (6, vI i), (7, vI (j' : Nat)), (30, .bool false)] s' := by
  intro j
  induction j with
  | zero =>
    intro d s h hd hj ha
    refine ⟨s, 0, h.refl, hd, fun kk => ?_⟩
    rw [M_lop]
    simp (disch := first | omega | assumption | exact S_wf (by assumption) _ | (simp; done) | (simp; omega)) [Mb _ _ b269_0.eq_1, decide_eq_true, decide_eq_false, if_pos, if_neg]
  | succ j ih =>
    intro d s h hd hj ha
    have hw := h.w
    have r1 := h.rd (ro := ro) (j + 1) (by omega)
    have r0 := h.rd (ro := ro) j (by omega)
    have hl := fun (x y : UInt64) (pr : Option (List Nat)) => less_q hK x y hw pr
    have hg := h.g
    have hm := h.m
    have gp := h.gp
    rw [show Go.Sort.insInner lt6 a (j + 1) d = if (decide (a < j + 1) && lt6 (g6 d (j + 1)) (g6 d j)) = true then Go.Sort.insInner lt6 a j (Go.Sort.swp d (j + 1) j) else d from rfl]
    by_cases h1 : a < j + 1
    · cases h2 : lt6 (g6 d (j + 1)) (g6 d j) with
      | true =>
        rw [if_pos (by simp [h1])]
        have hp := h.put (Go.Sort.swp d (j + 1) j)
        obtain ⟨s', j', t1, t2, t3⟩ := ih (Go.Sort.swp d (j + 1) j) _ hp.1 (by rw [swp_size]; exact hd) (by omega) ha
        refine ⟨s', j', hp.trans t1, t2, fun kk => ?_⟩
        rw [← t3 kk, M_lop]
        simp (disch := first | omega | assumption | exact S_wf (by assumption) _ | (simp; done) | (simp; omega)) [Mb _ _ b269_0.eq_1, decide_eq_true, decide_eq_false, if_pos, if_neg, wI, hl, r1, r0, h2, hg, hm, gp, may_put, put_put, rw6_len, swp_rw]
      | false =>
        rw [if_neg (by simp)]
        refine ⟨s, j + 1, h.refl, hd, fun kk => ?_⟩
        rw [M_lop]
        simp (disch := first | omega | assumption | exact S_wf (by assumption) _ | (simp; done) | (simp; omega)) [Mb _ _ b269_0.eq_1, decide_eq_true, decide_eq_false, if_pos, if_neg, wI, hl, r1, r0, h2]
    · rw [if_neg (by simp; intro hh; omega)]
      refine ⟨s, j + 1, h.refl, hd, fun kk => ?_⟩
      rw [M_lop]
      simp (disch := first | omega | assumption | exact S_wf (by assumption) _ | (simp; done) | (simp; omega)) [Mb _ _ b269_0.eq_1, decide_eq_true, decide_eq_false, if_pos, if_neg, wI]
theorem ins_outer (ha : a < 4294967296) (hb : b ≤ n) : ∀ (j i : Nat) (d : Array UInt64) (s : St), i + j = b ∨ (b < i ∧ j = 0) → i < 4294967297 → At k d s → d.size = n →
    ∃ s' i', Tn k (Go.Sort.insOuter lt6 a b i d) s s' ∧ (Go.Sort.insOuter lt6 a b i d).size = n ∧ ∀ kk : List Fm, M ro K (.lop b269_1) (.bk 0 :: kk) [(0, .slice (some (EV.own k 0)) n 1), (1, vI a), (2, vI b), (6, vI i)] s = Rk ro K .nrm kk [(0, .slice (some (EV.own k 0)) n 1), (1, vI a), (2, vI b), (6, vI (i' : Nat)), (12, .bool false)] s' := by
  intro j
  induction j with
  | zero =>
    intro i d s h hi h1 h2
    rw [Go.Sort.insOuter, if_neg (by omega)]
    refine ⟨s, i, h1.refl, h2, fun kk => ?_⟩
    rw [M_lop]
    have : ¬ i < b := by omega
    simp (disch := first | omega | assumption | exact S_wf (by assumption) _ | (simp; done) | (simp; omega)) [Mb _ _ b269_1.eq_1, decide_eq_true, decide_eq_false, if_pos, if_neg, this]
  | succ j ih =>
    intro i d s h hi h1 h2
    have hib : i < b := by omega
    rw [Go.Sort.insOuter, if_pos hib]
    obtain ⟨s1, j', t1, t2, t3⟩ := ins_inner hK k n a b hn i i d s h1 h2 (by omega) ha
    obtain ⟨s', i', q1, q2, q3⟩ := ih (i + 1) _ s1 (by omega) (by omega) t1.1 t2
    refine ⟨s', i', t1.trans q1, q2, fun kk => ?_⟩
    rw [← q3 kk, M_lop]
    simp only [EV.own] at t3
    simp (disch := first | omega | assumption | exact S_wf (by assumption) _ | (simp; done) | (simp; omega)) [Mb _ _ b269_1.eq_1, decide_eq_true, decide_eq_false, if_pos, if_neg, hib, t3, wI]
theorem ins_t (d : Array UInt64) (s : St) (ha : a ≤ b) (hb : b ≤ n) (h : At k d s) (hd : d.size = n) :
    ∃ s', Tn k (Go.Sort.insertionSort lt6 d a b) s s' ∧ (Go.Sort.insertionSort lt6 d a b).size = n ∧ K (.func (.func 269) #[] #[]) [.slice (some (EV.own k 0)) n 1, vI a, vI b] s = some (.tuple #[], s') := by
  obtain ⟨s', i', t1, t2, t3⟩ := ins_outer hK k n a b hn (by omega) hb (b - (a + 1)) (a + 1) d s (by omega) (by omega) h hd
  refine ⟨s', t1, t2, ?_⟩
  rw [go269 hK _ _ rfl]
  simp only [EV.own] at t3
  push_cast at t3
  simp (disch := first | omega | assumption | exact S_wf (by assumption) _ | (simp; done) | (simp; omega)) [c269, decide_eq_true, decide_eq_false, if_pos, if_neg, t3, wI]
omit hn in
theorem sift_loop (hi first : Nat) (hf : first + hi ≤ n) (hn : n < 4294967296) : ∀ (m root : Nat) (d : Array UInt64) (s : St), hi - root ≤ m → root < 4294967296 → (root < hi ∨ hi = 0) → At k d s → d.size = n →
    ∃ s', Tn k (Go.Sort.siftDown lt6 hi first root d) s s' ∧ (Go.Sort.siftDown lt6 hi first root d).size = n ∧ M ro K (.lop b291_0) [.bk 0, .fn []] [(0, .slice (some (EV.own k 0)) n 1), (2, vI hi), (3, vI first), (8, vI root)] s = some (.tuple #[], s') := by
  intro m
  induction m with
  | zero =>
    intro root d s hm hr hrr h hd
    have hh : 2 * root + 1 ≥ hi := by omega
    rw [Go.Sort.siftDown, dif_pos hh]
    refine ⟨s, h.refl, hd, ?_⟩
    rw [M_lop]
    have h1 : (hi : Int) ≤ 2 * (root : Int) + 1 := by omega
    simp (disch := first | omega | assumption | exact S_wf (by assumption) _ | (simp; done) | (simp; omega)) [Mb _ _ b291_0.eq_1, decide_eq_true, decide_eq_false, if_pos, if_neg, h1, wI]
  | succ m ih =>
    intro root d s hm hr hrr h hd
    have hw := h.w
    have hg := h.g
    have hm' := h.m
    have gp := h.gp
    have hl := fun (x y : UInt64) (pr : Option (List Nat)) => less_q hK x y hw pr
    obtain ⟨c, hc⟩ : ∃ c, c = 2 * root + 1 := ⟨_, rfl⟩
    have hc2 : 2 * root + 2 = c + 1 := by omega
    rw [Go.Sort.siftDown]
    simp only [hc2, ← hc, g6_eq]
    have e1 : (2 : Int) * (root : Int) + 1 = (c : Int) := by omega
    by_cases h1 : c ≥ hi
    · rw [dif_pos h1]
      refine ⟨s, h.refl, hd, ?_⟩
      rw [M_lop]
      simp (disch := first | omega | assumption | exact S_wf (by assumption) _ | (simp; done) | (simp; omega)) [Mb _ _ b291_0.eq_1, decide_eq_true, decide_eq_false, if_pos, if_neg, h1, wI, e1]
    rw [dif_neg h1]
    obtain ⟨x, hx⟩ : ∃ x, x = first + root := ⟨_, rfl⟩
    obtain ⟨y, hy⟩ : ∃ y, y = first + c := ⟨_, rfl⟩
    have hy1 : first + (c + 1) = y + 1 := by omega
    have hy2 : first + c + 1 = y + 1 := by omega
    have e2 : (first : Int) + (root : Int) = (x : Int) := by omega
    have e3 : (first : Int) + (c : Int) = (y : Int) := by omega
    have e4 : (first : Int) + ((c : Int) + 1) = (y : Int) + 1 := by omega
    simp only [hy1, hy2, ← hx, ← hy]
    have rx := h.rd (ro := ro) x (by omega)
    have ry := h.rd (ro := ro) y (by omega)
    cases h2 : (decide (c + 1 < hi) && lt6 (g6 d y) (g6 d (y + 1))) with
    | true =>
      rw [if_pos rfl]
      rw [Bool.and_eq_true, decide_eq_true_eq] at h2
      have rz := h.rd (ro := ro) (y + 1) (by omega)
      cases h3 : lt6 (g6 d x) (g6 d (y + 1)) with
      | false =>
        rw [if_pos (by simp)]
        refine ⟨s, h.refl, hd, ?_⟩
        rw [M_lop]
        simp (disch := first | omega | assumption | exact S_wf (by assumption) _ | (simp; done) | (simp; omega)) [Mb _ _ b291_0.eq_1, decide_eq_true, decide_eq_false, if_pos, if_neg, wI, hl, rx, ry, rz, e1, e2, e3, e4, h1, h2.1, h2.2, h3]
      | true =>
        rw [if_neg (by simp), dif_pos h2.1]
        have hp := h.put (Go.Sort.swp d x (y + 1))
        obtain ⟨s', t1, t2, t3⟩ := ih (c + 1) (Go.Sort.swp d x (y + 1)) _ (by omega) (by omega) (by omega) hp.1 (by simpa using hd)
        refine ⟨s', hp.trans t1, t2, ?_⟩
        rw [← t3, M_lop]
        simp (disch := first | omega | assumption | exact S_wf (by assumption) _ | (simp; done) | (simp; omega)) [Mb _ _ b291_0.eq_1, decide_eq_true, decide_eq_false, if_pos, if_neg, wI, hl, rx, ry, rz, e1, e2, e3, e4, h1, h2.1, h2.2, h3, hg, hm', gp, may_put, put_put, swp_rw]
    | false =>
      rw [if_neg (by simp)]
      have hstep : ∀ (P : Prop), (c + 1 < hi → lt6 (g6 d y) (g6 d (y + 1)) = false → P) → (¬ c + 1 < hi → P) → P := fun P q1 q2 => by
        by_cases hh : c + 1 < hi
        · rw [decide_eq_true hh, Bool.true_and] at h2; exact q1 hh h2
        · exact q2 hh
      cases h3 : lt6 (g6 d x) (g6 d y) with
      | false =>
        rw [if_pos (by simp)]
        refine ⟨s, h.refl, hd, ?_⟩
        rw [M_lop]
        refine hstep _ (fun q1 q2 => ?_) (fun q1 => ?_)
        · have rz := h.rd (ro := ro) (y + 1) (by omega)
          simp (disch := first | omega | assumption | exact S_wf (by assumption) _ | (simp; done) | (simp; omega)) [Mb _ _ b291_0.eq_1, decide_eq_true, decide_eq_false, if_pos, if_neg, wI, hl, rx, ry, rz, e1, e2, e3, e4, h1, q1, q2, h3]
        · have q1' : ¬ (c : Int) + 1 < hi := by omega
          simp (disch := first | omega | assumption | exact S_wf (by assumption) _ | (simp; done) | (simp; omega)) [Mb _ _ b291_0.eq_1, decide_eq_true, decide_eq_false, if_pos, if_neg, wI, hl, rx, ry, e1, e2, e3, e4, h1, q1', h3]
      | true =>
        rw [if_neg (by simp)]
        have hp := h.put (Go.Sort.swp d x y)
        obtain ⟨s', t1, t2, t3⟩ := ih c (Go.Sort.swp d x y) _ (by omega) (by omega) (by omega) hp.1 (by simpa using hd)
        refine ⟨s', hp.trans t1, t2, ?_⟩
        rw [← t3, M_lop]
        refine hstep _ (fun q1 q2 => ?_) (fun q1 => ?_)
        · have rz := h.rd (ro := ro) (y + 1) (by omega)
          simp (disch := first | omega | assumption | exact S_wf (by assumption) _ | (simp; done) | (simp; omega)) [Mb _ _ b291_0.eq_1, decide_eq_true, decide_eq_false, if_pos, if_neg, wI, hl, rx, ry, rz, e1, e2, e3, e4, h1, q1, q2, h3, hg, hm', gp, may_put, put_put, swp_rw]
        · have q1' : ¬ (c : Int) + 1 < hi := by omega
          simp (disch := first | omega | assumption | exact S_wf (by assumption) _ | (simp; done) | (simp; omega)) [Mb _ _ b291_0.eq_1, decide_eq_true, decide_eq_false, if_pos, if_neg, wI, hl, rx, ry, e1, e2, e3, e4, h1, q1', h3, hg, hm', gp, may_put, put_put, swp_rw]
theorem sift_t (hi first root : Nat) (d : Array UInt64) (s : St) (hf : first + hi ≤ n) (hr : root < hi ∨ hi = 0) (hr2 : root < 4294967296) (h : At k d s) (hd : d.size = n) :
    ∃ s', Tn k (Go.Sort.siftDown lt6 hi first root d) s s' ∧ (Go.Sort.siftDown lt6 hi first root d).size = n ∧ K (.func (.func 291) #[] #[]) [.slice (some (EV.own k 0)) n 1, vI root, vI hi, vI first] s = some (.tuple #[], s') := by
  obtain ⟨s', t1, t2, t3⟩ := sift_loop hK k n hi first hf hn (hi - root) root d s (by omega) hr2 hr h hd
  refine ⟨s', t1, t2, ?_⟩
  rw [go291 hK _ _ rfl]
  simp only [EV.own] at t3
  simp (disch := first | omega | assumption | exact S_wf (by assumption) _ | (simp; done) | (simp; omega)) [c291, decide_eq_true, decide_eq_false, if_pos, if_neg, t3, wI]
theorem heap_build (hi first : Nat) (hf : first + hi ≤ n) (e7 : Value) : ∀ (m : Nat) (d : Array UInt64) (s : St), (m ≤ hi ∨ hi = 0) → m < 4294967296 → At k d s → d.size = n →
    ∃ s', Tn k (Go.Sort.heapBuild lt6 hi first m d) s s' ∧ (Go.Sort.heapBuild lt6 hi first m d).size = n ∧ ∀ kk : List Fm, M ro K (.lop b270_0) (.bk 0 :: kk) [(0, .slice (some (EV.own k 0)) n 1), (6, vI first), (7, e7), (8, vI hi), (9, vI ((m : Int) - 1))] s = Rk ro K .nrm kk [(0, .slice (some (EV.own k 0)) n 1), (6, vI first), (7, e7), (8, vI hi), (9, vI (-1)), (19, .bool false)] s' := by
  intro m
  induction m with
  | zero =>
    intro d s hm hm2 h hd
    refine ⟨s, h.refl, hd, fun kk => ?_⟩
    rw [M_lop]
    simp (disch := first | omega | assumption | exact S_wf (by assumption) _ | (simp; done) | (simp; omega)) [Mb _ _ b270_0.eq_1, decide_eq_true, decide_eq_false, if_pos, if_neg]
  | succ m ih =>
    intro d s hm hm2 h hd
    obtain ⟨s1, q1, q2, q3⟩ := sift_t hK k n hn hi first m d s hf (by omega) (by omega) h hd
    obtain ⟨s', t1, t2, t3⟩ := ih _ s1 (by omega) (by omega) q1.1 q2
    refine ⟨s', q1.trans t1, t2, fun kk => ?_⟩
    rw [← t3 kk, M_lop]
    simp only [EV.own] at q3
    simp (disch := first | omega | assumption | exact S_wf (by assumption) _ | (simp; done) | (simp; omega)) [Mb _ _ b270_0.eq_1, decide_eq_true, decide_eq_false, if_pos, if_neg, callK_f, q3, wI]
theorem heap_pop (first : Nat) : ∀ (m : Nat) (d : Array UInt64) (s : St), first + m ≤ n → At k d s → d.size = n →
    ∃ s', Tn k (Go.Sort.heapPop lt6 first m d) s s' ∧ (Go.Sort.heapPop lt6 first m d).size = n ∧ ∀ kk : List Fm, M ro K (.lop b270_1) (.bk 2 :: kk) [(0, .slice (some (EV.own k 0)) n 1), (6, vI first), (7, vI 0), (10, vI ((m : Int) - 1))] s = Rk ro K .nrm kk [(0, .slice (some (EV.own k 0)) n 1), (6, vI first), (7, vI 0), (10, vI (-1)), (30, .bool false)] s' := by
  intro m
  induction m with
  | zero =>
    intro d s hm h hd
    refine ⟨s, h.refl, hd, fun kk => ?_⟩
    rw [M_lop]
    simp (disch := first | omega | assumption | exact S_wf (by assumption) _ | (simp; done) | (simp; omega)) [Mb _ _ b270_1.eq_1, decide_eq_true, decide_eq_false, if_pos, if_neg]
  | succ m ih =>
    intro d s hm h hd
    have hw := h.w
    have hg := h.g
    have hm' := h.m
    have gp := h.gp
    obtain ⟨x, hx⟩ : ∃ x, x = first + m := ⟨_, rfl⟩
    have e2 : (first : Int) + (m : Int) = (x : Int) := by omega
    have hp := h.put (Go.Sort.swp d first x)
    obtain ⟨s1, q1, q2, q3⟩ := sift_t hK k n hn m first 0 _ _ (by omega) (by omega) (by omega) hp.1 (by simpa using hd)
    obtain ⟨s', t1, t2, t3⟩ := ih _ s1 (by omega) q1.1 q2
    rw [Go.Sort.heapPop, ← hx]
    refine ⟨s', hp.trans (q1.trans t1), t2, fun kk => ?_⟩
    rw [← t3 kk, M_lop]
    have rx := h.rd (ro := ro) x (by omega)
    have ry := h.rd (ro := ro) first (by omega)
    simp only [EV.own, show ((0 : Nat) : Int) = 0 from rfl] at q3
    simp (disch := first | omega | assumption | exact S_wf (by assumption) _ | (simp; done) | (simp; omega)) [Mb _ _ b270_1.eq_1, decide_eq_true, decide_eq_false, if_pos, if_neg, callK_f, q3, wI, e2, rx, ry, hg, hm', gp, may_put, put_put, swp_rw]
theorem heap_t (d : Array UInt64) (s : St) (ha : a < b) (hb : b ≤ n) (h : At k d s) (hd : d.size = n) :
    ∃ s', Tn k (Go.Sort.heapSort lt6 d a b) s s' ∧ (Go.Sort.heapSort lt6 d a b).size = n ∧ K (.func (.func 270) #[] #[]) [.slice (some (EV.own k 0)) n 1, vI a, vI b] s = some (.tuple #[], s') := by
  obtain ⟨m, hm⟩ : ∃ m, m = b - a := ⟨_, rfl⟩
  have e1 : (b : Int) - (a : Int) = (m : Int) := by omega
  obtain ⟨s1, q1, q2, q3⟩ := heap_build hK k n hn m a (by omega) (vI 0) ((m - 1) / 2 + 1) d s (by omega) (by omega) h hd
  obtain ⟨s', t1, t2, t3⟩ := heap_pop hK k n hn a m _ s1 (by omega) q1.1 q2
  have e2 : (((m - 1) / 2 + 1 : Nat) : Int) - 1 = ((m : Int) - 1).tdiv 2 := by
    rw [Int.tdiv_eq_ediv_of_nonneg (by omega)]; omega
  have e3 : -9223372036854775808 ≤ ((m : Int) - 1).tdiv 2 ∧ ((m : Int) - 1).tdiv 2 < 9223372036854775808 := by omega
  rw [e2] at q3
  unfold Go.Sort.heapSort
  rw [← hm]
  refine ⟨s', q1.trans t1, t2, ?_⟩
  rw [go270 hK _ _ rfl]
  simp only [EV.own] at q3 t3
  simp (disch := first | omega | assumption | exact S_wf (by assumption) _ | (simp; done) | (simp; omega)) [c270, decide_eq_true, decide_eq_false, if_pos, if_neg, wI, e1, e3.1, e3.2, q3, t3]
end
end Go.Proofs.YtakdnpafdadblaaGreat.EV.W
namespace Go.Proofs.YtakdnpafdadblaaGreat.EV.W
open Go
set_option maxRecDepth 8000
set_option maxHeartbeats 1000000
variable {ro : Addr → Option Value} {K : H}
theorem put_self {s : St} {k : Nat} {r : List Value} (w : WF s) (h : s.get k = some r) : s.put k (some r) = s := by
  have hk := St.get_lt h
  have hl := w.len
  unfold St.get at h
  rw [if_pos hk] at h
  unfold St.put
  have hi : s.n - 1 - k < s.rows.length := by omega
  rw [List.getElem?_eq_getElem hi, Option.bind_some, id] at h
  have : s.rows.set (s.n - 1 - k) (some r) = s.rows := by
    rw [← h]; exact List.set_getElem_self hi
  rw [this]
theorem put_wf {s : St} {k : Nat} {r : List Value} (w : WF s) (h : s.get k = some r) (x : Option (List Value)) : WF (s.put k x) := (Exd.put w h x).wf w
structure Sd (k ks : Nat) (d : Array UInt64) (x : Value) (s : St) : Prop where
  a : At k d s
  g : s.get ks = some [x]
  m : s.may ks = true
  ne : k ≠ ks
theorem Sd.put {k ks : Nat} {d : Array UInt64} {x : Value} {s : St} (h : Sd k ks d x s) (y : Value) : Sd k ks d y (s.put ks (some [y])) :=
  ⟨⟨(St.get_put_other _ _ h.ne (St.get_lt h.g)).trans h.a.g, h.a.m, put_wf h.a.w h.g _⟩, St.get_put_same h.g _, h.m, h.ne⟩
theorem Sd.self {k ks : Nat} {d : Array UInt64} {x : Value} {s : St} (h : Sd k ks d x s) : s = s.put ks (some [x]) := (put_self h.a.w h.g).symm
section
variable (hK : Std ro K) (k ks n : Nat) (hn : n < 4294967296)
include hK hn
theorem order2_t (a b : Nat) (d : Array UInt64) (m : Int) (s : St) (h : Sd k ks d (vI m) s) (hd : d.size = n) (ha : a < n) (hb : b < n) :
    ∃ x y m', ((x = a ∧ y = b) ∨ (x = b ∧ y = a)) ∧ K (.func (.func 304) #[] #[]) [.slice (some (EV.own k 0)) n 1, vI a, vI b, .pointer (some (EV.own ks 0))] s = some (.tuple #[vI (x : Nat), vI (y : Nat)], s.put ks (some [vI m'])) := by
  have hw := h.a.w
  have hg := h.g
  have hm := h.m
  have hl := fun (x y : UInt64) (pr : Option (List Nat)) => less_q hK x y hw pr
  have ra := h.a.rd (ro := ro) a (by omega)
  have rb := h.a.rd (ro := ro) b (by omega)
  cases hc : lt6 (g6 d b) (g6 d a) with
  | true =>
    refine ⟨b, a, IntKind.i64.wrap (m + 1), .inr ⟨rfl, rfl⟩, ?_⟩
    rw [go304 hK _ _ rfl]
    simp (disch := first | omega | assumption | exact S_wf (by assumption) _ | (simp; done) | (simp; omega)) [c304, decide_eq_true, decide_eq_false, if_pos, if_neg, hl, ra, rb, hc, hg, hm]
  | false =>
    refine ⟨a, b, m, .inl ⟨rfl, rfl⟩, ?_⟩
    rw [go304 hK _ _ rfl, ← h.self]
    simp (disch := first | omega | assumption | exact S_wf (by assumption) _ | (simp; done) | (simp; omega)) [c304, decide_eq_true, decide_eq_false, if_pos, if_neg, hl, ra, rb, hc, hg, hm]
theorem median_t (a b c : Nat) (d : Array UInt64) (m : Int) (s : St) (h : Sd k ks d (vI m) s) (hd : d.size = n) (ha : a < n) (hb : b < n) (hc : c < n) :
    ∃ x m', (x = a ∨ x = b ∨ x = c) ∧ K (.func (.func 295) #[] #[]) [.slice (some (EV.own k 0)) n 1, vI a, vI b, vI c, .pointer (some (EV.own ks 0))] s = some (vI (x : Nat), s.put ks (some [vI m'])) := by
  obtain ⟨x1, y1, m1, q1, e1⟩ := order2_t hK k ks n hn a b d m s h hd ha hb
  have h1 := h.put (vI m1)
  obtain ⟨x2, y2, m2, q2, e2⟩ := order2_t hK k ks n hn y1 c d m1 _ h1 hd (by omega) hc
  have h2 := h1.put (vI m2)
  obtain ⟨x3, y3, m3, q3, e3⟩ := order2_t hK k ks n hn x1 x2 d m2 _ h2 hd (by omega) (by omega)
  refine ⟨y3, m3, by omega, ?_⟩
  rw [go295 hK _ _ rfl]
  rw [put_put] at e2 e3
  rw [put_put] at e3
  simp only [EV.own] at e1 e2 e3
  simp (disch := first | omega | assumption | exact S_wf (by assumption) _ | (simp; done) | (simp; omega)) [c295, decide_eq_true, decide_eq_false, if_pos, if_neg, callK_f, e1, e2, e3]
theorem medadj_t (a : Nat) (d : Array UInt64) (m : Int) (s : St) (h : Sd k ks d (vI m) s) (hd : d.size = n) (ha : 0 < a) (hb : a + 1 < n) :
    ∃ x m', (x + 1 = a ∨ x = a ∨ x = a + 1) ∧ K (.func (.func 294) #[] #[]) [.slice (some (EV.own k 0)) n 1, vI a, .pointer (some (EV.own ks 0))] s = some (vI (x : Nat), s.put ks (some [vI m'])) := by
  obtain ⟨x, m', q, e⟩ := median_t hK k ks n hn (a - 1) a (a + 1) d m s h hd (by omega) (by omega) (by omega)
  refine ⟨x, m', by omega, ?_⟩
  rw [go294 hK _ _ rfl]
  have e1 : (a : Int) - 1 = ((a - 1 : Nat) : Int) := by omega
  simp only [EV.own] at e
  push_cast at e
  simp (disch := first | omega | assumption | exact S_wf (by assumption) _ | (simp; done) | (simp; omega)) [c294, decide_eq_true, decide_eq_false, if_pos, if_neg, callK_f, e, wI, e1]
theorem choose_t (a b : Nat) (d : Array UInt64) (s : St) (h : At k d s) (hd : d.size = n) (hab : a + 8 ≤ b) (hb : b ≤ n) :
    ∃ (x : Nat) (t : Int) (s' : St), a ≤ x ∧ x < b ∧ Tn k d s s' ∧ K (.func (.func 272) #[] #[]) [.slice (some (EV.own k 0)) n 1, vI a, vI b] s = some (.tuple #[vI x, vI t], s') := by
  have hw := h.w
  obtain ⟨l, hl⟩ : ∃ l, l = b - a := ⟨_, rfl⟩
  obtain ⟨q, hq⟩ : ∃ q, q = l / 4 := ⟨_, rfl⟩
  obtain ⟨i, hi⟩ : ∃ i, i = a + q := ⟨_, rfl⟩
  obtain ⟨j, hj⟩ : ∃ j, j = a + q * 2 := ⟨_, rfl⟩
  obtain ⟨r, hr⟩ : ∃ r, r = a + q * 3 := ⟨_, rfl⟩
  have e1 : (b : Int) - (a : Int) = (l : Int) := by omega
  have e2 : (l : Int).tdiv 4 = (q : Int) := by rw [Int.tdiv_eq_ediv_of_nonneg (by omega)]; omega
  have e3 : (a : Int) + (q : Int) = (i : Int) := by omega
  have e4 : (a : Int) + (q : Int) * 2 = (j : Int) := by omega
  have e5 : (a : Int) + (q : Int) * 3 = (r : Int) := by omega
  have hs1 : Sd k s.n d (vI 0) (S s [some [vI 0]]) := by
    have hk := St.get_lt h.g
    refine ⟨⟨by rw [S_old _ _ hk]; exact h.g, by rw [((S_ex hw [some [vI 0]]).d (fun _ => False)).may]; exact h.m, S_wf hw _⟩, by rw [S_get0]; rfl, S_may0 hw _, by omega⟩
  have fin : ∀ (x : Nat) (m : Int), a ≤ x → x < b → (∃ s', s' = S s [some [vI m]] ∧ ∀ kk, (s' = S s [some [vI m]] → K (.func (.func 272) #[] #[]) [.slice (some (EV.own k 0)) n 1, vI a, vI b] s = some (.tuple #[vI x, vI (if m = 0 then 1 else if m = 12 then 2 else 0)], s')) → kk = 0 → ∃ (x : Nat) (t : Int) (s' : St), a ≤ x ∧ x < b ∧ Tn k d s s' ∧ K (.func (.func 272) #[] #[]) [.slice (some (EV.own k 0)) n 1, vI a, vI b] s = some (.tuple #[vI x, vI t], s')) := fun x m h1 h2 => by
    refine ⟨_, rfl, fun kk hh _ => ⟨x, _, S s [some [vI m]], h1, h2, ⟨⟨by rw [S_old _ _ (St.get_lt h.g)]; exact h.g, by rw [((S_ex hw [some [vI m]]).d (fun _ => False)).may]; exact h.m, S_wf hw _⟩, (S_ex hw _).d _⟩, hh rfl⟩⟩
  have pp : ∀ x, (S s [some [vI 0]]).put s.n (some [vI x]) = S s [some [vI x]] := fun x => by rw [S_put0 _ _ _ (by simp)]; rfl
  have pp2 : ∀ x y, (S s [some [vI y]]).put s.n (some [vI x]) = S s [some [vI x]] := fun x y => by rw [S_put0 _ _ _ (by simp)]; rfl
  by_cases h50 : 50 ≤ l
  · obtain ⟨i', m1, g1, f1⟩ := medadj_t hK k s.n n hn i d 0 _ hs1 hd (by omega) (by omega)
    have hs2 := hs1.put (vI m1)
    obtain ⟨j', m2, g2, f2⟩ := medadj_t hK k s.n n hn j d m1 _ hs2 hd (by omega) (by omega)
    have hs3 := hs2.put (vI m2)
    obtain ⟨r', m3, g3, f3⟩ := medadj_t hK k s.n n hn r d m2 _ hs3 hd (by omega) (by omega)
    have hs4 := hs3.put (vI m3)
    obtain ⟨x, m4, g4, f4⟩ := median_t hK k s.n n hn i' j' r' d m3 _ hs4 hd (by omega) (by omega) (by omega)
    simp only [pp, pp2, EV.own] at f1 f2 f3 f4
    obtain ⟨s', -, hfin⟩ := fin x m4 (by omega) (by omega)
    refine hfin 0 (fun hs' => ?_) rfl
    subst hs'
    rw [go272 hK _ _ rfl]
    by_cases h0 : m4 = 0
    · simp (disch := first | omega | assumption | exact S_wf (by assumption) _ | (simp; done) | (simp; omega)) [c272, decide_eq_true, decide_eq_false, if_pos, if_neg, wI, hw, e1, e2, e3, e4, e5, callK_f, f1, f2, f3, f4, h50, h0]
    · by_cases h12 : m4 = 12
      · simp (disch := first | omega | assumption | exact S_wf (by assumption) _ | (simp; done) | (simp; omega)) [c272, decide_eq_true, decide_eq_false, if_pos, if_neg, wI, hw, e1, e2, e3, e4, e5, callK_f, f1, f2, f3, f4, h50, h12]
      · simp (disch := first | omega | assumption | exact S_wf (by assumption) _ | (simp; done) | (simp; omega)) [c272, decide_eq_true, decide_eq_false, if_pos, if_neg, wI, hw, e1, e2, e3, e4, e5, callK_f, f1, f2, f3, f4, h50, h0, h12]
  · obtain ⟨x, m4, g4, f4⟩ := median_t hK k s.n n hn i j r d 0 _ hs1 hd (by omega) (by omega) (by omega)
    simp only [pp, pp2, EV.own] at f4
    obtain ⟨s', -, hfin⟩ := fin x m4 (by omega) (by omega)
    refine hfin 0 (fun hs' => ?_) rfl
    subst hs'
    rw [go272 hK _ _ rfl]
    by_cases h0 : m4 = 0
    · simp (disch := first | omega | assumption | exact S_wf (by assumption) _ | (simp; done) | (simp; omega)) [c272, decide_eq_true, decide_eq_false, if_pos, if_neg, wI, hw, e1, e2, e3, e4, e5, callK_f, f4, h50, h0]
    · by_cases h12 : m4 = 12
      · simp (disch := first | omega | assumption | exact S_wf (by assumption) _ | (simp; done) | (simp; omega)) [c272, decide_eq_true, decide_eq_false, if_pos, if_neg, wI, hw, e1, e2, e3, e4, e5, callK_f, f4, h50, h12]
      · simp (disch := first | omega | assumption | exact S_wf (by assumption) _ | (simp; done) | (simp; omega)) [c272, decide_eq_true, decide_eq_false, if_pos, if_neg, wI, hw, e1, e2, e3, e4, e5, callK_f, f4, h50, h0, h12]
omit hn in
theorem xor_t (d : Array UInt64) (r : UInt64) (s : St) (h : Sd k ks d (v64 r) s) : ∃ r' : UInt64, K (.func (.func 293) #[] #[]) [.pointer (some (EV.own ks 0))] s = some (v64 r', s.put ks (some [v64 r'])) := by
  have hg := h.g
  have hm := h.m
  have gp : ∀ x, (s.put ks x).get ks = x := fun x => St.get_put_same hg x
  refine ⟨((r ^^^ shlU r 13) ^^^ shrU (r ^^^ shlU r 13) 7) ^^^ shlU ((r ^^^ shlU r 13) ^^^ shrU (r ^^^ shlU r 13) 7) 17, ?_⟩
  rw [go293 hK _ _ rfl]
  simp (disch := first | omega | assumption | exact S_wf (by assumption) _ | (simp; done) | (simp; omega)) [c293, decide_eq_true, decide_eq_false, if_pos, if_neg, hg, hm, gp, may_put, put_put]
omit hn in
theorem np2_fv (l : Nat) (h : 0 < l) (h2 : l < 4294967296) : ∃ x : UInt64, 0 < x.toNat ∧ x.toNat ≤ 2 * l ∧ Fv K 292 [vI l] (v64 x) := by
  have hb : bl l ≤ 32 := by rw [bl_le]; omega
  have hx : (shlU 1 (bl l)).toNat = 2 ^ bl l := by
    rw [shlU_nat, show min (bl l) 64 = bl l by omega, show (1 : UInt64).toNat = 1 from rfl, Nat.one_mul]
    exact Nat.mod_eq_of_lt (Nat.lt_of_le_of_lt (Nat.pow_le_pow_right (by omega) hb) (by decide))
  refine ⟨shlU 1 (bl l), by rw [hx]; exact Nat.two_pow_pos _, ?_, fun s hs => ?_⟩
  · rw [hx]
    have hp := bl_pos h
    have h3 : ¬ l < 2 ^ (bl l - 1) := fun hh => by have := (bl_le l (bl l - 1)).2 hh; omega
    have : 2 ^ bl l = 2 * 2 ^ (bl l - 1) := by
      obtain ⟨q, hq⟩ : ∃ q, bl l = q + 1 := ⟨bl l - 1, by omega⟩
      rw [hq, Nat.pow_succ]; simp; omega
    omega
  · have hc := fun (s : St) (hs : WF s) (pr : Option (List Nat)) => (len_fv hK (UInt64.ofNat l)).q (fun _ => rfl) hs (pr := pr)
    have e1 : ((l : Int) % 18446744073709551616).toNat = l := by omega
    have e2 : (UInt64.ofNat l).toNat = l := by rw [UInt64.toNat_ofNat']; omega
    rw [e2] at hc
    rw [go292 hK _ _ rfl]
    simp (disch := first | omega | assumption | exact S_wf (by assumption) _ | (simp; done) | (simp; omega)) [c292, decide_eq_true, decide_eq_false, if_pos, if_neg, hs, hc, e1]
theorem brk_loop (a l : Nat) (md : UInt64) (hmd : 0 < md.toNat) (hml : md.toNat ≤ 2 * l) (hl : 8 ≤ l) (hb : a + l ≤ n) (e7 e8 : Nat) (hq : e7 = a + l / 4 * 2 - 1) : ∀ (j i : Nat) (d : Array UInt64) (r : UInt64) (s : St), i + j = e7 + 3 → e7 ≤ i → Sd k ks d (v64 r) s → d.size = n →
    ∃ d' r' s', Go.Sort.PermIn a (a + l) d d' ∧ Sd k ks d' (v64 r') s' ∧ Exd (fun j => j = k ∨ j = ks) s s' ∧ ∀ kk : List Fm, M ro K (.lop b271_0) (.bk 0 :: kk) [(0, .slice (some (EV.own k 0)) n 1), (1, vI a), (6, vI l), (7, .pointer (some (EV.own ks 0))), (8, v64 md), (9, vI i)] s = Rk ro K .nrm kk [(0, .slice (some (EV.own k 0)) n 1), (1, vI a), (6, vI l), (7, .pointer (some (EV.own ks 0))), (8, v64 md), (9, vI (e7 + 3 : Nat)), (33, .bool false)] s' := by
  obtain ⟨q, hqq⟩ : ∃ q, q = l / 4 := ⟨_, rfl⟩
  have e2 : (l : Int).tdiv 4 = (q : Int) := by rw [Int.tdiv_eq_ediv_of_nonneg (by omega)]; omega
  have e3 : (a : Int) + (q : Int) * 2 + 1 = ((e7 + 2 : Nat) : Int) := by omega
  intro j
  induction j with
  | zero =>
    intro i d r s h hi hs hd
    have : i = e7 + 3 := by omega
    subst this
    refine ⟨d, r, s, Go.Sort.permIn_refl d _ _, hs, (Ex.refl hs.a.w).d _, fun kk => ?_⟩
    rw [M_lop]
    simp (disch := first | omega | assumption | exact S_wf (by assumption) _ | (simp; done) | (simp; omega)) [Mb _ _ b271_0.eq_1, decide_eq_true, decide_eq_false, if_pos, if_neg, wI, e2, e3]
  | succ j ih =>
    intro i d r s h hi hs hd
    obtain ⟨r', f1⟩ := xor_t hK k ks d r s hs
    have h1 := hs.put (v64 r')
    have x1 : Exd (fun j => j = k ∨ j = ks) s (s.put ks (some [v64 r'])) := (Exd.put hs.a.w hs.g _).mono (fun _ _ h => .inr h)
    obtain ⟨o, ho⟩ : ∃ o, o = (r' &&& (md - 1)).toNat := ⟨_, rfl⟩
    have hm1 : (md - 1).toNat = md.toNat - 1 := by
      rw [UInt64.toNat_sub_of_le _ _ (by rw [UInt64.le_iff_toNat_le]; exact hmd)]; rfl
    have hol : o < 2 * l := by
      have : o ≤ (md - 1).toNat := by rw [ho, UInt64.toNat_and]; exact Nat.and_le_right
      omega
    have hcv : cvO .i64 (some (v64 (r' &&& (md - 1)))) = some (vI o) := by rw [ho]; exact cv_64_I _ (by omega)
    obtain ⟨o2, ho2⟩ : ∃ o2, o2 = if o ≥ l then o - l else o := ⟨_, rfl⟩
    have ho2l : o2 < l := by rw [ho2]; split <;> omega
    obtain ⟨x, hx⟩ : ∃ x, x = a + o2 := ⟨_, rfl⟩
    have e4 : (a : Int) + (o2 : Int) = (x : Int) := by omega
    have hq4 : q * 4 ≤ l ∧ 2 ≤ q := by omega
    have hp := h1.a.put (Go.Sort.swp d i x)
    have h2 : Sd k ks (Go.Sort.swp d i x) (v64 r') ((s.put ks (some [v64 r'])).put k (some (rw6 (Go.Sort.swp d i x)))) :=
      ⟨hp.1, (St.get_put_other _ _ (Ne.symm h1.ne) (St.get_lt h1.a.g)).trans h1.g, h1.m, h1.ne⟩
    have x2 : Exd (fun j => j = k ∨ j = ks) s ((s.put ks (some [v64 r'])).put k (some (rw6 (Go.Sort.swp d i x)))) := x1.trans (Exd.put h1.a.w h1.a.g _) (fun _ _ h => h) (fun _ _ h => .inl h)
    obtain ⟨d', r'', s', t1, t2, t3, t4⟩ := ih (i + 1) _ r' _ (by omega) (by omega) h2 (by simpa using hd)
    refine ⟨d', r'', s', Go.Sort.permIn_trans _ _ _ _ _ (Go.Sort.swp_permIn d a (a + l) i x (by omega) (by omega) (by omega) (by omega) (by omega)) t1, t2, x2.trans t3 (fun _ _ h => h) (fun _ _ h => h), fun kk => ?_⟩
    rw [← t4 kk, M_lop]
    have rx := h1.a.rd (ro := ro) x (by omega)
    have ri := h1.a.rd (ro := ro) i (by omega)
    have hg := h1.a.g
    have hm := h1.a.m
    have gp := h1.a.gp
    have i1 : (i : Int) ≤ ((e7 + 2 : Nat) : Int) := by omega
    simp only [EV.own] at f1
    by_cases hol2 : l ≤ o
    · have e5 : (o : Int) - (l : Int) = (o2 : Int) := by rw [ho2, if_pos hol2]; omega
      simp (disch := first | omega | assumption | exact S_wf (by assumption) _ | (simp; done) | (simp; omega)) [Mb _ _ b271_0.eq_1, decide_eq_true, decide_eq_false, if_pos, if_neg, wI, e2, e3, i1, callK_f, f1, hcv, hol2, e5, e4, rx, ri, hg, hm, gp, may_put, put_put, swp_rw]
    · have e5 : o2 = o := by rw [ho2, if_neg hol2]
      subst e5
      simp (disch := first | omega | assumption | exact S_wf (by assumption) _ | (simp; done) | (simp; omega)) [Mb _ _ b271_0.eq_1, decide_eq_true, decide_eq_false, if_pos, if_neg, wI, e2, e3, i1, callK_f, f1, hcv, hol2, e4, rx, ri, hg, hm, gp, may_put, put_put, swp_rw]
omit hn in
theorem brk_t (hn : n < 4294967296) (a b : Nat) (d : Array UInt64) (s : St) (h : At k d s) (hd : d.size = n) (hab : a + 8 ≤ b) (hb : b ≤ n) :
    ∃ d' s', Go.Sort.PermIn a b d d' ∧ Tn k d' s s' ∧ K (.func (.func 271) #[] #[]) [.slice (some (EV.own k 0)) n 1, vI a, vI b] s = some (.tuple #[], s') := by
  have hw := h.w
  obtain ⟨l, hl⟩ : ∃ l, l = b - a := ⟨_, rfl⟩
  obtain ⟨q, hq⟩ : ∃ q, q = l / 4 := ⟨_, rfl⟩
  obtain ⟨i, hi⟩ : ∃ i, i = a + q * 2 - 1 := ⟨_, rfl⟩
  have e1 : (b : Int) - (a : Int) = (l : Int) := by omega
  have e2 : (l : Int).tdiv 4 = (q : Int) := by rw [Int.tdiv_eq_ediv_of_nonneg (by omega)]; omega
  have e3 : (a : Int) + (q : Int) * 2 - 1 = (i : Int) := by omega
  have e0 : ((l : Int) % 18446744073709551616).toNat = l := by omega
  obtain ⟨md, m1, m2, hmd⟩ := np2_fv hK l (by omega) (by omega)
  have hc := fun (s : St) (hs : WF s) (pr : Option (List Nat)) => hmd.q (fun _ => rfl) hs (pr := pr)
  have hlt := St.get_lt h.g
  have hs1 : Sd k s.n d (v64 (UInt64.ofNat l)) (S s [some [v64 (UInt64.ofNat l)]]) := by
    refine ⟨⟨by rw [S_old _ _ hlt]; exact h.g, by rw [((S_ex hw [some [v64 (UInt64.ofNat l)]]).d (fun _ => False)).may]; exact h.m, S_wf hw _⟩, by rw [S_get0]; rfl, S_may0 hw _, by omega⟩
  obtain ⟨d', r', s', t1, t2, t3, t4⟩ := brk_loop hK k s.n n hn a l md m1 m2 (by omega) (by omega) i 0 (by rw [hi, hq]) 3 i d _ _ (by omega) (by omega) hs1 hd
  have hal : a + l = b := by omega
  rw [hal] at t1
  refine ⟨d', s', t1, ⟨t2.a, ((S_ex hw [some [v64 (UInt64.ofNat l)]]).d (· = k)).trans t3 (fun _ _ h => h) (fun j hj h => by omega)⟩, ?_⟩
  rw [go271 hK _ _ rfl]
  simp only [EV.own] at t4
  simp (disch := first | omega | assumption | exact S_wf (by assumption) _ | (simp; done) | (simp; omega)) [c271, decide_eq_true, decide_eq_false, if_pos, if_neg, wI, hw, e0, e1, e2, e3, hc, t4]
theorem rev_loop (a b : Nat) (hb : b ≤ n) : ∀ (m i j : Nat) (d : Array UInt64) (s : St), j - i ≤ m → a ≤ i → j < b → At k d s → d.size = n →
    ∃ d' s', Go.Sort.PermIn a b d d' ∧ Tn k d' s s' ∧ M ro K (.lop b273_0) [.bk 0, .fn []] [(0, .slice (some (EV.own k 0)) n 1), (6, vI i), (7, vI j)] s = some (.tuple #[], s') := by
  intro m
  induction m with
  | zero =>
    intro i j d s h hi hj hs hd
    refine ⟨d, s, Go.Sort.permIn_refl d _ _, hs.refl, ?_⟩
    rw [M_lop]
    have : ¬ i < j := by omega
    simp (disch := first | omega | assumption | exact S_wf (by assumption) _ | (simp; done) | (simp; omega)) [Mb _ _ b273_0.eq_1, decide_eq_true, decide_eq_false, if_pos, if_neg, this]
  | succ m ih =>
    intro i j d s h hi hj hs hd
    by_cases hij : i < j
    · have hg := hs.g
      have hm := hs.m
      have gp := hs.gp
      have rx := hs.rd (ro := ro) i (by omega)
      have ry := hs.rd (ro := ro) j (by omega)
      have hp := hs.put (Go.Sort.swp d i j)
      obtain ⟨d', s', t1, t2, t3⟩ := ih (i + 1) (j - 1) _ _ (by omega) (by omega) (by omega) hp.1 (by simpa using hd)
      refine ⟨d', s', Go.Sort.permIn_trans _ _ _ _ _ (Go.Sort.swp_permIn d a b i j (by omega) (by omega) (by omega) (by omega) (by omega)) t1, hp.trans t2, ?_⟩
      rw [← t3, M_lop]
      have e1 : (j : Int) - 1 = ((j - 1 : Nat) : Int) := by omega
      simp (disch := first | omega | assumption | exact S_wf (by assumption) _ | (simp; done) | (simp; omega)) [Mb _ _ b273_0.eq_1, decide_eq_true, decide_eq_false, if_pos, if_neg, wI, e1, hij, rx, ry, hg, hm, gp, may_put, put_put, swp_rw]
    · refine ⟨d, s, Go.Sort.permIn_refl d _ _, hs.refl, ?_⟩
      rw [M_lop]
      simp (disch := first | omega | assumption | exact S_wf (by assumption) _ | (simp; done) | (simp; omega)) [Mb _ _ b273_0.eq_1, decide_eq_true, decide_eq_false, if_pos, if_neg, hij]
theorem rev_t (a b : Nat) (d : Array UInt64) (s : St) (h : At k d s) (hd : d.size = n) (hab : a < b) (hb : b ≤ n) :
    ∃ d' s', Go.Sort.PermIn a b d d' ∧ Tn k d' s s' ∧ K (.func (.func 273) #[] #[]) [.slice (some (EV.own k 0)) n 1, vI a, vI b] s = some (.tuple #[], s') := by
  obtain ⟨d', s', t1, t2, t3⟩ := rev_loop hK k n hn a b hb (b - 1 - a) a (b - 1) d s (by omega) (by omega) (by omega) h hd
  refine ⟨d', s', t1, t2, ?_⟩
  rw [go273 hK _ _ rfl]
  have e1 : (b : Int) - 1 = ((b - 1 : Nat) : Int) := by omega
  simp only [EV.own] at t3
  simp (disch := first | omega | assumption | exact S_wf (by assumption) _ | (simp; done) | (simp; omega)) [c273, decide_eq_true, decide_eq_false, if_pos, if_neg, wI, e1, t3]
end
end Go.Proofs.YtakdnpafdadblaaGreat.EV.W
namespace Go.Proofs.YtakdnpafdadblaaGreat.EV.W
open Go
set_option maxRecDepth 8000
set_option maxHeartbeats 1000000
variable {ro : Addr → Option Value} {K : H}
theorem scan_eq (d : Array UInt64) (b i : Nat) : Go.Sort.scanSorted lt6 d b i = if (decide (i < b) && !lt6 (g6 d i) (g6 d (i - 1))) = true then Go.Sort.scanSorted lt6 d b (i + 1) else i := by
  rw [Go.Sort.scanSorted]; rfl
theorem up_eq (d : Array UInt64) (b j : Nat) : Go.Sort.shiftUp lt6 b j d = if j < b then (if (!lt6 (g6 d j) (g6 d (j - 1))) = true then d else Go.Sort.shiftUp lt6 b (j + 1) (Go.Sort.swp d j (j - 1))) else d := by
  rw [Go.Sort.shiftUp]; rfl
section
variable (hK : Std ro K) (k n a b : Nat) (hn : n < 4294967296) (ha : a < 4294967296) (hb : b ≤ n)
include hK hn ha hb
theorem scan_loop (t : Nat) : ∀ (m i : Nat) (d : Array UInt64) (s : St), b - i ≤ m → 0 < i → i < 4294967297 → At k d s → d.size = n →
    Go.Sort.scanSorted lt6 d b i < 4294967297 ∧ i ≤ Go.Sort.scanSorted lt6 d b i ∧ ∀ (kk : List Fm) (ex : Env), M ro K (.lop b274_0) (.bk 2 :: kk) ((0, .slice (some (EV.own k 0)) n 1) :: (1, vI a) :: (2, vI b) :: (7, vI i) :: (8, vI t) :: ex) s = Rk ro K .nrm kk [(0, .slice (some (EV.own k 0)) n 1), (1, vI a), (2, vI b), (7, vI (Go.Sort.scanSorted lt6 d b i)), (8, vI t), (32, .bool false)] s := by
  intro m
  induction m with
  | zero =>
    intro i d s hm h0 hi h hd
    rw [scan_eq, if_neg (by simp; omega)]
    refine ⟨hi, Nat.le_refl _, fun kk ex => ?_⟩
    rw [M_lop]
    have : ¬ i < b := by omega
    simp (disch := first | omega | assumption | exact S_wf (by assumption) _ | (simp; done) | (simp; omega)) [Mb _ _ b274_0.eq_1, decide_eq_true, decide_eq_false, if_pos, if_neg, this]
  | succ m ih =>
    intro i d s hm h0 hi h hd
    have hw := h.w
    have hl := fun (x y : UInt64) (pr : Option (List Nat)) => less_q hK x y hw pr
    have e1 : (i : Int) - 1 = ((i - 1 : Nat) : Int) := by omega
    have hq := scan_eq d b i
    by_cases hib : i < b
    · have r1 := h.rd (ro := ro) i (by omega)
      have r0 := h.rd (ro := ro) (i - 1) (by omega)
      cases hc : lt6 (g6 d i) (g6 d (i - 1)) with
      | true =>
        rw [if_neg (by simp [hc])] at hq
        rw [hq]
        refine ⟨hi, Nat.le_refl _, fun kk ex => ?_⟩
        rw [M_lop]
        simp (disch := first | omega | assumption | exact S_wf (by assumption) _ | (simp; done) | (simp; omega)) [Mb _ _ b274_0.eq_1, decide_eq_true, decide_eq_false, if_pos, if_neg, wI, hib, e1, hl, r1, r0, hc]
      | false =>
        rw [if_pos (by simp [hib, hc])] at hq
        rw [hq]
        obtain ⟨q1, q2, q3⟩ := ih (i + 1) d s (by omega) (by omega) (by omega) h hd
        refine ⟨q1, by omega, fun kk ex => ?_⟩
        rw [← q3 kk [], M_lop]
        simp (disch := first | omega | assumption | exact S_wf (by assumption) _ | (simp; done) | (simp; omega)) [Mb _ _ b274_0.eq_1, decide_eq_true, decide_eq_false, if_pos, if_neg, wI, hib, e1, hl, r1, r0, hc]
    · rw [if_neg (by simp; omega)] at hq
      rw [hq]
      refine ⟨hi, Nat.le_refl _, fun kk ex => ?_⟩
      rw [M_lop]
      simp (disch := first | omega | assumption | exact S_wf (by assumption) _ | (simp; done) | (simp; omega)) [Mb _ _ b274_0.eq_1, decide_eq_true, decide_eq_false, if_pos, if_neg, hib]
theorem down_loop (t i : Nat) : ∀ (j : Nat) (d : Array UInt64) (s : St), At k d s → d.size = n → j < n →
    ∃ s' j' x, (x = 65 ∨ x = 78) ∧ (x = 65 ∨ x = 78) ∧ Tn k (Go.Sort.shiftDown lt6 j d) s s' ∧ (Go.Sort.shiftDown lt6 j d).size = n ∧ ∀ kk : List Fm, M ro K (.lop b274_1) (.bk 4 :: kk) [(0, .slice (some (EV.own k 0)) n 1), (1, vI a), (2, vI b), (7, vI i), (8, vI t), (9, vI j)] s = Rk ro K .nrm kk [(0, .slice (some (EV.own k 0)) n 1), (1, vI a), (2, vI b), (7, vI i), (8, vI t), (9, vI (j' : Nat)), (x, .bool (decide (x = 78)))] s' := by
  intro j
  induction j with
  | zero =>
    intro d s h hd hj
    refine ⟨s, 0, 65, .inl rfl, .inl rfl, h.refl, hd, fun kk => ?_⟩
    rw [M_lop]
    simp (disch := first | omega | assumption | exact S_wf (by assumption) _ | (simp; done) | (simp; omega)) [Mb _ _ b274_1.eq_1, decide_eq_true, decide_eq_false, if_pos, if_neg]
  | succ j ih =>
    intro d s h hd hj
    have hw := h.w
    have hg := h.g
    have hm := h.m
    have gp := h.gp
    have hl := fun (x y : UInt64) (pr : Option (List Nat)) => less_q hK x y hw pr
    have r1 := h.rd (ro := ro) (j + 1) (by omega)
    have r0 := h.rd (ro := ro) j (by omega)
    rw [show Go.Sort.shiftDown lt6 (j + 1) d = if (!lt6 (g6 d (j + 1)) (g6 d j)) = true then d else Go.Sort.shiftDown lt6 j (Go.Sort.swp d (j + 1) j) from rfl]
    cases hc : lt6 (g6 d (j + 1)) (g6 d j) with
    | false =>
      rw [if_pos (by simp)]
      refine ⟨s, j + 1, 78, .inr rfl, .inr rfl, h.refl, hd, fun kk => ?_⟩
      rw [M_lop]
      simp (disch := first | omega | assumption | exact S_wf (by assumption) _ | (simp; done) | (simp; omega)) [Mb _ _ b274_1.eq_1, decide_eq_true, decide_eq_false, if_pos, if_neg, wI, hl, r1, r0, hc]
    | true =>
      rw [if_neg (by simp)]
      have hp := h.put (Go.Sort.swp d (j + 1) j)
      obtain ⟨s', j', x, q1, q0, q2, q3, q4⟩ := ih _ _ hp.1 (by simpa using hd) (by omega)
      refine ⟨s', j', x, q1, q0, hp.trans q2, q3, fun kk => ?_⟩
      rw [← q4 kk, M_lop]
      simp (disch := first | omega | assumption | exact S_wf (by assumption) _ | (simp; done) | (simp; omega)) [Mb _ _ b274_1.eq_1, decide_eq_true, decide_eq_false, if_pos, if_neg, wI, hl, r1, r0, hc, hg, hm, gp, may_put, put_put, swp_rw]
theorem up_loop (t i : Nat) : ∀ (m j : Nat) (d : Array UInt64) (s : St), b - j ≤ m → 0 < j → j < 4294967298 → At k d s → d.size = n →
    ∃ s' j' x, (x = 103 ∨ x = 116) ∧ Tn k (Go.Sort.shiftUp lt6 b j d) s s' ∧ (Go.Sort.shiftUp lt6 b j d).size = n ∧ ∀ kk : List Fm, M ro K (.lop b274_2) (.bk 6 :: kk) [(0, .slice (some (EV.own k 0)) n 1), (1, vI a), (2, vI b), (7, vI i), (8, vI t), (10, vI j)] s = Rk ro K .nrm kk [(0, .slice (some (EV.own k 0)) n 1), (1, vI a), (2, vI b), (7, vI i), (8, vI t), (10, vI (j' : Nat)), (x, .bool (decide (x = 116)))] s' := by
  intro m
  induction m with
  | zero =>
    intro j d s hm h0 hj h hd
    rw [Go.Sort.shiftUp, if_neg (by omega)]
    refine ⟨s, j, 103, .inl rfl, h.refl, hd, fun kk => ?_⟩
    rw [M_lop]
    have : ¬ j < b := by omega
    simp (disch := first | omega | assumption | exact S_wf (by assumption) _ | (simp; done) | (simp; omega)) [Mb _ _ b274_2.eq_1, decide_eq_true, decide_eq_false, if_pos, if_neg, this]
  | succ m ih =>
    intro j d s hm h0 hj h hd
    have hw := h.w
    have hg := h.g
    have hm' := h.m
    have gp := h.gp
    have hl := fun (x y : UInt64) (pr : Option (List Nat)) => less_q hK x y hw pr
    have e1 : (j : Int) - 1 = ((j - 1 : Nat) : Int) := by omega
    have hq := up_eq d b j
    by_cases hjb : j < b
    · rw [if_pos hjb] at hq
      have r1 := h.rd (ro := ro) j (by omega)
      have r0 := h.rd (ro := ro) (j - 1) (by omega)
      cases hc : lt6 (g6 d j) (g6 d (j - 1)) with
      | false =>
        rw [if_pos (by simp [hc])] at hq
        rw [hq]
        refine ⟨s, j, 116, .inr rfl, h.refl, hd, fun kk => ?_⟩
        rw [M_lop]
        simp (disch := first | omega | assumption | exact S_wf (by assumption) _ | (simp; done) | (simp; omega)) [Mb _ _ b274_2.eq_1, decide_eq_true, decide_eq_false, if_pos, if_neg, wI, hjb, e1, hl, r1, r0, hc]
      | true =>
        rw [if_neg (by simp [hc])] at hq
        rw [hq]
        have hp := h.put (Go.Sort.swp d j (j - 1))
        obtain ⟨s', j', x, q1, q2, q3, q4⟩ := ih (j + 1) _ _ (by omega) (by omega) (by omega) hp.1 (by simpa using hd)
        refine ⟨s', j', x, q1, hp.trans q2, q3, fun kk => ?_⟩
        rw [← q4 kk, M_lop]
        simp (disch := first | omega | assumption | exact S_wf (by assumption) _ | (simp; done) | (simp; omega)) [Mb _ _ b274_2.eq_1, decide_eq_true, decide_eq_false, if_pos, if_neg, wI, hjb, e1, hl, r1, r0, hc, hg, hm', gp, may_put, put_put, swp_rw]
    · rw [if_neg hjb] at hq
      rw [hq]
      refine ⟨s, j, 103, .inl rfl, h.refl, hd, fun kk => ?_⟩
      rw [M_lop]
      simp (disch := first | omega | assumption | exact S_wf (by assumption) _ | (simp; done) | (simp; omega)) [Mb _ _ b274_2.eq_1, decide_eq_true, decide_eq_false, if_pos, if_neg, hjb]
theorem pins_loop (ha2 : a < b) : ∀ (st i t : Nat) (d : Array UInt64) (s : St), t + st = 5 → a < i → i ≤ b → i < 4294967297 → At k d s → d.size = n →
    ∃ s', Tn k (Go.Sort.partialIns lt6 a b st i d).1 s s' ∧ (Go.Sort.partialIns lt6 a b st i d).1.size = n ∧ ((∃ i' : Nat, (Go.Sort.partialIns lt6 a b st i d).2 = false ∧ ∀ kk : List Fm, M ro K (.lop b274_3) (.bk 0 :: kk) [(0, .slice (some (EV.own k 0)) n 1), (1, vI a), (2, vI b), (7, vI i), (8, vI t)] s = Rk ro K .nrm kk [(0, .slice (some (EV.own k 0)) n 1), (1, vI a), (2, vI b), (7, vI i'), (8, vI 5), (14, .bool false)] s') ∨
      ∀ kk : List Fm, M ro K (.lop b274_3) (.bk 0 :: kk) [(0, .slice (some (EV.own k 0)) n 1), (1, vI a), (2, vI b), (7, vI i), (8, vI t)] s = Rk ro K .ret kk [(6, .bool (Go.Sort.partialIns lt6 a b st i d).2)] s') := by
  intro st
  induction st with
  | zero =>
    intro i t d s ht hai hib0 hi h hd
    have : t = 5 := by omega
    subst this
    refine ⟨s, h.refl, hd, .inl ⟨i, rfl, fun kk => ?_⟩⟩
    rw [M_lop]
    simp (disch := first | omega | assumption | exact S_wf (by assumption) _ | (simp; done) | (simp; omega)) [Mb _ _ b274_3.eq_1, decide_eq_true, decide_eq_false, if_pos, if_neg]
  | succ st ih =>
    intro i t d s ht hai hib0 hi h hd
    obtain ⟨q1, q2, q3⟩ := scan_loop hK k n a b hn ha hb t (b - i) i d s (by omega) (by omega) hi h hd
    obtain ⟨i', hi'⟩ : ∃ i', i' = Go.Sort.scanSorted lt6 d b i := ⟨_, rfl⟩
    rw [← hi'] at q1 q2 q3
    have hle : i' ≤ b ∨ i' = i := by
      have : ∀ (m i : Nat), b - i ≤ m → Go.Sort.scanSorted lt6 d b i ≤ b ∨ Go.Sort.scanSorted lt6 d b i = i := by
        intro m
        induction m with
        | zero => intro i hm; rw [scan_eq, if_neg (by simp; omega)]; exact .inr rfl
        | succ m ihm =>
          intro i hm
          rw [scan_eq]
          split
          · rename_i hh
            simp at hh
            rcases ihm (i + 1) (by omega) with h1 | h1
            · exact .inl h1
            · rw [h1]; omega
          · exact .inr rfl
      rw [hi']; exact this _ i (Nat.le_refl _)
    rw [Go.Sort.partialIns]
    simp only [← hi']
    have e1 : (i' : Int) - 1 = ((i' - 1 : Nat) : Int) := by omega
    have t5 : (t : Int) < 5 := by omega
    simp only [EV.own] at q3
    by_cases hib : i' = b
    · rw [if_pos hib]
      refine ⟨s, h.refl, hd, .inr fun kk => ?_⟩
      rw [M_lop]
      simp (disch := first | omega | assumption | exact S_wf (by assumption) _ | (simp; done) | (simp; omega)) [Mb _ _ b274_3.eq_1, decide_eq_true, decide_eq_false, if_pos, if_neg, wI, t5, q3, hib]
    rw [if_neg hib]
    have hib' : ¬ (i' : Int) = (b : Int) := by omega
    have e50 : ((b : Int) - (a : Int) < 50) = (b - a < 50) := propext (by omega)
    by_cases h50 : b - a < 50
    · rw [if_pos h50]
      refine ⟨s, h.refl, hd, .inr fun kk => ?_⟩
      rw [M_lop]
      simp (disch := first | omega | assumption | exact S_wf (by assumption) _ | (simp; done) | (simp; omega)) [Mb _ _ b274_3.eq_1, decide_eq_true, decide_eq_false, if_pos, if_neg, wI, t5, q3, hib', e50, h50]
    rw [if_neg h50]
    have hlt : i' < b ∨ b < i' := by omega
    rcases hlt with hlt | hgt
    · have hg := h.g
      have hm := h.m
      have gp := h.gp
      have r1 := h.rd (ro := ro) i' (by omega)
      have r0 := h.rd (ro := ro) (i' - 1) (by omega)
      have hp := h.put (Go.Sort.swp d i' (i' - 1))
      obtain ⟨d1, hd1⟩ : ∃ d1, d1 = Go.Sort.swp d i' (i' - 1) := ⟨_, rfl⟩
      have hd1n : d1.size = n := by rw [hd1]; simpa using hd
      rw [← hd1] at hp
      simp only [← hd1]
      obtain ⟨s0, hs0⟩ : ∃ s0, s0 = s.put k (some (rw6 d1)) := ⟨_, rfl⟩
      rw [← hs0] at hp
      obtain ⟨s2, j2, x2, u0, u1, u2, u3, u4⟩ := down_loop hK k n a b hn ha hb t i' (i' - 1) d1 s0 hp.1 hd1n (by omega)
      simp only [EV.own] at u4
      have g1 : ((i' : Int) - (a : Int) ≥ 2) = (2 ≤ i' - a) := propext (by omega)
      have g2 : ((b : Int) - (i' : Int) ≥ 2) = (2 ≤ b - i') := propext (by omega)
      have g1' : ((2 : Int) ≤ (i' : Int) - (a : Int)) = (2 ≤ i' - a) := propext (by omega)
      have g2' : ((2 : Int) ≤ (b : Int) - (i' : Int)) = (2 ≤ b - i') := propext (by omega)
      obtain ⟨d2, hd2⟩ : ∃ d2, d2 = (if i' - a ≥ 2 then Go.Sort.shiftDown lt6 (i' - 1) d1 else d1) := ⟨_, rfl⟩
      obtain ⟨s2', hs2'⟩ : ∃ s2', s2' = if i' - a ≥ 2 then s2 else s0 := ⟨_, rfl⟩
      have T2 : Tn k d2 s0 s2' ∧ d2.size = n := by
        rw [hd2, hs2']; split
        · exact ⟨u2, u3⟩
        · exact ⟨hp.1.refl, hd1n⟩
      simp only [← hd2]
      obtain ⟨s3, j3, x3, v1, v2, v3, v4⟩ := up_loop hK k n a b hn ha hb t i' (b - (i' + 1)) (i' + 1) d2 s2' (by omega) (by omega) (by omega) T2.1.1 T2.2
      simp only [EV.own] at v4
      push_cast at v4
      obtain ⟨d3, hd3⟩ : ∃ d3, d3 = (if b - i' ≥ 2 then Go.Sort.shiftUp lt6 b (i' + 1) d2 else d2) := ⟨_, rfl⟩
      obtain ⟨s3', hs3'⟩ : ∃ s3', s3' = if b - i' ≥ 2 then s3 else s2' := ⟨_, rfl⟩
      have T3 : Tn k d3 s2' s3' ∧ d3.size = n := by
        rw [hd3, hs3']; split
        · exact ⟨v2, v3⟩
        · exact ⟨T2.1.1.refl, T2.2⟩
      simp only [← hd3]
      obtain ⟨s4, w1, w2, w3⟩ := ih i' (t + 1) d3 s3' (by omega) (by omega) (by omega) q1 T3.1.1 T3.2
      have step : ∀ kk : List Fm, M ro K (.lop b274_3) (.bk 0 :: kk) [(0, .slice (some (EV.own k 0)) n 1), (1, vI a), (2, vI b), (7, vI i), (8, vI t)] s = M ro K (.lop b274_3) (.bk 0 :: kk) [(0, .slice (some (EV.own k 0)) n 1), (1, vI a), (2, vI b), (7, vI i'), (8, vI (t + 1 : Nat))] s3' := by
        intro kk
        rw [M_lop, hs3']
        by_cases c1 : 2 ≤ i' - a
        · rw [if_pos c1] at hs2'
          subst hs2'
          by_cases c2 : 2 ≤ b - i'
          · rw [if_pos c2]
            rcases u0 with rfl | rfl <;> rcases v1 with rfl | rfl <;> simp (disch := first | omega | assumption | exact S_wf (by assumption) _ | (simp; done) | (simp; omega)) [Mb _ _ b274_3.eq_1, decide_eq_true, decide_eq_false, if_pos, if_neg, wI, t5, q3, hib', e50, h50, e1, r1, r0, hg, hm, gp, may_put, put_put, swp_rw, ← hd1, ← hs0, g1', g2', c1, c2, u4, v4]
          · rw [if_neg c2]
            rcases u0 with rfl | rfl <;> simp (disch := first | omega | assumption | exact S_wf (by assumption) _ | (simp; done) | (simp; omega)) [Mb _ _ b274_3.eq_1, decide_eq_true, decide_eq_false, if_pos, if_neg, wI, t5, q3, hib', e50, h50, e1, r1, r0, hg, hm, gp, may_put, put_put, swp_rw, ← hd1, ← hs0, g1', g2', c1, c2, u4]
        · rw [if_neg c1] at hs2'
          subst hs2'
          by_cases c2 : 2 ≤ b - i'
          · rw [if_pos c2]
            rcases v1 with rfl | rfl <;> simp (disch := first | omega | assumption | exact S_wf (by assumption) _ | (simp; done) | (simp; omega)) [Mb _ _ b274_3.eq_1, decide_eq_true, decide_eq_false, if_pos, if_neg, wI, t5, q3, hib', e50, h50, e1, r1, r0, hg, hm, gp, may_put, put_put, swp_rw, ← hd1, ← hs0, g1', g2', c1, c2, v4]
          · exfalso; omega
      refine ⟨s4, hp.trans (T2.1.trans (T3.1.trans w1)), w2, ?_⟩
      rcases w3 with ⟨i'', w4, w5⟩ | w5
      · exact .inl ⟨i'', w4, fun kk => (step kk).trans (w5 kk)⟩
      · exact .inr fun kk => (step kk).trans (w5 kk)
    · exfalso; omega
omit ha in
theorem pins_t (d : Array UInt64) (s : St) (ha2 : a < b) (h : At k d s) (hd : d.size = n) :
    ∃ s', Tn k (Go.Sort.partialInsertionSort lt6 d a b).1 s s' ∧ (Go.Sort.partialInsertionSort lt6 d a b).1.size = n ∧ K (.func (.func 274) #[] #[]) [.slice (some (EV.own k 0)) n 1, vI a, vI b] s = some (.bool (Go.Sort.partialInsertionSort lt6 d a b).2, s') := by
  obtain ⟨s', t1, t2, t3⟩ := pins_loop hK k n a b hn (by omega) hb ha2 5 (a + 1) 0 d s rfl (by omega) (by omega) (by omega) h hd
  refine ⟨s', t1, t2, ?_⟩
  rw [go274 hK _ _ rfl]
  rcases t3 with ⟨i', t3, t4⟩ | t4
  · unfold Go.Sort.partialInsertionSort
    rw [t3]
    simp only [EV.own] at t4
    push_cast at t4
    simp (disch := first | omega | assumption | exact S_wf (by assumption) _ | (simp; done) | (simp; omega)) [c274, decide_eq_true, decide_eq_false, if_pos, if_neg, wI, t4]
  · unfold Go.Sort.partialInsertionSort
    simp only [EV.own] at t4
    push_cast at t4
    simp (disch := first | omega | assumption | exact S_wf (by assumption) _ | (simp; done) | (simp; omega)) [c274, decide_eq_true, decide_eq_false, if_pos, if_neg, wI, t4]
end
end Go.Proofs.YtakdnpafdadblaaGreat.EV.W
namespace Go.Proofs.YtakdnpafdadblaaGreat.EV.W
open Go
set_option maxRecDepth 8000
set_option maxHeartbeats 1000000
variable {ro : Addr → Option Value} {K : H}
theorem sup_eq (p : UInt64 → Bool) (d : Array UInt64) (j i : Nat) : Go.Sort.scanUp p d j i = if (decide (i ≤ j) && p (g6 d i)) = true then Go.Sort.scanUp p d j (i + 1) else i := by
  rw [Go.Sort.scanUp]; rfl
theorem sdn_eq (p : UInt64 → Bool) (d : Array UInt64) (i j : Nat) : Go.Sort.scanDown p d i (j + 1) = if (decide (i ≤ j + 1) && p (g6 d (j + 1))) = true then Go.Sort.scanDown p d i j else j + 1 := rfl
theorem sup_ge (p : UInt64 → Bool) (d : Array UInt64) (j : Nat) : ∀ (m i : Nat), j + 1 - i ≤ m → i ≤ Go.Sort.scanUp p d j i ∧ (Go.Sort.scanUp p d j i ≤ j + 1 ∨ Go.Sort.scanUp p d j i = i) := by
  intro m
  induction m with
  | zero => intro i h; rw [sup_eq, if_neg (by simp; omega)]; exact ⟨Nat.le_refl _, .inr rfl⟩
  | succ m ih =>
    intro i h
    rw [sup_eq]
    split
    · rename_i hh
      simp at hh
      have := ih (i + 1) (by omega)
      omega
    · exact ⟨Nat.le_refl _, .inr rfl⟩
theorem sdn_le (p : UInt64 → Bool) (d : Array UInt64) (i : Nat) : ∀ j, Go.Sort.scanDown p d i j ≤ j := by
  intro j
  induction j with
  | zero => exact Nat.le_refl _
  | succ j ih => rw [sdn_eq]; split <;> omega
section
variable (hK : Std ro K) (k n a : Nat) (hn : n < 4294967296) (ha : a < n)
include hK hn ha
theorem pt_up0 (d : Array UInt64) (s : St) (h : At k d s) (hd : d.size = n) (j : Nat) (hj : j < n) : ∀ (m i : Nat), j + 1 - i ≤ m → i < 4294967297 → ∀ (kk : List Fm) (ex : Env), M ro K (.lop b277_0) (.bk 0 :: kk) ((0, .slice (some (EV.own k 0)) n 1) :: (1, vI a) :: (10, vI i) :: (11, vI j) :: ex) s = Rk ro K .nrm kk [(0, .slice (some (EV.own k 0)) n 1), (1, vI a), (10, vI (Go.Sort.scanUp (fun x => lt6 x (g6 d a)) d j i : Nat)), (11, vI j), (43, .bool false)] s := by
  have hw := h.w
  have hl := fun (x y : UInt64) (pr : Option (List Nat)) => less_q hK x y hw pr
  have ra := h.rd (ro := ro) a (by omega)
  intro m
  induction m with
  | zero =>
    intro i hm hi kk ex
    rw [sup_eq, if_neg (by simp; omega), M_lop]
    have : ¬ i ≤ j := by omega
    simp (disch := first | omega | assumption | exact S_wf (by assumption) _ | (simp; done) | (simp; omega)) [Mb _ _ b277_0.eq_1, decide_eq_true, decide_eq_false, if_pos, if_neg, this]
  | succ m ih =>
    intro i hm hi kk ex
    have hq := sup_eq (fun x => lt6 x (g6 d a)) d j i
    by_cases hij : i ≤ j
    · have ri := h.rd (ro := ro) i (by omega)
      cases hc : lt6 (g6 d i) (g6 d a) with
      | true =>
        rw [if_pos (by simp [hc, hij])] at hq
        rw [hq, ← ih (i + 1) (by omega) (by omega) kk [], M_lop]
        simp (disch := first | omega | assumption | exact S_wf (by assumption) _ | (simp; done) | (simp; omega)) [Mb _ _ b277_0.eq_1, decide_eq_true, decide_eq_false, if_pos, if_neg, wI, hij, hl, ra, ri, hc]
      | false =>
        rw [if_neg (by simp [hc])] at hq
        rw [hq, M_lop]
        simp (disch := first | omega | assumption | exact S_wf (by assumption) _ | (simp; done) | (simp; omega)) [Mb _ _ b277_0.eq_1, decide_eq_true, decide_eq_false, if_pos, if_neg, wI, hij, hl, ra, ri, hc]
    · rw [if_neg (by simp; omega)] at hq
      rw [hq, M_lop]
      simp (disch := first | omega | assumption | exact S_wf (by assumption) _ | (simp; done) | (simp; omega)) [Mb _ _ b277_0.eq_1, decide_eq_true, decide_eq_false, if_pos, if_neg, hij]
theorem pt_up2 (d : Array UInt64) (s : St) (h : At k d s) (hd : d.size = n) (j : Nat) (hj : j < n) : ∀ (m i : Nat), j + 1 - i ≤ m → i < 4294967297 → ∀ (kk : List Fm) (ex : Env), M ro K (.lop b277_2) (.bk 6 :: kk) ((0, .slice (some (EV.own k 0)) n 1) :: (1, vI a) :: (10, vI i) :: (11, vI j) :: ex) s = Rk ro K .nrm kk [(0, .slice (some (EV.own k 0)) n 1), (1, vI a), (10, vI (Go.Sort.scanUp (fun x => lt6 x (g6 d a)) d j i : Nat)), (11, vI j), (112, .bool false)] s := by
  have hw := h.w
  have hl := fun (x y : UInt64) (pr : Option (List Nat)) => less_q hK x y hw pr
  have ra := h.rd (ro := ro) a (by omega)
  intro m
  induction m with
  | zero =>
    intro i hm hi kk ex
    rw [sup_eq, if_neg (by simp; omega), M_lop]
    have : ¬ i ≤ j := by omega
    simp (disch := first | omega | assumption | exact S_wf (by assumption) _ | (simp; done) | (simp; omega)) [Mb _ _ b277_2.eq_1, decide_eq_true, decide_eq_false, if_pos, if_neg, this]
  | succ m ih =>
    intro i hm hi kk ex
    have hq := sup_eq (fun x => lt6 x (g6 d a)) d j i
    by_cases hij : i ≤ j
    · have ri := h.rd (ro := ro) i (by omega)
      cases hc : lt6 (g6 d i) (g6 d a) with
      | true =>
        rw [if_pos (by simp [hc, hij])] at hq
        rw [hq, ← ih (i + 1) (by omega) (by omega) kk [], M_lop]
        simp (disch := first | omega | assumption | exact S_wf (by assumption) _ | (simp; done) | (simp; omega)) [Mb _ _ b277_2.eq_1, decide_eq_true, decide_eq_false, if_pos, if_neg, wI, hij, hl, ra, ri, hc]
      | false =>
        rw [if_neg (by simp [hc])] at hq
        rw [hq, M_lop]
        simp (disch := first | omega | assumption | exact S_wf (by assumption) _ | (simp; done) | (simp; omega)) [Mb _ _ b277_2.eq_1, decide_eq_true, decide_eq_false, if_pos, if_neg, wI, hij, hl, ra, ri, hc]
    · rw [if_neg (by simp; omega)] at hq
      rw [hq, M_lop]
      simp (disch := first | omega | assumption | exact S_wf (by assumption) _ | (simp; done) | (simp; omega)) [Mb _ _ b277_2.eq_1, decide_eq_true, decide_eq_false, if_pos, if_neg, hij]
theorem pe_up (d : Array UInt64) (s : St) (h : At k d s) (hd : d.size = n) (j : Nat) (hj : j < n) : ∀ (m i : Nat), j + 1 - i ≤ m → i < 4294967297 → ∀ (kk : List Fm) (ex : Env), M ro K (.lop b276_0) (.bk 2 :: kk) ((0, .slice (some (EV.own k 0)) n 1) :: (1, vI a) :: (9, vI i) :: (10, vI j) :: ex) s = Rk ro K .nrm kk [(0, .slice (some (EV.own k 0)) n 1), (1, vI a), (9, vI (Go.Sort.scanUp (fun x => !lt6 (g6 d a) x) d j i : Nat)), (10, vI j), (43, .bool false)] s := by
  have hw := h.w
  have hl := fun (x y : UInt64) (pr : Option (List Nat)) => less_q hK x y hw pr
  have ra := h.rd (ro := ro) a (by omega)
  intro m
  induction m with
  | zero =>
    intro i hm hi kk ex
    rw [sup_eq, if_neg (by simp; omega), M_lop]
    have : ¬ i ≤ j := by omega
    simp (disch := first | omega | assumption | exact S_wf (by assumption) _ | (simp; done) | (simp; omega)) [Mb _ _ b276_0.eq_1, decide_eq_true, decide_eq_false, if_pos, if_neg, this]
  | succ m ih =>
    intro i hm hi kk ex
    have hq := sup_eq (fun x => !lt6 (g6 d a) x) d j i
    by_cases hij : i ≤ j
    · have ri := h.rd (ro := ro) i (by omega)
      cases hc : lt6 (g6 d a) (g6 d i) with
      | false =>
        rw [if_pos (by simp [hc, hij])] at hq
        rw [hq, ← ih (i + 1) (by omega) (by omega) kk [], M_lop]
        simp (disch := first | omega | assumption | exact S_wf (by assumption) _ | (simp; done) | (simp; omega)) [Mb _ _ b276_0.eq_1, decide_eq_true, decide_eq_false, if_pos, if_neg, wI, hij, hl, ra, ri, hc]
      | true =>
        rw [if_neg (by simp [hc])] at hq
        rw [hq, M_lop]
        simp (disch := first | omega | assumption | exact S_wf (by assumption) _ | (simp; done) | (simp; omega)) [Mb _ _ b276_0.eq_1, decide_eq_true, decide_eq_false, if_pos, if_neg, wI, hij, hl, ra, ri, hc]
    · rw [if_neg (by simp; omega)] at hq
      rw [hq, M_lop]
      simp (disch := first | omega | assumption | exact S_wf (by assumption) _ | (simp; done) | (simp; omega)) [Mb _ _ b276_0.eq_1, decide_eq_true, decide_eq_false, if_pos, if_neg, hij]
theorem pt_dn1 (d : Array UInt64) (s : St) (h : At k d s) (hd : d.size = n) (i : Nat) (hi : i < 4294967297) (hi0 : 0 < i) : ∀ (j : Nat), j < n → ∀ (kk : List Fm) (ex : Env), M ro K (.lop b277_1) (.bk 2 :: kk) ((0, .slice (some (EV.own k 0)) n 1) :: (1, vI a) :: (10, vI i) :: (11, vI j) :: ex) s = Rk ro K .nrm kk [(0, .slice (some (EV.own k 0)) n 1), (1, vI a), (10, vI i), (11, vI (Go.Sort.scanDown (fun x => !lt6 x (g6 d a)) d i j : Nat)), (60, .bool false)] s := by
  have hw := h.w
  have hl := fun (x y : UInt64) (pr : Option (List Nat)) => less_q hK x y hw pr
  have ra := h.rd (ro := ro) a (by omega)
  intro j
  induction j with
  | zero =>
    intro hj kk ex
    rw [Go.Sort.scanDown, M_lop]
    have : ¬ i = 0 := by omega
    simp (disch := first | omega | assumption | exact S_wf (by assumption) _ | (simp; done) | (simp; omega)) [Mb _ _ b277_1.eq_1, decide_eq_true, decide_eq_false, if_pos, if_neg, this]
  | succ j ih =>
    intro hj kk ex
    have hq := sdn_eq (fun x => !lt6 x (g6 d a)) d i j
    have hii : ((i : Int) ≤ (j : Int) + 1) = (i ≤ j + 1) := propext (by omega)
    by_cases hij : i ≤ j + 1
    · have rj := h.rd (ro := ro) (j + 1) (by omega)
      cases hc : lt6 (g6 d (j + 1)) (g6 d a) with
      | false =>
        rw [if_pos (by simp [hc, hij])] at hq
        rw [hq, ← ih (by omega) kk [], M_lop]
        simp (disch := first | omega | assumption | exact S_wf (by assumption) _ | (simp; done) | (simp; omega)) [Mb _ _ b277_1.eq_1, decide_eq_true, decide_eq_false, if_pos, if_neg, wI, hii, hij, hl, ra, rj, hc]
      | true =>
        rw [if_neg (by simp [hc])] at hq
        rw [hq, M_lop]
        simp (disch := first | omega | assumption | exact S_wf (by assumption) _ | (simp; done) | (simp; omega)) [Mb _ _ b277_1.eq_1, decide_eq_true, decide_eq_false, if_pos, if_neg, wI, hii, hij, hl, ra, rj, hc]
    · rw [if_neg (by simp; omega)] at hq
      rw [hq, M_lop]
      simp (disch := first | omega | assumption | exact S_wf (by assumption) _ | (simp; done) | (simp; omega)) [Mb _ _ b277_1.eq_1, decide_eq_true, decide_eq_false, if_pos, if_neg, wI, hii, hij]
theorem pt_dn3 (d : Array UInt64) (s : St) (h : At k d s) (hd : d.size = n) (i : Nat) (hi : i < 4294967297) (hi0 : 0 < i) : ∀ (j : Nat), j < n → ∀ (kk : List Fm) (ex : Env), M ro K (.lop b277_3) (.bk 8 :: kk) ((0, .slice (some (EV.own k 0)) n 1) :: (1, vI a) :: (10, vI i) :: (11, vI j) :: ex) s = Rk ro K .nrm kk [(0, .slice (some (EV.own k 0)) n 1), (1, vI a), (10, vI i), (11, vI (Go.Sort.scanDown (fun x => !lt6 x (g6 d a)) d i j : Nat)), (129, .bool false)] s := by
  have hw := h.w
  have hl := fun (x y : UInt64) (pr : Option (List Nat)) => less_q hK x y hw pr
  have ra := h.rd (ro := ro) a (by omega)
  intro j
  induction j with
  | zero =>
    intro hj kk ex
    rw [Go.Sort.scanDown, M_lop]
    have : ¬ i = 0 := by omega
    simp (disch := first | omega | assumption | exact S_wf (by assumption) _ | (simp; done) | (simp; omega)) [Mb _ _ b277_3.eq_1, decide_eq_true, decide_eq_false, if_pos, if_neg, this]
  | succ j ih =>
    intro hj kk ex
    have hq := sdn_eq (fun x => !lt6 x (g6 d a)) d i j
    have hii : ((i : Int) ≤ (j : Int) + 1) = (i ≤ j + 1) := propext (by omega)
    by_cases hij : i ≤ j + 1
    · have rj := h.rd (ro := ro) (j + 1) (by omega)
      cases hc : lt6 (g6 d (j + 1)) (g6 d a) with
      | false =>
        rw [if_pos (by simp [hc, hij])] at hq
        rw [hq, ← ih (by omega) kk [], M_lop]
        simp (disch := first | omega | assumption | exact S_wf (by assumption) _ | (simp; done) | (simp; omega)) [Mb _ _ b277_3.eq_1, decide_eq_true, decide_eq_false, if_pos, if_neg, wI, hii, hij, hl, ra, rj, hc]
      | true =>
        rw [if_neg (by simp [hc])] at hq
        rw [hq, M_lop]
        simp (disch := first | omega | assumption | exact S_wf (by assumption) _ | (simp; done) | (simp; omega)) [Mb _ _ b277_3.eq_1, decide_eq_true, decide_eq_false, if_pos, if_neg, wI, hii, hij, hl, ra, rj, hc]
    · rw [if_neg (by simp; omega)] at hq
      rw [hq, M_lop]
      simp (disch := first | omega | assumption | exact S_wf (by assumption) _ | (simp; done) | (simp; omega)) [Mb _ _ b277_3.eq_1, decide_eq_true, decide_eq_false, if_pos, if_neg, wI, hii, hij]
theorem pe_dn (d : Array UInt64) (s : St) (h : At k d s) (hd : d.size = n) (i : Nat) (hi : i < 4294967297) (hi0 : 0 < i) : ∀ (j : Nat), j < n → ∀ (kk : List Fm) (ex : Env), M ro K (.lop b276_1) (.bk 4 :: kk) ((0, .slice (some (EV.own k 0)) n 1) :: (1, vI a) :: (9, vI i) :: (10, vI j) :: ex) s = Rk ro K .nrm kk [(0, .slice (some (EV.own k 0)) n 1), (1, vI a), (9, vI i), (10, vI (Go.Sort.scanDown (fun x => lt6 (g6 d a) x) d i j : Nat)), (59, .bool false)] s := by
  have hw := h.w
  have hl := fun (x y : UInt64) (pr : Option (List Nat)) => less_q hK x y hw pr
  have ra := h.rd (ro := ro) a (by omega)
  intro j
  induction j with
  | zero =>
    intro hj kk ex
    rw [Go.Sort.scanDown, M_lop]
    have : ¬ i = 0 := by omega
    simp (disch := first | omega | assumption | exact S_wf (by assumption) _ | (simp; done) | (simp; omega)) [Mb _ _ b276_1.eq_1, decide_eq_true, decide_eq_false, if_pos, if_neg, this]
  | succ j ih =>
    intro hj kk ex
    have hq := sdn_eq (fun x => lt6 (g6 d a) x) d i j
    have hii : ((i : Int) ≤ (j : Int) + 1) = (i ≤ j + 1) := propext (by omega)
    by_cases hij : i ≤ j + 1
    · have rj := h.rd (ro := ro) (j + 1) (by omega)
      cases hc : lt6 (g6 d a) (g6 d (j + 1)) with
      | true =>
        rw [if_pos (by simp [hc, hij])] at hq
        rw [hq, ← ih (by omega) kk [], M_lop]
        simp (disch := first | omega | assumption | exact S_wf (by assumption) _ | (simp; done) | (simp; omega)) [Mb _ _ b276_1.eq_1, decide_eq_true, decide_eq_false, if_pos, if_neg, wI, hii, hij, hl, ra, rj, hc]
      | false =>
        rw [if_neg (by simp [hc])] at hq
        rw [hq, M_lop]
        simp (disch := first | omega | assumption | exact S_wf (by assumption) _ | (simp; done) | (simp; omega)) [Mb _ _ b276_1.eq_1, decide_eq_true, decide_eq_false, if_pos, if_neg, wI, hii, hij, hl, ra, rj, hc]
    · rw [if_neg (by simp; omega)] at hq
      rw [hq, M_lop]
      simp (disch := first | omega | assumption | exact S_wf (by assumption) _ | (simp; done) | (simp; omega)) [Mb _ _ b276_1.eq_1, decide_eq_true, decide_eq_false, if_pos, if_neg, wI, hii, hij]
end
theorem ploop_eq (a i j : Nat) (d : Array UInt64) : Go.Sort.partLoop lt6 a i j d = if Go.Sort.scanUp (fun x => lt6 x (g6 d a)) d j i > Go.Sort.scanDown (fun x => !lt6 x (g6 d a)) d (Go.Sort.scanUp (fun x => lt6 x (g6 d a)) d j i) j then (Go.Sort.scanDown (fun x => !lt6 x (g6 d a)) d (Go.Sort.scanUp (fun x => lt6 x (g6 d a)) d j i) j, d) else
    Go.Sort.partLoop lt6 a (Go.Sort.scanUp (fun x => lt6 x (g6 d a)) d j i + 1) (Go.Sort.scanDown (fun x => !lt6 x (g6 d a)) d (Go.Sort.scanUp (fun x => lt6 x (g6 d a)) d j i) j - 1) (Go.Sort.swp d (Go.Sort.scanUp (fun x => lt6 x (g6 d a)) d j i) (Go.Sort.scanDown (fun x => !lt6 x (g6 d a)) d (Go.Sort.scanUp (fun x => lt6 x (g6 d a)) d j i) j)) := by
  rw [Go.Sort.partLoop]
  by_cases h : Go.Sort.scanUp (fun x => lt6 x (g6 d a)) d j i > Go.Sort.scanDown (fun x => !lt6 x (g6 d a)) d (Go.Sort.scanUp (fun x => lt6 x (g6 d a)) d j i) j
  · rw [if_pos h]; exact if_pos h
  · rw [if_neg h]
    have h1 := (sup_ge (fun x => lt6 x (g6 d a)) d j _ i (Nat.le_refl _)).1
    have h2 := sdn_le (fun x => !lt6 x (g6 d a)) d (Go.Sort.scanUp (fun x => lt6 x (g6 d a)) d j i) j
    have h3 : Go.Sort.scanDown (fun x => !lt6 x (g6 d a)) d (Go.Sort.scanUp (fun x => lt6 x (g6 d a)) d j i) j - 1 + 1 - (Go.Sort.scanUp (fun x => lt6 x (g6 d a)) d j i + 1) < j + 1 - i := by omega
    exact (if_neg h).trans (dif_pos h3)
theorem peloop_eq (a i j : Nat) (d : Array UInt64) : Go.Sort.partEqLoop lt6 a i j d = if Go.Sort.scanUp (fun x => !lt6 (g6 d a) x) d j i > Go.Sort.scanDown (fun x => lt6 (g6 d a) x) d (Go.Sort.scanUp (fun x => !lt6 (g6 d a) x) d j i) j then (Go.Sort.scanUp (fun x => !lt6 (g6 d a) x) d j i, d) else
    Go.Sort.partEqLoop lt6 a (Go.Sort.scanUp (fun x => !lt6 (g6 d a) x) d j i + 1) (Go.Sort.scanDown (fun x => lt6 (g6 d a) x) d (Go.Sort.scanUp (fun x => !lt6 (g6 d a) x) d j i) j - 1) (Go.Sort.swp d (Go.Sort.scanUp (fun x => !lt6 (g6 d a) x) d j i) (Go.Sort.scanDown (fun x => lt6 (g6 d a) x) d (Go.Sort.scanUp (fun x => !lt6 (g6 d a) x) d j i) j)) := by
  rw [Go.Sort.partEqLoop]
  by_cases h : Go.Sort.scanUp (fun x => !lt6 (g6 d a) x) d j i > Go.Sort.scanDown (fun x => lt6 (g6 d a) x) d (Go.Sort.scanUp (fun x => !lt6 (g6 d a) x) d j i) j
  · rw [if_pos h]; exact if_pos h
  · rw [if_neg h]
    have h1 := (sup_ge (fun x => !lt6 (g6 d a) x) d j _ i (Nat.le_refl _)).1
    have h2 := sdn_le (fun x => lt6 (g6 d a) x) d (Go.Sort.scanUp (fun x => !lt6 (g6 d a) x) d j i) j
    have h3 : Go.Sort.scanDown (fun x => lt6 (g6 d a) x) d (Go.Sort.scanUp (fun x => !lt6 (g6 d a) x) d j i) j - 1 + 1 - (Go.Sort.scanUp (fun x => !lt6 (g6 d a) x) d j i + 1) < j + 1 - i := by omega
    exact (if_neg h).trans (dif_pos h3)
section
variable (hK : Std ro K) (k n a : Nat) (hn : n < 4294967296) (ha : a < n)
include hK hn ha
theorem partLoop_w : ∀ (m i j : Nat) (d : Array UInt64) (s : St), j + 1 - i ≤ m → 0 < i → i ≤ n → j < n → At k d s → d.size = n →
    ∃ s' i', Tn k (Go.Sort.partLoop lt6 a i j d).2 s s' ∧ (Go.Sort.partLoop lt6 a i j d).2.size = n ∧ (Go.Sort.partLoop lt6 a i j d).1 ≤ j ∧ ∀ kk : List Fm, M ro K (.lop b277_4) (.bk 4 :: kk) [(0, .slice (some (EV.own k 0)) n 1), (1, vI a), (10, vI i), (11, vI j)] s = Rk ro K .nrm kk [(0, .slice (some (EV.own k 0)) n 1), (1, vI a), (10, vI (i' : Nat)), (11, vI ((Go.Sort.partLoop lt6 a i j d).1 : Nat)), (134, .bool true)] s' := by
  intro m
  induction m with
  | zero =>
    intro i j d s hm hi0 hi hj h hd
    have hq := ploop_eq a i j d
    have u1 := sup_ge (fun x => lt6 x (g6 d a)) d j _ i (Nat.le_refl _)
    have q1 := pt_up2 hK k n a hn ha d s h hd j hj _ i (Nat.le_refl _) (by omega)
    obtain ⟨x, hx⟩ : ∃ x, x = Go.Sort.scanUp (fun x => lt6 x (g6 d a)) d j i := ⟨_, rfl⟩
    rw [← hx] at hq u1 q1
    have u2 := sdn_le (fun x => !lt6 x (g6 d a)) d x j
    have q2 := pt_dn3 hK k n a hn ha d s h hd x (by omega) (by omega) j hj
    obtain ⟨y, hy⟩ : ∃ y, y = Go.Sort.scanDown (fun x => !lt6 x (g6 d a)) d x j := ⟨_, rfl⟩
    rw [← hy] at hq u2 q2
    have hxy : x > y := by omega
    rw [if_pos hxy] at hq
    rw [hq]
    refine ⟨s, x, h.refl, hd, u2, fun kk => ?_⟩
    rw [M_lop]
    simp only [EV.own] at q1 q2
    simp (disch := first | omega | assumption | exact S_wf (by assumption) _ | (simp; done) | (simp; omega)) [Mb _ _ b277_4.eq_1, decide_eq_true, decide_eq_false, if_pos, if_neg, wI, q1, q2, hxy]
  | succ m ih =>
    intro i j d s hm hi0 hi hj h hd
    have hq := ploop_eq a i j d
    have u1 := sup_ge (fun x => lt6 x (g6 d a)) d j _ i (Nat.le_refl _)
    have q1 := pt_up2 hK k n a hn ha d s h hd j hj _ i (Nat.le_refl _) (by omega)
    obtain ⟨x, hx⟩ : ∃ x, x = Go.Sort.scanUp (fun x => lt6 x (g6 d a)) d j i := ⟨_, rfl⟩
    rw [← hx] at hq u1 q1
    have u2 := sdn_le (fun x => !lt6 x (g6 d a)) d x j
    have q2 := pt_dn3 hK k n a hn ha d s h hd x (by omega) (by omega) j hj
    obtain ⟨y, hy⟩ : ∃ y, y = Go.Sort.scanDown (fun x => !lt6 x (g6 d a)) d x j := ⟨_, rfl⟩
    rw [← hy] at hq u2 q2
    by_cases hxy : x > y
    · rw [if_pos hxy] at hq
      rw [hq]
      refine ⟨s, x, h.refl, hd, u2, fun kk => ?_⟩
      rw [M_lop]
      simp only [EV.own] at q1 q2
      simp (disch := first | omega | assumption | exact S_wf (by assumption) _ | (simp; done) | (simp; omega)) [Mb _ _ b277_4.eq_1, decide_eq_true, decide_eq_false, if_pos, if_neg, wI, q1, q2, hxy]
    · rw [if_neg hxy] at hq
      rw [hq]
      have hg := h.g
      have hm' := h.m
      have gp := h.gp
      have rx := h.rd (ro := ro) x (by omega)
      have ry := h.rd (ro := ro) y (by omega)
      have hp := h.put (Go.Sort.swp d x y)
      obtain ⟨s', i', t1, t2, t3, t4⟩ := ih (x + 1) (y - 1) _ _ (by omega) (by omega) (by omega) (by omega) hp.1 (by simpa using hd)
      refine ⟨s', i', hp.trans t1, t2, by omega, fun kk => ?_⟩
      rw [← t4 kk, M_lop]
      have e1 : (y : Int) - 1 = ((y - 1 : Nat) : Int) := by omega
      simp only [EV.own] at q1 q2
      simp (disch := first | omega | assumption | exact S_wf (by assumption) _ | (simp; done) | (simp; omega)) [Mb _ _ b277_4.eq_1, decide_eq_true, decide_eq_false, if_pos, if_neg, wI, q1, q2, hxy, e1, rx, ry, hg, hm', gp, may_put, put_put, swp_rw]
theorem partEqLoop_w : ∀ (m i j : Nat) (d : Array UInt64) (s : St), j + 1 - i ≤ m → 0 < i → i ≤ n → j < n → At k d s → d.size = n →
    ∃ s' i', Tn k (Go.Sort.partEqLoop lt6 a i j d).2 s s' ∧ (Go.Sort.partEqLoop lt6 a i j d).2.size = n ∧ (Go.Sort.partEqLoop lt6 a i j d).1 < 4294967296 ∧ ∀ kk : List Fm, M ro K (.lop b276_2) (.bk 0 :: kk) [(0, .slice (some (EV.own k 0)) n 1), (1, vI a), (9, vI i), (10, vI j)] s = Rk ro K .nrm kk [(0, .slice (some (EV.own k 0)) n 1), (1, vI a), (9, vI ((Go.Sort.partEqLoop lt6 a i j d).1 : Nat)), (10, vI (i' : Nat)), (64, .bool true)] s' := by
  intro m
  induction m with
  | zero =>
    intro i j d s hm hi0 hi hj h hd
    have hq := peloop_eq a i j d
    have u1 := sup_ge (fun x => !lt6 (g6 d a) x) d j _ i (Nat.le_refl _)
    have q1 := pe_up hK k n a hn ha d s h hd j hj _ i (Nat.le_refl _) (by omega)
    obtain ⟨x, hx⟩ : ∃ x, x = Go.Sort.scanUp (fun x => !lt6 (g6 d a) x) d j i := ⟨_, rfl⟩
    rw [← hx] at hq u1 q1
    have u2 := sdn_le (fun x => lt6 (g6 d a) x) d x j
    have q2 := pe_dn hK k n a hn ha d s h hd x (by omega) (by omega) j hj
    obtain ⟨y, hy⟩ : ∃ y, y = Go.Sort.scanDown (fun x => lt6 (g6 d a) x) d x j := ⟨_, rfl⟩
    rw [← hy] at hq u2 q2
    have hxy : x > y := by omega
    rw [if_pos hxy] at hq
    rw [hq]
    refine ⟨s, y, h.refl, hd, by show x < _; omega, fun kk => ?_⟩
    rw [M_lop]
    simp only [EV.own] at q1 q2
    simp (disch := first | omega | assumption | exact S_wf (by assumption) _ | (simp; done) | (simp; omega)) [Mb _ _ b276_2.eq_1, decide_eq_true, decide_eq_false, if_pos, if_neg, wI, q1, q2, hxy]
  | succ m ih =>
    intro i j d s hm hi0 hi hj h hd
    have hq := peloop_eq a i j d
    have u1 := sup_ge (fun x => !lt6 (g6 d a) x) d j _ i (Nat.le_refl _)
    have q1 := pe_up hK k n a hn ha d s h hd j hj _ i (Nat.le_refl _) (by omega)
    obtain ⟨x, hx⟩ : ∃ x, x = Go.Sort.scanUp (fun x => !lt6 (g6 d a) x) d j i := ⟨_, rfl⟩
    rw [← hx] at hq u1 q1
    have u2 := sdn_le (fun x => lt6 (g6 d a) x) d x j
    have q2 := pe_dn hK k n a hn ha d s h hd x (by omega) (by omega) j hj
    obtain ⟨y, hy⟩ : ∃ y, y = Go.Sort.scanDown (fun x => lt6 (g6 d a) x) d x j := ⟨_, rfl⟩
    rw [← hy] at hq u2 q2
    by_cases hxy : x > y
    · rw [if_pos hxy] at hq
      rw [hq]
      refine ⟨s, y, h.refl, hd, by show x < _; omega, fun kk => ?_⟩
      rw [M_lop]
      simp only [EV.own] at q1 q2
      simp (disch := first | omega | assumption | exact S_wf (by assumption) _ | (simp; done) | (simp; omega)) [Mb _ _ b276_2.eq_1, decide_eq_true, decide_eq_false, if_pos, if_neg, wI, q1, q2, hxy]
    · rw [if_neg hxy] at hq
      rw [hq]
      have hg := h.g
      have hm' := h.m
      have gp := h.gp
      have rx := h.rd (ro := ro) x (by omega)
      have ry := h.rd (ro := ro) y (by omega)
      have hp := h.put (Go.Sort.swp d x y)
      obtain ⟨s', i', t1, t2, t3, t4⟩ := ih (x + 1) (y - 1) _ _ (by omega) (by omega) (by omega) (by omega) hp.1 (by simpa using hd)
      refine ⟨s', i', hp.trans t1, t2, by omega, fun kk => ?_⟩
      rw [← t4 kk, M_lop]
      have e1 : (y : Int) - 1 = ((y - 1 : Nat) : Int) := by omega
      simp only [EV.own] at q1 q2
      simp (disch := first | omega | assumption | exact S_wf (by assumption) _ | (simp; done) | (simp; omega)) [Mb _ _ b276_2.eq_1, decide_eq_true, decide_eq_false, if_pos, if_neg, wI, q1, q2, hxy, e1, rx, ry, hg, hm', gp, may_put, put_put, swp_rw]
theorem peq_t (b pivot : Nat) (d : Array UInt64) (s : St) (h : At k d s) (hd : d.size = n) (hb : b ≤ n) (hab : a < b) (hp : pivot < b) :
    ∃ s', Tn k (Go.Sort.partitionEqual lt6 d a b pivot).2 s s' ∧ (Go.Sort.partitionEqual lt6 d a b pivot).2.size = n ∧ K (.func (.func 276) #[] #[]) [.slice (some (EV.own k 0)) n 1, vI a, vI b, vI pivot] s = some (vI (Go.Sort.partitionEqual lt6 d a b pivot).1, s') := by
  have hg := h.g
  have hm := h.m
  have gp := h.gp
  have rx := h.rd (ro := ro) a (by omega)
  have ry := h.rd (ro := ro) pivot (by omega)
  have hp1 := h.put (Go.Sort.swp d a pivot)
  obtain ⟨s', i', t1, t2, t3, t4⟩ := partEqLoop_w hK k n a hn ha _ (a + 1) (b - 1) (Go.Sort.swp d a pivot) _ (Nat.le_refl _) (by omega) (by omega) (by omega) hp1.1 (by simpa using hd)
  refine ⟨s', hp1.trans t1, t2, ?_⟩
  rw [go276 hK _ _ rfl]
  have e1 : (b : Int) - 1 = ((b - 1 : Nat) : Int) := by omega
  simp only [EV.own] at t4
  push_cast at t4
  unfold Go.Sort.partitionEqual
  simp (disch := first | omega | assumption | exact S_wf (by assumption) _ | (simp; done) | (simp; omega)) [c276, decide_eq_true, decide_eq_false, if_pos, if_neg, wI, t4, e1, rx, ry, hg, hm, gp, may_put, put_put, swp_rw]
theorem part_t (b pivot : Nat) (d : Array UInt64) (s : St) (h : At k d s) (hd : d.size = n) (hb : b ≤ n) (hab : a < b) (hp : pivot < b) :
    ∃ s', Tn k (Go.Sort.partition lt6 d a b pivot).2.2 s s' ∧ (Go.Sort.partition lt6 d a b pivot).2.2.size = n ∧ K (.func (.func 277) #[] #[]) [.slice (some (EV.own k 0)) n 1, vI a, vI b, vI pivot] s = some (.tuple #[vI (Go.Sort.partition lt6 d a b pivot).1, .bool (Go.Sort.partition lt6 d a b pivot).2.1], s') := by
  have hg := h.g
  have hm := h.m
  have gp := h.gp
  have rx := h.rd (ro := ro) a (by omega)
  have ry := h.rd (ro := ro) pivot (by omega)
  obtain ⟨d1, hd1⟩ : ∃ d1, d1 = Go.Sort.swp d a pivot := ⟨_, rfl⟩
  have hd1n : d1.size = n := by rw [hd1]; simpa using hd
  have hp1 := h.put d1
  obtain ⟨s1, hs1⟩ : ∃ s1, s1 = s.put k (some (rw6 d1)) := ⟨_, rfl⟩
  rw [← hs1] at hp1
  have hg1 := hp1.1.g
  have hm1 := hp1.1.m
  have gp1 := hp1.1.gp
  have ra := hp1.1.rd (ro := ro) a (by omega)
  have e1 : (b : Int) - 1 = ((b - 1 : Nat) : Int) := by omega
  have u1 := sup_ge (fun x => lt6 x (g6 d1 a)) d1 (b - 1) _ (a + 1) (Nat.le_refl _)
  have q1 := pt_up0 hK k n a hn ha d1 s1 hp1.1 hd1n (b - 1) (by omega) _ (a + 1) (Nat.le_refl _) (by omega)
  obtain ⟨x, hx⟩ : ∃ x, x = Go.Sort.scanUp (fun x => lt6 x (g6 d1 a)) d1 (b - 1) (a + 1) := ⟨_, rfl⟩
  rw [← hx] at u1 q1
  have u2 := sdn_le (fun x => !lt6 x (g6 d1 a)) d1 x (b - 1)
  have q2 := pt_dn1 hK k n a hn ha d1 s1 hp1.1 hd1n x (by omega) (by omega) (b - 1) (by omega)
  obtain ⟨y, hy⟩ : ∃ y, y = Go.Sort.scanDown (fun x => !lt6 x (g6 d1 a)) d1 x (b - 1) := ⟨_, rfl⟩
  rw [← hy] at u2 q2
  have hpe : Go.Sort.partition lt6 d a b pivot = if x > y then (y, true, Go.Sort.swp d1 y a) else ((Go.Sort.partLoop lt6 a (x + 1) (y - 1) (Go.Sort.swp d1 x y)).1, false, Go.Sort.swp (Go.Sort.partLoop lt6 a (x + 1) (y - 1) (Go.Sort.swp d1 x y)).2 (Go.Sort.partLoop lt6 a (x + 1) (y - 1) (Go.Sort.swp d1 x y)).1 a) := by
    rw [hy, hx, hd1]; rfl
  rw [hpe]
  have ryy := hp1.1.rd (ro := ro) y (by omega)
  simp only [EV.own] at q1 q2
  push_cast at q1
  by_cases hxy : x > y
  · rw [if_pos hxy]
    refine ⟨_, hp1.trans (hp1.1.put _), by simpa using hd1n, ?_⟩
    rw [go277 hK _ _ rfl]
    simp (disch := first | omega | assumption | exact S_wf (by assumption) _ | (simp; done) | (simp; omega)) [c277, decide_eq_true, decide_eq_false, if_pos, if_neg, wI, e1, rx, ry, hg, hm, gp, may_put, put_put, swp_rw, ← hd1, ← hs1, q1, q2, hxy, ra, ryy, hg1, hm1, gp1]
  · rw [if_neg hxy]
    have rxx := hp1.1.rd (ro := ro) x (by omega)
    have hp2 := hp1.1.put (Go.Sort.swp d1 x y)
    obtain ⟨s2, i', t1, t2, t3, t4⟩ := partLoop_w hK k n a hn ha _ (x + 1) (y - 1) (Go.Sort.swp d1 x y) _ (Nat.le_refl _) (by omega) (by omega) (by omega) hp2.1 (by simpa using hd1n)
    obtain ⟨z, hz⟩ : ∃ z, z = (Go.Sort.partLoop lt6 a (x + 1) (y - 1) (Go.Sort.swp d1 x y)).1 := ⟨_, rfl⟩
    obtain ⟨d3, hd3⟩ : ∃ d3, d3 = (Go.Sort.partLoop lt6 a (x + 1) (y - 1) (Go.Sort.swp d1 x y)).2 := ⟨_, rfl⟩
    rw [← hz] at t3 t4
    rw [← hd3] at t1 t2
    rw [← hz, ← hd3]
    have ra3 := t1.1.rd (ro := ro) a (by omega)
    have rz3 := t1.1.rd (ro := ro) z (by omega)
    have hg3 := t1.1.g
    have hm3 := t1.1.m
    have gp3 := t1.1.gp
    refine ⟨_, hp1.trans (hp2.trans (t1.trans (t1.1.put _))), by simpa using t2, ?_⟩
    rw [go277 hK _ _ rfl]
    have e2 : (y : Int) - 1 = ((y - 1 : Nat) : Int) := by omega
    simp only [EV.own] at t4
    push_cast at t4
    simp (disch := first | omega | assumption | exact S_wf (by assumption) _ | (simp; done) | (simp; omega)) [c277, decide_eq_true, decide_eq_false, if_pos, if_neg, wI, e1, e2, rx, ry, hg, hm, gp, may_put, put_put, swp_rw, ← hd1, ← hs1, q1, q2, hxy, ra, ryy, rxx, hg1, hm1, gp1, t4, ra3, rz3, hg3, hm3, gp3]
end
end Go.Proofs.YtakdnpafdadblaaGreat.EV.W
namespace Go.Proofs.YtakdnpafdadblaaGreat.EV.W
open Go
set_option maxRecDepth 8000
set_option maxHeartbeats 1000000
variable {ro : Addr → Option Value} {K : H}
theorem swo6 : Go.Sort.SWO lt6 where
  irrefl := fun x => by simp [lt6]
  trans := fun x y z h1 h2 => by simp only [lt6, decide_eq_true_eq, UInt64.lt_iff_toNat_lt] at *; omega
  ntrans := fun x y z h1 h2 => by simp only [lt6, decide_eq_false_iff_not, UInt64.lt_iff_toNat_lt] at *; omega
def sufC : Nat → C → C
  | 0, c => c
  | n + 1, .seq _ b => sufC n b
  | _ + 1, c => c
def inB : C → C
  | .blk _ c => c
  | c => c
noncomputable abbrev KF : List Fm := [.bk 1, .lp b245_0, .bk 0, .fn []]
abbrev sA (k n : Nat) : Value := .slice (some (EV.own k 0)) n 1
def Ends (k a b : Nat) (d : Array UInt64) (s : St) (x : Option (Value × St)) : Prop :=
  ∃ d' s', Go.Sort.PermIn a b d d' ∧ Go.Sort.SortedIn lt6 a b d' ∧ Tn k d' s s' ∧ x = some (.tuple #[], s')
theorem Ends.perm {k a b : Nat} {d d1 : Array UInt64} {s s1 : St} {x : Option (Value × St)} (h : Ends k a b d1 s1 x) (hp : Go.Sort.PermIn a b d d1) (ht : Tn k d1 s s1) : Ends k a b d s x := by
  obtain ⟨d', s', h1, h2, h3, h4⟩ := h
  exact ⟨d', s', Go.Sort.permIn_trans _ _ _ _ _ hp h1, h2, ht.trans h3, h4⟩
def PdP (ro : Addr → Option Value) (K : H) (k n m : Nat) : Prop := ∀ (a b lim : Nat) (wb wp : Bool) (d : Array UInt64) (s : St), b - a ≤ m → a ≤ b → b ≤ n → At k d s → d.size = n → Go.Sort.Below lt6 a b d → lim < 4294967296 →
  Ends k a b d s (M ro K (.lop b245_0) [.bk 0, .fn []] [(0, sA k n), (1, vI a), (2, vI b), (3, vI lim), (8, .bool wb), (9, .bool wp)] s)
theorem call245 (hK : Std ro K) (k n a b lim : Nat) (s : St) : K (.func (.func 245) #[] #[]) [sA k n, vI a, vI b, vI lim] s = M ro K (.lop b245_0) [.bk 0, .fn []] [(0, sA k n), (1, vI a), (2, vI b), (3, vI lim), (8, .bool true), (9, .bool true)] s := by
  rw [go245 hK _ _ rfl]
  simp (disch := first | omega | assumption | exact S_wf (by assumption) _ | (simp; done) | (simp; omega)) [c245]
def hedC : C → C
  | .seq a _ => a
  | c => c
theorem sq0 : sufC 0 (inB b245_0) = .seq (hedC (sufC 0 (inB b245_0))) (sufC 1 (inB b245_0)) := rfl
theorem sq1 : sufC 1 (inB b245_0) = .seq (hedC (sufC 1 (inB b245_0))) (sufC 2 (inB b245_0)) := rfl
theorem sq2 : sufC 2 (inB b245_0) = .seq (hedC (sufC 2 (inB b245_0))) (sufC 3 (inB b245_0)) := rfl
theorem sq3 : sufC 3 (inB b245_0) = .seq (hedC (sufC 3 (inB b245_0))) (sufC 4 (inB b245_0)) := rfl
theorem sq4 : sufC 4 (inB b245_0) = .seq (hedC (sufC 4 (inB b245_0))) (sufC 5 (inB b245_0)) := rfl
theorem sq5 : sufC 5 (inB b245_0) = .seq (hedC (sufC 5 (inB b245_0))) (sufC 6 (inB b245_0)) := rfl
theorem sq6 : sufC 6 (inB b245_0) = .seq (hedC (sufC 6 (inB b245_0))) (sufC 7 (inB b245_0)) := rfl
theorem sq7 : sufC 7 (inB b245_0) = .seq (hedC (sufC 7 (inB b245_0))) (sufC 8 (inB b245_0)) := rfl
section
variable (hK : Std ro K) (k n : Nat) (hn : n < 4294967296)
include hK hn
theorem pdq8 (m : Nat) (ih : PdP ro K k n m) (a b p lim : Nat) (wb wp : Bool) (d : Array UInt64) (s : St) (hm : b - a ≤ m + 1) (hab : 12 < b - a) (hb : b ≤ n) (h : At k d s) (hd : d.size = n) (hB : Go.Sort.Below lt6 a b d) (hl : lim < 4294967296) (hp1 : a ≤ p) (hp2 : p < b) (ex : Env) :
    Ends k a b d s (M ro K (sufC 8 (inB b245_0)) KF ((0, sA k n) :: (1, vI a) :: (2, vI b) :: (3, vI lim) :: (8, .bool wb) :: (9, .bool wp) :: (10, vI (b - a : Nat)) :: (11, vI p) :: ex) s) := by
  obtain ⟨s4, t1, t2, t3⟩ := part_t hK k n a hn (by omega) b p d s h hd hb (by omega) hp2
  obtain ⟨⟨mid, ap, d4⟩, hx⟩ : ∃ r, Go.Sort.partition lt6 d a b p = r := ⟨_, rfl⟩
  rw [hx] at t1 t2 t3
  simp only [] at t1 t2 t3
  obtain ⟨r1, r2, r3, r4, r5, r6, r7⟩ := Go.Sort.round_part swo6 (Go.Sort.partition_holds lt6) hp1 hp2 (by omega) hB hx
  obtain ⟨l, hl'⟩ : ∃ l, l = b - a := ⟨_, rfl⟩
  obtain ⟨q, hq⟩ : ∃ q, q = l / 8 := ⟨_, rfl⟩
  obtain ⟨x, hxx⟩ : ∃ x, x = mid - a := ⟨_, rfl⟩
  obtain ⟨y, hy⟩ : ∃ y, y = b - mid := ⟨_, rfl⟩
  have e1 : (mid : Int) - (a : Int) = (x : Int) := by omega
  have e2 : (b : Int) - (mid : Int) = (y : Int) := by omega
  have e3 : (l : Int).tdiv 8 = (q : Int) := by rw [Int.tdiv_eq_ediv_of_nonneg (by omega)]; omega
  rw [← hl']
  simp only [EV.own] at t3
  by_cases hxy : x < y
  · obtain ⟨d5, s5, u1, u2, u3, u4⟩ := ih a mid lim true true d4 s4 (by omega) r1 (by omega) t1.1 t2 r4 hl
    obtain ⟨v0, v1⟩ := r6 d5 u1 u2
    obtain ⟨d6, s6, w1, w2, w3, w4⟩ := ih (mid + 1) b lim (decide (q ≤ x)) ap d5 s5 (by omega) (by omega) hb u3.1 (by rw [u1.1]; exact t2) v0 hl
    obtain ⟨z1, z2⟩ := v1 d6 w1 w2
    refine ⟨d6, s6, z1, z2, t1.trans (u3.trans w3), ?_⟩
    rw [← w4]
    rw [← call245 hK] at u4
    simp only [sA, EV.own] at u4
    simp (disch := first | omega | assumption | exact S_wf (by assumption) _ | (simp; done) | (simp; omega)) [b245_0.eq_1, sufC, inB, sA, KF, decide_eq_true, decide_eq_false, if_pos, if_neg, wI, callK_f, t3, e1, e2, e3, hxy, u4]
  · obtain ⟨d5, s5, u1, u2, u3, u4⟩ := ih (mid + 1) b lim true true d4 s4 (by omega) (by omega) hb t1.1 t2 r5 hl
    obtain ⟨v0, v1⟩ := r7 d5 u1 u2
    obtain ⟨d6, s6, w1, w2, w3, w4⟩ := ih a mid lim (decide (q ≤ y)) ap d5 s5 (by omega) (by omega) (by omega) u3.1 (by rw [u1.1]; exact t2) v0 hl
    obtain ⟨z1, z2⟩ := v1 d6 w1 w2
    refine ⟨d6, s6, z1, z2, t1.trans (u3.trans w3), ?_⟩
    rw [← w4]
    rw [← call245 hK] at u4
    simp only [sA, EV.own] at u4
    push_cast at u4
    simp (disch := first | omega | assumption | exact S_wf (by assumption) _ | (simp; done) | (simp; omega)) [b245_0.eq_1, sufC, inB, sA, KF, decide_eq_true, decide_eq_false, if_pos, if_neg, wI, callK_f, t3, e1, e2, e3, hxy, u4]
theorem pdq7 (m : Nat) (ih : PdP ro K k n m) (a b p lim : Nat) (wb wp : Bool) (d : Array UInt64) (s : St) (hm : b - a ≤ m + 1) (hab : 12 < b - a) (hb : b ≤ n) (h : At k d s) (hd : d.size = n) (hB : Go.Sort.Below lt6 a b d) (hl : lim < 4294967296) (hp1 : a ≤ p) (hp2 : p < b) (ex : Env) :
    Ends k a b d s (M ro K (sufC 7 (inB b245_0)) KF ((0, sA k n) :: (1, vI a) :: (2, vI b) :: (3, vI lim) :: (8, .bool wb) :: (9, .bool wp) :: (10, vI (b - a : Nat)) :: (11, vI p) :: ex) s) := by
  have hw := h.w
  have hl6 := fun (x y : UInt64) (pr : Option (List Nat)) => less_q hK x y hw pr
  have L8 := pdq8 hK k n hn m ih a b p lim wb wp d s hm hab hb h hd hB hl hp1 hp2 [(87, .bool false)]
  by_cases h0 : 0 < a
  · have e1 : (a : Int) - 1 = ((a - 1 : Nat) : Int) := by omega
    have r1 := h.rd (ro := ro) (a - 1) (by omega)
    have rp := h.rd (ro := ro) p (by omega)
    cases hc : lt6 (g6 d (a - 1)) (g6 d p) with
    | true =>
      obtain ⟨d', s', q1, q2, q3, q4⟩ := L8
      refine ⟨d', s', q1, q2, q3, ?_⟩
      rw [← q4]
      rw [sq7, M_seq]; generalize sufC 8 (inB b245_0) = R; simp (disch := first | omega | assumption | exact S_wf (by assumption) _ | (simp; done) | (simp; omega)) [b245_0.eq_1, sufC, inB, hedC, sA, KF, decide_eq_true, decide_eq_false, if_pos, if_neg, wI, callK_f, h0, e1, r1, rp, hl6, hc]
    | false =>
      obtain ⟨s4, t1, t2, t3⟩ := peq_t hK k n a hn (by omega) b p d s h hd hb (by omega) hp2
      obtain ⟨⟨mid, d4⟩, hx⟩ : ∃ r, Go.Sort.partitionEqual lt6 d a b p = r := ⟨_, rfl⟩
      rw [hx] at t1 t2 t3
      simp only [] at t1 t2 t3
      obtain ⟨r1', r2, r3, r4, r5⟩ := Go.Sort.round_eq swo6 (Go.Sort.partitionEqual_holds lt6) h0 hp1 hp2 (by omega) hB hc hx
      obtain ⟨d5, s5, u1, u2, u3, u4⟩ := ih mid b lim wb wp d4 s4 (by omega) r2 hb t1.1 t2 r4 hl
      obtain ⟨z1, z2⟩ := r5 d5 u1 u2
      refine ⟨d5, s5, z1, z2, t1.trans u3, ?_⟩
      rw [← u4]
      simp only [EV.own] at t3
      rw [sq7, M_seq]; generalize sufC 8 (inB b245_0) = R; simp (disch := first | omega | assumption | exact S_wf (by assumption) _ | (simp; done) | (simp; omega)) [b245_0.eq_1, sufC, inB, hedC, sA, KF, decide_eq_true, decide_eq_false, if_pos, if_neg, wI, callK_f, h0, e1, r1, rp, hl6, hc, t3]
  · obtain ⟨d', s', q1, q2, q3, q4⟩ := L8
    refine ⟨d', s', q1, q2, q3, ?_⟩
    rw [← q4]
    rw [sq7, M_seq]; generalize sufC 8 (inB b245_0) = R; simp (disch := first | omega | assumption | exact S_wf (by assumption) _ | (simp; done) | (simp; omega)) [b245_0.eq_1, sufC, inB, hedC, sA, KF, decide_eq_true, decide_eq_false, if_pos, if_neg, wI, callK_f, h0]
theorem pdq6 (m : Nat) (ih : PdP ro K k n m) (a b p lim : Nat) (wb wp : Bool) (d : Array UInt64) (s : St) (hm : b - a ≤ m + 1) (hab : 12 < b - a) (hb : b ≤ n) (h : At k d s) (hd : d.size = n) (hB : Go.Sort.Below lt6 a b d) (hl : lim < 4294967296) (hp1 : a ≤ p) (hp2 : p < b) (t : Int) (ex : Env) :
    Ends k a b d s (M ro K (sufC 6 (inB b245_0)) KF ((0, sA k n) :: (1, vI a) :: (2, vI b) :: (3, vI lim) :: (8, .bool wb) :: (9, .bool wp) :: (10, vI (b - a : Nat)) :: (11, vI p) :: (12, vI t) :: ex) s) := by
  have L7 := fun ex => pdq7 hK k n hn m ih a b p lim wb wp d s hm hab hb h hd hB hl hp1 hp2 ex
  by_cases hc : wb = true ∧ wp = true ∧ t = 1
  · obtain ⟨h1, h2, h3⟩ := hc
    obtain ⟨s4, t1, t2, t3⟩ := pins_t hK k n a b hn hb d s (by omega) h hd
    obtain ⟨⟨d4, r⟩, hx⟩ : ∃ r, Go.Sort.partialInsertionSort lt6 d a b = r := ⟨_, rfl⟩
    have hps := Go.Sort.partialInsertionSort_holds (lt := lt6) swo6 d a b (by omega) (by omega) hB
    rw [hx] at t1 t2 t3 hps
    simp only [] at t1 t2 t3 hps
    simp only [EV.own] at t3
    cases r with
    | true =>
      refine ⟨d4, s4, hps.1, hps.2 rfl, t1, ?_⟩
      rw [sq6, M_seq]; generalize sufC 7 (inB b245_0) = R; simp (disch := first | omega | assumption | exact S_wf (by assumption) _ | (simp; done) | (simp; omega)) [b245_0.eq_1, sufC, inB, hedC, sA, KF, decide_eq_true, decide_eq_false, if_pos, if_neg, wI, callK_f, h1, h2, h3, t3]
    | false =>
      refine Ends.perm ?_ hps.1 t1
      obtain ⟨d', s', q1, q2, q3, q4⟩ := pdq7 hK k n hn m ih a b p lim wb wp d4 s4 hm hab hb t1.1 t2 (hB.perm (by omega) hps.1) hl hp1 hp2 [(72, .bool false)]
      refine ⟨d', s', q1, q2, q3, ?_⟩
      rw [← q4]
      rw [sq6, M_seq]; generalize sufC 7 (inB b245_0) = R; simp (disch := first | omega | assumption | exact S_wf (by assumption) _ | (simp; done) | (simp; omega)) [b245_0.eq_1, sufC, inB, hedC, sA, KF, decide_eq_true, decide_eq_false, if_pos, if_neg, wI, callK_f, h1, h2, h3, t3]
  · obtain ⟨d', s', q1, q2, q3, q4⟩ := L7 [(68, .bool false)]
    refine ⟨d', s', q1, q2, q3, ?_⟩
    rw [← q4]
    cases wb with
    | false => rw [sq6, M_seq]; generalize sufC 7 (inB b245_0) = R; simp (disch := first | omega | assumption | exact S_wf (by assumption) _ | (simp; done) | (simp; omega)) [b245_0.eq_1, sufC, inB, hedC, sA, KF, decide_eq_true, decide_eq_false, if_pos, if_neg, wI, callK_f]
    | true =>
      cases wp with
      | false => rw [sq6, M_seq]; generalize sufC 7 (inB b245_0) = R; simp (disch := first | omega | assumption | exact S_wf (by assumption) _ | (simp; done) | (simp; omega)) [b245_0.eq_1, sufC, inB, hedC, sA, KF, decide_eq_true, decide_eq_false, if_pos, if_neg, wI, callK_f]
      | true =>
        have h1 : ¬ t = 1 := fun hh => hc ⟨rfl, rfl, hh⟩
        rw [sq6, M_seq]; generalize sufC 7 (inB b245_0) = R; simp (disch := first | omega | assumption | exact S_wf (by assumption) _ | (simp; done) | (simp; omega)) [b245_0.eq_1, sufC, inB, hedC, sA, KF, decide_eq_true, decide_eq_false, if_pos, if_neg, wI, callK_f, h1]
theorem pdq5 (m : Nat) (ih : PdP ro K k n m) (a b p lim : Nat) (wb wp : Bool) (d : Array UInt64) (s : St) (hm : b - a ≤ m + 1) (hab : 12 < b - a) (hb : b ≤ n) (h : At k d s) (hd : d.size = n) (hB : Go.Sort.Below lt6 a b d) (hl : lim < 4294967296) (hp1 : a ≤ p) (hp2 : p < b) (t : Int) :
    Ends k a b d s (M ro K (sufC 5 (inB b245_0)) KF ((0, sA k n) :: (1, vI a) :: (2, vI b) :: (3, vI lim) :: (8, .bool wb) :: (9, .bool wp) :: (10, vI (b - a : Nat)) :: (11, vI p) :: (12, vI t) :: []) s) := by
  by_cases ht : t = 2
  · obtain ⟨d1, s1, t1, t2, t3⟩ := rev_t hK k n hn a b d s h hd (by omega) hb
    refine Ends.perm ?_ t1 t2
    obtain ⟨d', s', q1, q2, q3, q4⟩ := pdq6 hK k n hn m ih a b ((b - 1) - (p - a)) lim wb wp d1 s1 hm hab hb t2.1 (by rw [t1.1]; exact hd) (hB.perm (by omega) t1) hl (by omega) (by omega) 1 []
    refine ⟨d', s', q1, q2, q3, ?_⟩
    rw [← q4]
    have e1 : (b : Int) - 1 - ((p : Int) - (a : Int)) = (((b - 1) - (p - a) : Nat) : Int) := by omega
    simp only [EV.own] at t3
    rw [sq5, M_seq]; generalize sufC 6 (inB b245_0) = R; simp (disch := first | omega | assumption | exact S_wf (by assumption) _ | (simp; done) | (simp; omega)) [b245_0.eq_1, sufC, inB, hedC, sA, KF, decide_eq_true, decide_eq_false, if_pos, if_neg, wI, callK_f, ht, t3, e1]
  · obtain ⟨d', s', q1, q2, q3, q4⟩ := pdq6 hK k n hn m ih a b p lim wb wp d s hm hab hb h hd hB hl hp1 hp2 t [(50, .bool false)]
    refine ⟨d', s', q1, q2, q3, ?_⟩
    rw [← q4]
    rw [sq5, M_seq]; generalize sufC 6 (inB b245_0) = R; simp (disch := first | omega | assumption | exact S_wf (by assumption) _ | (simp; done) | (simp; omega)) [b245_0.eq_1, sufC, inB, hedC, sA, KF, decide_eq_true, decide_eq_false, if_pos, if_neg, wI, callK_f, ht]
theorem pdq4 (m : Nat) (ih : PdP ro K k n m) (a b lim : Nat) (wb wp : Bool) (d : Array UInt64) (s : St) (hm : b - a ≤ m + 1) (hab : 12 < b - a) (hb : b ≤ n) (h : At k d s) (hd : d.size = n) (hB : Go.Sort.Below lt6 a b d) (hl : lim < 4294967296) (ex : Env) :
    Ends k a b d s (M ro K (sufC 4 (inB b245_0)) KF ((0, sA k n) :: (1, vI a) :: (2, vI b) :: (3, vI lim) :: (8, .bool wb) :: (9, .bool wp) :: (10, vI (b - a : Nat)) :: ex) s) := by
  obtain ⟨x, t, s1, x1, x2, t2, t3⟩ := choose_t hK k n hn a b d s h hd (by omega) hb
  obtain ⟨d', s', q1, q2, q3, q4⟩ := pdq5 hK k n hn m ih a b x lim wb wp d s1 hm hab hb t2.1 hd hB hl x1 x2 t
  refine ⟨d', s', q1, q2, t2.trans q3, ?_⟩
  rw [← q4]
  simp only [EV.own] at t3
  rw [sq4, M_seq]; generalize sufC 5 (inB b245_0) = R; simp (disch := first | omega | assumption | exact S_wf (by assumption) _ | (simp; done) | (simp; omega)) [b245_0.eq_1, sufC, inB, hedC, sA, KF, decide_eq_true, decide_eq_false, if_pos, if_neg, wI, callK_f, t3]
theorem pdq3 (m : Nat) (ih : PdP ro K k n m) (a b lim : Nat) (wb wp : Bool) (d : Array UInt64) (s : St) (hm : b - a ≤ m + 1) (hab : 12 < b - a) (hb : b ≤ n) (h : At k d s) (hd : d.size = n) (hB : Go.Sort.Below lt6 a b d) (hl : lim < 4294967296) (h0 : 0 < lim) (ex : Env) :
    Ends k a b d s (M ro K (sufC 3 (inB b245_0)) KF ((0, sA k n) :: (1, vI a) :: (2, vI b) :: (3, vI lim) :: (8, .bool wb) :: (9, .bool wp) :: (10, vI (b - a : Nat)) :: ex) s) := by
  cases wb with
  | true =>
    obtain ⟨d', s', q1, q2, q3, q4⟩ := pdq4 hK k n hn m ih a b lim true wp d s hm hab hb h hd hB hl [(35, .bool false)]
    refine ⟨d', s', q1, q2, q3, ?_⟩
    rw [← q4]
    rw [sq3, M_seq]; generalize sufC 4 (inB b245_0) = R; simp (disch := first | omega | assumption | exact S_wf (by assumption) _ | (simp; done) | (simp; omega)) [b245_0.eq_1, sufC, inB, hedC, sA, KF, decide_eq_true, decide_eq_false, if_pos, if_neg, wI, callK_f]
  | false =>
    obtain ⟨d1, s1, t1, t2, t3⟩ := brk_t hK k n hn a b d s h hd (by omega) hb
    refine Ends.perm ?_ t1 t2
    obtain ⟨d', s', q1, q2, q3, q4⟩ := pdq4 hK k n hn m ih a b (lim - 1) false wp d1 s1 hm hab hb t2.1 (by rw [t1.1]; exact hd) (hB.perm (by omega) t1) (by omega) []
    refine ⟨d', s', q1, q2, q3, ?_⟩
    rw [← q4]
    have e1 : (lim : Int) - 1 = ((lim - 1 : Nat) : Int) := by omega
    simp only [EV.own] at t3
    rw [sq3, M_seq]; generalize sufC 4 (inB b245_0) = R; simp (disch := first | omega | assumption | exact S_wf (by assumption) _ | (simp; done) | (simp; omega)) [b245_0.eq_1, sufC, inB, hedC, sA, KF, decide_eq_true, decide_eq_false, if_pos, if_neg, wI, callK_f, t3, e1]
omit hK hn in
theorem pdq_in (e : Env) (s : St) : M ro K (.lop b245_0) [.bk 0, .fn []] e s = M ro K (sufC 0 (inB b245_0)) KF e s := by
  rw [M_lop]; exact M_blk _ _ _ _ _
theorem pdq_small (a b lim : Nat) (wb wp : Bool) (d : Array UInt64) (s : St) (h12 : b - a ≤ 12) (hab : a ≤ b) (hb : b ≤ n) (h : At k d s) (hd : d.size = n) :
    Ends k a b d s (M ro K (.lop b245_0) [.bk 0, .fn []] [(0, sA k n), (1, vI a), (2, vI b), (3, vI lim), (8, .bool wb), (9, .bool wp)] s) := by
  obtain ⟨s', t1, t2, t3⟩ := ins_t hK k n a b hn d s hab hb h hd
  obtain ⟨p1, p2⟩ := Go.Sort.insertionSort_holds (lt := lt6) swo6 d a b hab (by omega)
  refine ⟨_, s', p1, p2, t1, ?_⟩
  have e1 : (b : Int) - (a : Int) = ((b - a : Nat) : Int) := by omega
  rw [pdq_in, sq0, M_seq, sq1]
  generalize sufC 2 (inB b245_0) = R
  simp only [EV.own] at t3
  simp (disch := first | omega | assumption | exact S_wf (by assumption) _ | (simp; done) | (simp; omega)) [b245_0.eq_1, sufC, inB, hedC, sA, KF, decide_eq_true, decide_eq_false, if_pos, if_neg, wI, callK_f, e1, h12, t3]
theorem pdq_all : ∀ m, PdP ro K k n m := by
  intro m
  induction m with
  | zero => exact fun a b lim wb wp d s hm hab hb h hd hB hl => pdq_small hK k n hn a b lim wb wp d s (by omega) hab hb h hd
  | succ m ih =>
    intro a b lim wb wp d s hm hab hb h hd hB hl
    by_cases h12 : b - a ≤ 12
    · exact pdq_small hK k n hn a b lim wb wp d s h12 hab hb h hd
    have e1 : (b : Int) - (a : Int) = ((b - a : Nat) : Int) := by omega
    by_cases h0 : lim = 0
    · obtain ⟨s', t1, t2, t3⟩ := heap_t hK k n a b hn d s (by omega) hb h hd
      obtain ⟨p1, p2⟩ := Go.Sort.heapSort_holds (lt := lt6) swo6 d a b hab (by omega)
      refine ⟨_, s', p1, p2, t1, ?_⟩
      rw [pdq_in, sq0, M_seq, sq1, sq2]
      generalize sufC 3 (inB b245_0) = R
      simp only [EV.own] at t3
      simp (disch := first | omega | assumption | exact S_wf (by assumption) _ | (simp; done) | (simp; omega)) [b245_0.eq_1, sufC, inB, hedC, sA, KF, decide_eq_true, decide_eq_false, if_pos, if_neg, wI, callK_f, e1, h12, h0, t3]
    · obtain ⟨d', s', q1, q2, q3, q4⟩ := pdq3 hK k n hn m ih a b lim wb wp d s hm (by omega) hb h hd hB hl (by omega) [(29, .bool false)]
      refine ⟨d', s', q1, q2, q3, ?_⟩
      rw [← q4, pdq_in, sq0, M_seq, sq1, sq2]
      generalize sufC 3 (inB b245_0) = R
      simp (disch := first | omega | assumption | exact S_wf (by assumption) _ | (simp; done) | (simp; omega)) [b245_0.eq_1, sufC, inB, hedC, sA, KF, decide_eq_true, decide_eq_false, if_pos, if_neg, wI, callK_f, e1, h12, h0]
theorem sort_t (d : Array UInt64) (s : St) (h : At k d s) (hd : d.size = n) :
    ∃ d' s', d'.toList.Perm d.toList ∧ d'.size = n ∧ (∀ i j, i < j → j < n → ¬ g6 d' j < g6 d' i) ∧ Tn k d' s s' ∧ K (.func (.func 202) #[] #[]) [sA k n] s = some (.tuple #[], s') := by
  have hw := h.w
  have hb : bl n ≤ 32 := by rw [bl_le]; omega
  obtain ⟨d', s', p1, p2, t1, t2⟩ := pdq_all hK k n hn n 0 n (bl n) true true d s (by omega) (by omega) (Nat.le_refl _) h hd (.inl rfl) (by omega)
  refine ⟨d', s', ?_, p1.1.trans hd, fun i j hij hj => ?_, t1, ?_⟩
  · have := p1.2.2
    rw [← hd] at this
    have e1 : d.extract 0 d.size = d := by simp
    have e2 : d'.extract 0 d.size = d' := by rw [← p1.1]; simp
    rw [e1, e2] at this
    exact this
  · have := p2 i j (by omega) hij (by omega)
    simpa [lt6, g6] using this
  · have hc := fun (pr : Option (List Nat)) => (len_fv hK (UInt64.ofNat n)).q (fun _ => rfl) hw (pr := pr)
    have e1 : ((n : Int) % 18446744073709551616).toNat = n := by omega
    have e2 : (UInt64.ofNat n).toNat = n := by rw [UInt64.toNat_ofNat']; omega
    rw [e2] at hc
    rw [← call245 hK] at t2
    simp only [sA, EV.own, show ((0 : Nat) : Int) = 0 from rfl] at t2 ⊢
    rw [go202 hK _ _ rfl]
    simp (disch := first | omega | assumption | exact S_wf (by assumption) _ | (simp; done) | (simp; omega)) [c202, decide_eq_true, decide_eq_false, if_pos, if_neg, wI, callK_f, hc, e1, t2]
end
end Go.Proofs.YtakdnpafdadblaaGreat.EV.W
