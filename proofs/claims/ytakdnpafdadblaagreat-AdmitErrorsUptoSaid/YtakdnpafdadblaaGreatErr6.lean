/-
  PROVED: 'tarnlaw17.AdmitErrors' returns true and leaves its argument as it was, where the argument is of bulk at most 1048576 (Rows.AdmitErrorsUptoSaid). Part 6 of 7.
-/
import Derived.Test.YtakdnpafdadblaaGreatErr5
import Derived.KernelRfl
set_option linter.unusedSimpArgs false
set_option linter.unusedVariables false
set_option linter.unusedSectionVars false
namespace Go.Proofs.YtakdnpafdadblaaGreat.EV.W
open Go
set_option maxRecDepth 8000
set_option maxHeartbeats 1000000
variable {ro : Addr → Option Value} {K : H}
theorem rep_len1 (z : Value) : ∀ m, (rep [z] m).length = m
  | 0 => rfl
  | m + 1 => by simp [rep, rep_len1 z m]
section
variable (hK : Std ro K) (k n : Nat) (hn : n < 4294967296)
include hK hn
theorem cmp_inner (k0 : Nat) (h0 : 0 < k0) (hk : k0 < n) : ∀ (j i x : Nat) (d : Array UInt64) (s : St), i + j = n - k0 → 0 < i → x < k0 + i → At k d s → d.size = n →
    ∃ d' s' x', At k d' s' ∧ d'.size = n ∧ Exd (· = k) s s' ∧ x' < n ∧ ∀ kk : List Fm, M ro K (.lop b203_0) (.bk 2 :: kk) [(0, sA k n), (3, vI x), (4, .slice (some (EV.own k k0)) (n - k0) 1), (5, vI i)] s = Rk ro K .nrm kk [(0, sA k n), (3, vI (x' : Nat)), (4, .slice (some (EV.own k k0)) (n - k0) 1), (5, vI (n - k0 : Nat)), (32, .bool false)] s' := by
  intro j
  induction j with
  | zero =>
    intro i x d s hij hi hx h hd
    have : i = n - k0 := by omega
    subst this
    refine ⟨d, s, x, h, hd, (Ex.refl h.w).d _, by omega, fun kk => ?_⟩
    rw [M_lop]
    simp (disch := first | omega | assumption | exact S_wf (by assumption) _ | (simp; done) | (simp; omega)) [Mb _ _ b203_0.eq_1, decide_eq_true, decide_eq_false, if_pos, if_neg, sA]
  | succ j ih =>
    intro i x d s hij hi hx h hd
    have hg := h.g
    have hm := h.m
    have hii : i < n - k0 := by omega
    have e1 : (i : Int) - 1 = ((i - 1 : Nat) : Int) := by omega
    have r1 := h.rd (ro := ro) (k0 + i) (by omega)
    have r0 := h.rd (ro := ro) (k0 + (i - 1)) (by omega)
    by_cases hc : g6 d (k0 + i) = g6 d (k0 + (i - 1))
    · obtain ⟨d', s', x', q1, q2, q3, q4, q5⟩ := ih (i + 1) x d s (by omega) (by omega) (by omega) h hd
      refine ⟨d', s', x', q1, q2, q3, q4, fun kk => ?_⟩
      rw [← q5 kk, M_lop]
      simp (disch := first | omega | assumption | exact S_wf (by assumption) _ | (simp; done) | (simp; omega)) [Mb _ _ b203_0.eq_1, decide_eq_true, decide_eq_false, if_pos, if_neg, sA, wI, e1, hii, r1, r0, hc]
    · have hp := h.put (d.setIfInBounds x (g6 d (k0 + i)))
      obtain ⟨d', s', x', q1, q2, q3, q4, q5⟩ := ih (i + 1) (x + 1) _ _ (by omega) (by omega) (by omega) hp.1 (by simpa using hd)
      refine ⟨d', s', x', q1, q2, hp.2.trans q3 (fun _ _ h => h) (fun _ _ h => h), q4, fun kk => ?_⟩
      rw [← q5 kk, M_lop]
      simp (disch := first | omega | assumption | exact S_wf (by assumption) _ | (simp; done) | (simp; omega)) [Mb _ _ b203_0.eq_1, decide_eq_true, decide_eq_false, if_pos, if_neg, sA, wI, e1, hii, r1, r0, hc, hg, hm, rw6_set]
theorem cmp_loop (d : Array UInt64) (s : St) (h : At k d s) (hd : d.size = n) : ∀ (j i : Nat), i + j = n → 0 < i →
    ∃ m s', Exd (· = k) s s' ∧ m ≤ n ∧ (m = n ↔ ∀ q, i ≤ q → q < n → g6 d q ≠ g6 d (q - 1)) ∧ (if m = n then s' = s ∧ ∀ kk : List Fm, M ro K (.lop b203_1) (.bk 0 :: kk) [(0, sA k n), (3, vI i)] s = Rk ro K .nrm kk [(0, sA k n), (3, vI n), (13, .bool false)] s' else ∀ kk : List Fm, M ro K (.lop b203_1) (.bk 0 :: kk) [(0, sA k n), (3, vI i)] s = Rk ro K .ret kk [(2, sA k m)] s') := by
  intro j
  induction j with
  | zero =>
    intro i hij hi
    have : i = n := by omega
    subst this
    refine ⟨i, s, (Ex.refl h.w).d _, Nat.le_refl _, ⟨fun _ q h1 h2 => by omega, fun _ => rfl⟩, ?_⟩
    rw [if_pos rfl]
    refine ⟨rfl, fun kk => ?_⟩
    rw [M_lop]
    simp (disch := first | omega | assumption | exact S_wf (by assumption) _ | (simp; done) | (simp; omega)) [Mb _ _ b203_1.eq_1, decide_eq_true, decide_eq_false, if_pos, if_neg, sA]
  | succ j ih =>
    intro i hij hi
    have hii : i < n := by omega
    have e1 : (i : Int) - 1 = ((i - 1 : Nat) : Int) := by omega
    have r1 := h.rd (ro := ro) i (by omega)
    have r0 := h.rd (ro := ro) (i - 1) (by omega)
    by_cases hc : g6 d i = g6 d (i - 1)
    · obtain ⟨d', s1, x', q1, q2, q3, q4, q5⟩ := cmp_inner hK k n hn i hi hii (n - i - 1) 1 i d s (by omega) (by omega) (by omega) h hd
      obtain ⟨m, hm⟩ : ∃ m, n - x' = m + 1 := ⟨n - x' - 1, by omega⟩
      have hrep : rep [v64 0] (n - x') = v64 0 :: rep [v64 0] m := by rw [hm]; rfl
      have c2 := Exd.put q1.w q1.g (some (splice (rw6 d') x' (v64 0 :: rep [v64 0] m)))
      have qg := q1.g
      have qm := q1.m
      have hlen : x' + (m + 1) ≤ n := by omega
      refine ⟨x', _, q3.trans c2 (fun _ _ h => h) (fun _ _ h => h), by omega, ⟨fun hh => absurd hh (by omega), fun hh => absurd hc (hh i (Nat.le_refl _) hii)⟩, ?_⟩
      rw [if_neg (by omega)]
      intro kk
      rw [M_lop]
      simp only [sA, EV.own] at q5
      push_cast at q5
      simp (disch := first | omega | assumption | exact S_wf (by assumption) _ | (simp; done) | (simp; omega)) [Mb _ _ b203_1.eq_1, decide_eq_true, decide_eq_false, if_pos, if_neg, sA, wI, e1, hii, r1, r0, hc, sliOk, sliAdr, sliCap, roS, q5, q4, hrep, rep_len1, qg, qm, hlen, q2]
    · obtain ⟨m, s', u1, u2, u3, u4⟩ := ih (i + 1) (by omega) (by omega)
      have step : ∀ kk : List Fm, M ro K (.lop b203_1) (.bk 0 :: kk) [(0, sA k n), (3, vI i)] s = M ro K (.lop b203_1) (.bk 0 :: kk) [(0, sA k n), (3, vI (i + 1 : Nat))] s := fun kk => by
        rw [M_lop]
        simp (disch := first | omega | assumption | exact S_wf (by assumption) _ | (simp; done) | (simp; omega)) [Mb _ _ b203_1.eq_1, decide_eq_true, decide_eq_false, if_pos, if_neg, sA, wI, e1, hii, r1, r0, hc]
      refine ⟨m, s', u1, u2, u3.trans ⟨fun hh q h1 h2 => ?_, fun hh q h1 h2 => hh q (by omega) h2⟩, ?_⟩
      · by_cases hq : q = i
        · subst hq; exact hc
        · exact hh q (by omega) h2
      · split at u4
        · rename_i hm; rw [if_pos hm]; exact ⟨u4.1, fun kk => (step kk).trans (u4.2 kk)⟩
        · rename_i hm; rw [if_neg hm]; exact fun kk => (step kk).trans (u4 kk)
theorem compact_t (d : Array UInt64) (s : St) (h : At k d s) (hd : d.size = n) :
    ∃ m s', Exd (· = k) s s' ∧ m ≤ n ∧ (m = n ↔ ∀ q, 0 < q → q < n → g6 d q ≠ g6 d (q - 1)) ∧ K (.func (.func 203) #[] #[]) [sA k n] s = some (sA k m, s') := by
  rw [go203 hK _ _ rfl]
  by_cases h2 : n < 2
  · refine ⟨n, s, (Ex.refl h.w).d _, Nat.le_refl _, ⟨fun _ q h1 h2 => by omega, fun _ => rfl⟩, ?_⟩
    simp (disch := first | omega | assumption | exact S_wf (by assumption) _ | (simp; done) | (simp; omega)) [c203, decide_eq_true, decide_eq_false, if_pos, if_neg, sA, h2]
  · obtain ⟨m, s', u1, u2, u3, u4⟩ := cmp_loop hK k n hn d s h hd (n - 1) 1 (by omega) (by omega)
    refine ⟨m, s', u1, u2, u3, ?_⟩
    have h2' : ¬ (n : Int) < 2 := by omega
    split at u4
    · rename_i hm
      have u5 := u4.2
      simp only [sA, EV.own] at u5
      push_cast at u5
      simp (disch := first | omega | assumption | exact S_wf (by assumption) _ | (simp; done) | (simp; omega)) [c203, decide_eq_true, decide_eq_false, if_pos, if_neg, sA, h2', h2, u5, hm]
    · simp only [sA, EV.own] at u4
      push_cast at u4
      simp (disch := first | omega | assumption | exact S_wf (by assumption) _ | (simp; done) | (simp; omega)) [c203, decide_eq_true, decide_eq_false, if_pos, if_neg, sA, h2', h2, u4]
end
end Go.Proofs.YtakdnpafdadblaaGreat.EV.W
namespace Go.Proofs.YtakdnpafdadblaaGreat.EV.W
open Go
set_option maxRecDepth 8000
set_option maxHeartbeats 1000000
variable {ro : Addr → Option Value} {K : H}
theorem lset_hd (l : Nat) (r x : Rec) (rest : List (Nat × Rec)) : lset ((l, r) :: rest) l x = (l, x) :: rest := by simp [lset]
theorem lget_hd (l : Nat) (r : Rec) (rest : List (Nat × Rec)) : lget ((l, r) :: rest) l = some r := by simp [lget]
theorem round_run {l : Nat} {r : Rec} {rest : List (Nat × Rec)} {as : List Value} {t t1 t2 : St} {e0 e1 e2 : Env} {o : Out} (hlf : t.lf ≤ l) (hlps : t.lps = (l, r) :: rest) (hst : r.st = .ready) (hset : setAll r.env r.ps as = some e0)
    (h1 : M ro K r.asg [.rb l r.body] e0 t = Rk ro K .nrm [.rb l r.body] e1 t1) (hl1 : t1.lps = t.lps)
    (h2 : M ro K r.body [.rnd l] e1 { t1 with lps := (l, { r with st := .busy }) :: rest } = Rk ro K o [.rnd l] e2 t2) (hl2 : t2.lps = (l, { r with st := .busy }) :: rest) :
    roundL ro K l as t = some (.bool o.isNrm, { t2 with lps := (l, { r with st := if o.isNrm then .ready else .done, pend := o }) :: rest }) := by
  rw [roundL_M hlf (by rw [hlps]; exact lget_hd _ _ _) hst hset, h1, Rk_rb _ _ _ _ (by rw [hl1, hlps]; exact lget_hd _ _ _) hst, hl1, hlps, lset_hd, h2, Rk_rnd _ _ _ _ (by rw [hl2]; exact lget_hd _ _ _), hl2, lset_hd]
def wl (s : St) (x : List (Nat × Rec)) : St := { s with lps := x }
theorem wl_wl (s : St) (x y : List (Nat × Rec)) : wl (wl s x) y = wl s y := rfl
theorem wl_busy {s : St} (w : WF s) {l : Nat} {r r' : Rec} {rest : List (Nat × Rec)} (h : s.lps = (l, r) :: rest) : WF (wl s ((l, r') :: rest)) := by
  have hk := w.lk
  rw [h] at hk
  exact ⟨w.fl, w.lf, w.pr, w.len, fun p hp => by
    rcases List.mem_cons.1 hp with rfl | hp
    · exact hk (l, r) (by simp)
    · exact hk p (by simp [hp])⟩
theorem Exd.wl {D : Nat → Prop} {s s2 : St} {x : List (Nat × Rec)} (h : Exd D (W.wl s x) s2) : Exd D s (W.wl s2 s.lps) := ⟨h.n, h.nl, h.row, rfl, h.fl, h.lf, h.pr, h.len⟩
theorem Mo.wl (F : Fp) (s : St) (x : List (Nat × Rec)) : Mo F s F (W.wl s x) := ⟨Nat.le_refl _, fun _ _ h => ⟨rfl, h⟩⟩
def runN (f : Int) : List T → Nat
  | [] => 0
  | t :: l => if t.frm = f then runN f l + 1 else 0
theorem runN_le (f : Int) : ∀ l, runN f l ≤ l.length
  | [] => Nat.le_refl _
  | t :: l => by rw [runN]; have := runN_le f l; split <;> simp <;> omega
theorem run_loop (F : Fp) (L : List T) (hz : L.length < 4294967296) (a : Option Addr) (c : Nat) (kl : Nat) (u : St) (r : Sl shTx ro F u (.slice a L.length c) L) (hg : u.get kl = some [.slice a L.length c]) (y w : Value) (f : Int) :
    ∀ (j i : Nat), i + j = L.length → ∀ kk : List Fm, M ro K (.lop b244_0) (.bk 2 :: kk) [(0, y), (1, .pointer (some (EV.own kl 0))), (3, w), (4, vI f), (5, vI i)] u = Rk ro K .nrm kk [(0, y), (1, .pointer (some (EV.own kl 0))), (3, w), (4, vI f), (5, vI (i + runN f (L.drop i) : Nat)), (25, .bool false)] u := by
  intro j
  induction j with
  | zero =>
    intro i hij kk
    have : i = L.length := by omega
    subst this
    rw [M_lop, List.drop_of_length_le (Nat.le_refl _)]
    simp (disch := first | omega | assumption | exact S_wf (by assumption) _ | (simp; done) | (simp; omega)) [Mb _ _ b244_0.eq_1, decide_eq_true, decide_eq_false, if_pos, if_neg, hg, runN]
  | succ j ih =>
    intro i hij kk
    obtain ⟨b, hb, q0, q1⟩ := r.atF i (by omega)
    subst hb
    rw [List.drop_eq_getElem_cons (show i < L.length by omega), runN]
    by_cases hf : L[i].frm = f
    · rw [if_pos hf]
      have := ih (i + 1) (by omega) kk
      rw [show i + (runN f (L.drop (i + 1)) + 1) = i + 1 + runN f (L.drop (i + 1)) by omega, ← this, M_lop]
      simp (disch := first | omega | assumption | exact S_wf (by assumption) _ | (simp; done) | (simp; omega)) [Mb _ _ b244_0.eq_1, decide_eq_true, decide_eq_false, if_pos, if_neg, hg, wI, q0, hf]
    · rw [if_neg hf, M_lop]
      simp (disch := first | omega | assumption | exact S_wf (by assumption) _ | (simp; done) | (simp; omega)) [Mb _ _ b244_0.eq_1, decide_eq_true, decide_eq_false, if_pos, if_neg, hg, wI, q0, hf]
abbrev aZ : Acct := ⟨0, U0⟩
def wOk (A : List Acct) (f : Int) (L : List T) : Bool := decide (0 ≤ f) && match spentP L with
  | none => false
  | some x => decide ((L.headD ⟨0, 0, U0, U0, U0, U0, 0, [], []⟩).nonce = (A.getD f.toNat aZ).nonce) && decide (x.val ≤ (A.getD f.toNat aZ).bal.val)
noncomputable def recW (e : Env) : Rec := { env := e, ps := [37, 38], asg := b125_0, body := b125_1, st := .ready, pend := .nrm }
theorem cmpN_gt0 (a b : Nat) : (0 < cmpN a b) ↔ ¬ a ≤ b := by
  unfold cmpN
  split
  · constructor
    · intro h; omega
    · intro h; omega
  · split
    · constructor
      · intro h; omega
      · intro h; omega
    · constructor
      · intro h; omega
      · intro h; omega
theorem wide_round (hK : Std ro K) (F : Fp) (b : Bk) (a t l : Value) (kb kr : Nat) (e : Env) (he1 : lk e 1 = some (.pointer (some (EV.own kb 0)))) (he2 : lk e 2 = some (.pointer (some (EV.own kr 0)))) (u : St) (hu : WF u) (lp : Nat) (rest : List (Nat × Rec)) (hlf : u.lf ≤ lp) (hlps : u.lps = (lp, recW e) :: rest)
    (hg : u.get kb = some (bkC b a t l)) (hgr : u.get kr = some [.bool false]) (hm : u.may kr = true) (hne : kb ≠ kr) (ra : Sl shAcct ro F u a b.accts) (h8 : b.accts.length = 8) (f : Int) (sl : Value) (L : List T) (rs : Sl shTx ro F u sl L) (hsm : ∀ x ∈ L, Sm x) (hz : L.length < 4294967296) (hf : 0 ≤ f → f < 8 ∧ L ≠ []) :
    ∃ u', Exd (· = kr) u u' ∧ u'.get kr = some [.bool false] ∧ roundL ro K lp [vI f, sl] u = some (.bool (wOk b.accts f L), if wOk b.accts f L = true then u' else wl u' ((lp, { recW e with st := .done, pend := .ret }) :: rest)) := by
  obtain ⟨v, hv⟩ : ∃ v, v = wl u ((lp, { recW e with st := .busy }) :: rest) := ⟨_, rfl⟩
  have hvw : WF v := by rw [hv]; exact wl_busy hu hlps
  have gv : v.get kb = some (bkC b a t l) := by rw [hv]; exact hg
  have gr : v.get kr = some [.bool false] := by rw [hv]; exact hgr
  have mv : v.may kr = true := by rw [hv]; exact hm
  have rav : Sl shAcct ro F v a b.accts := by rw [hv]; exact ra.mo (Mo.wl F u _)
  have rsv : Sl shTx ro F v sl L := by rw [hv]; exact rs.mo (Mo.wl F u _)
  have h1 : M ro K (recW e).asg [.rb lp (recW e).body] ((38, sl) :: (37, vI f) :: e) u = Rk ro K .nrm [.rb lp (recW e).body] [(1, .pointer (some (EV.own kb 0))), (2, .pointer (some (EV.own kr 0))), (3, vI f), (4, sl)] u := by
    show M ro K b125_0 [.rb lp b125_1] _ u = _
    simp (disch := first | omega | assumption | exact S_wf (by assumption) _ | (simp; done) | (simp; omega)) [Mb _ _ b125_0.eq_1, he1, he2]
    rfl
  have fin : ∀ (o : Out) (e2 : Env) (t2 : St), (o = .nrm ∨ o = .ret) → Exd (· = kr) v t2 → t2.get kr = some [.bool false] → M ro K b125_1 [.rnd lp] [(1, .pointer (some (EV.own kb 0))), (2, .pointer (some (EV.own kr 0))), (3, vI f), (4, sl)] v = Rk ro K o [.rnd lp] e2 t2 →
      ∃ u', Exd (· = kr) u u' ∧ u'.get kr = some [.bool false] ∧ roundL ro K lp [vI f, sl] u = some (.bool o.isNrm, if o.isNrm = true then u' else wl u' ((lp, { recW e with st := .done, pend := .ret }) :: rest)) := by
    intro o e2 t2 ho he hgt hM
    refine ⟨wl t2 u.lps, ?_, hgt, ?_⟩
    · rw [hv] at he; exact he.wl
    · have hl2 : t2.lps = (lp, { recW e with st := .busy }) :: rest := by rw [he.lp, hv]; rfl
      rw [hv] at hM
      rw [round_run (r := recW e) hlf hlps rfl rfl h1 rfl hM hl2, wl_wl]
      rcases ho with rfl | rfl
      · rw [hlps]; rfl
      · rfl
  have sg : ∀ x, (S v x).get kb = some (bkC b a t l) := fun x => by rw [S_old _ _ (St.get_lt gv)]; exact gv
  have sgr : ∀ x, (S v x).get kr = some [.bool false] := fun x => by rw [S_old _ _ (St.get_lt gr)]; exact gr
  have smr : ∀ x, (S v x).may kr = true := fun x => by rw [((S_ex hvw x).d (fun _ => False)).may]; exact mv
  have put : ∀ x, Exd (· = kr) v ((S v x).put kr (some [.bool false])) ∧ ((S v x).put kr (some [.bool false])).get kr = some [.bool false] := fun x =>
    ⟨((S_ex hvw x).d (fun j => j = kr)).trans (Exd.put (S_wf hvw x) (sgr x) _) (fun _ _ h => h) (fun _ _ h => h), St.get_put_same (sgr x) _⟩
  obtain ⟨q, hq⟩ : ∃ q, q = wOk b.accts f L := ⟨_, rfl⟩
  rw [← hq]
  unfold wOk at hq
  by_cases h0 : 0 ≤ f
  case neg =>
    rw [decide_eq_false h0, Bool.false_and] at hq
    subst hq
    have hp : Exd (· = kr) v (v.put kr (some [.bool false])) := Exd.put hvw gr _
    refine fin .ret [] (v.put kr (some [.bool false])) (.inr rfl) hp (St.get_put_same gr _) ?_
    simp (disch := first | omega | assumption | exact S_wf (by assumption) _ | (simp; done) | (simp; omega)) [Mb _ _ b125_1.eq_1, decide_eq_true, decide_eq_false, if_pos, if_neg, gr, mv]
  obtain ⟨f8, hL⟩ := hf h0
  rw [decide_eq_true h0, Bool.true_and] at hq
  obtain ⟨n, rfl⟩ : ∃ n : Nat, f = n := ⟨f.toNat, by omega⟩
  have hsp := fun (pr : Option (List Nat)) => spentE_q hK hvw rsv hsm hz pr
  obtain ⟨aa, ca, rfl⟩ := rav.len
  obtain ⟨al, cl, rfl⟩ := rsv.len
  have hLp : 0 < L.length := List.length_pos_iff.2 hL
  rw [h8] at rav gv sg
  cases hx : spentP L with
  | none =>
    rw [hx] at hsp hq
    dsimp only at hsp hq
    subst hq
    obtain ⟨p1, p2⟩ := put [some (cU U0)]
    refine fin .ret [] _ (.inr rfl) p1 p2 ?_
    simp (disch := first | omega | assumption | exact S_wf (by assumption) _ | (simp; done) | (simp; omega)) [Mb _ _ b125_1.eq_1, decide_eq_true, decide_eq_false, if_pos, if_neg, hsp, hvw, smr, sgr]
  | some x =>
    rw [hx] at hsp hq
    dsimp only at hsp hq
    have rda : ∀ y, ∃ b0, aa = some b0 ∧ rdAt ro (S v y) (shift b0 (n * 5)) 1 = some [vI (b.accts[n]'(by omega)).nonce] ∧ rdAt ro (S v y) (shift b0 (n * 5 + 1)) 4 = some [v64 (b.accts[n]'(by omega)).bal.a, v64 (b.accts[n]'(by omega)).bal.b, v64 (b.accts[n]'(by omega)).bal.c, v64 (b.accts[n]'(by omega)).bal.d] := fun y => by
      obtain ⟨b0, hb0, h5⟩ := (rav.mo ((S_ex hvw y).mo F)).atA n (by omega)
      refine ⟨b0, hb0, ?_, ?_⟩
      · simpa using h5.rd 1 (by simp)
      · have := h5.2 1 4 (by simp)
        rw [shift_shift] at this
        simpa using this
    obtain ⟨b0, rfl, -⟩ := rda []
    have rd1 : ∀ y, rdAt ro (S v y) (shift b0 (n * 5)) 1 = some [vI (b.accts[n]'(by omega)).nonce] := fun y => by
      obtain ⟨b1, e1, h5, -⟩ := rda y
      cases e1; exact h5
    have rd2 : ∀ y, rdAt ro (S v y) (shift b0 (n * 5 + 1)) 4 = some [v64 (b.accts[n]'(by omega)).bal.a, v64 (b.accts[n]'(by omega)).bal.b, v64 (b.accts[n]'(by omega)).bal.c, v64 (b.accts[n]'(by omega)).bal.d] := fun y => by
      obtain ⟨b1, e1, -, h5⟩ := rda y
      cases e1; exact h5
    obtain ⟨bl, hbl, -⟩ := rsv.atF 0 hLp
    subst hbl
    have rd3 : ∀ y, rdAt ro (S v y) (shift bl 1) 1 = some [vI (L[0]'hLp).nonce] := fun y => by
      obtain ⟨b1, e1, -, h5⟩ := (rsv.mo ((S_ex hvw y).mo F)).atF 0 hLp
      cases e1; simpa using h5
    have hA : b.accts.getD n aZ = b.accts[n]'(by omega) := by rw [List.getD_eq_getElem?_getD, List.getElem?_eq_getElem (by omega)]; rfl
    have hH : (L.headD ⟨0, 0, U0, U0, U0, U0, 0, [], []⟩) = L[0]'hLp := by
      cases L with
      | nil => simp at hLp
      | cons t l => rfl
    rw [Int.toNat_natCast, hA, hH] at hq
    have hc := fun (a b c d e f g h : UInt64) (s : St) (hs : WF s) (pr : Option (List Nat)) => cmp_q hK a b c d e f g h hs pr
    have hcl := cmpN_gt0 x.val (b.accts[n]'(by omega)).bal.val
    by_cases hn : (L[0]'hLp).nonce = (b.accts[n]'(by omega)).nonce
    · rw [decide_eq_true hn, Bool.true_and] at hq
      by_cases hle : x.val ≤ (b.accts[n]'(by omega)).bal.val
      · rw [decide_eq_true hle] at hq
        subst hq
        have hcl' : ¬ 0 < cmpN x.val (b.accts[n]'(by omega)).bal.val := fun hh => hcl.1 hh hle
        refine fin .nrm [(2, .pointer (some (EV.own kr 0))), (71, .bool false)] (S v [some (cU x)]) (.inl rfl) ((S_ex hvw _).d _) (sgr _) ?_
        simp (disch := first | omega | assumption | exact S_wf (by assumption) _ | (simp; done) | (simp; omega)) [Mb _ _ b125_1.eq_1, decide_eq_true, decide_eq_false, if_pos, if_neg, hsp, hvw, smr, sgr, sg, rd1, rd2, rd3, hn, hc, U_eta, hcl', f8]
      · rw [decide_eq_false hle] at hq
        subst hq
        have hcl' : 0 < cmpN x.val (b.accts[n]'(by omega)).bal.val := hcl.2 hle
        obtain ⟨p1, p2⟩ := put [some (cU x)]
        refine fin .ret [] _ (.inr rfl) p1 p2 ?_
        simp (disch := first | omega | assumption | exact S_wf (by assumption) _ | (simp; done) | (simp; omega)) [Mb _ _ b125_1.eq_1, decide_eq_true, decide_eq_false, if_pos, if_neg, hsp, hvw, smr, sgr, sg, rd1, rd2, rd3, hn, hc, U_eta, hcl', f8]
    · rw [decide_eq_false hn, Bool.false_and] at hq
      subst hq
      obtain ⟨p1, p2⟩ := put [some (cU x)]
      refine fin .ret [] _ (.inr rfl) p1 p2 ?_
      simp (disch := first | omega | assumption | exact S_wf (by assumption) _ | (simp; done) | (simp; omega)) [Mb _ _ b125_1.eq_1, decide_eq_true, decide_eq_false, if_pos, if_neg, hsp, hvw, smr, sgr, sg, rd1, rd3, hn, f8]
def wGo (A : List Acct) : Nat → Int → List T → Bool
  | 0, _, _ => true
  | _ + 1, _, [] => true
  | m + 1, last, t :: l => if t.frm ≤ last ∨ 8 ≤ t.frm then false else
    if wOk A t.frm ((t :: l).take (runN t.frm (t :: l))) = true then wGo A m t.frm ((t :: l).drop (runN t.frm (t :: l))) else false
theorem wide_chains (hK : Std ro K) (F : Fp) (b : Bk) (ba bt bl' : Value) (kb kr kl : Nat) (e : Env) (he1 : lk e 1 = some (.pointer (some (EV.own kb 0)))) (he2 : lk e 2 = some (.pointer (some (EV.own kr 0)))) (t : St) (ht : WF t) (lp : Nat) (rest : List (Nat × Rec)) (hlf : t.lf ≤ lp) (hlps : t.lps = (lp, recW e) :: rest)
    (hg : t.get kb = some (bkC b ba bt bl')) (hml : t.may kl = true) (hmr : t.may kr = true) (n1 : kb ≠ kr) (n2 : kl ≠ kr) (n3 : kl ≠ kb) (hF : ∀ j, F j → j ≠ kl ∧ j ≠ kr) (ra : Sl shAcct ro F t ba b.accts) (h8 : b.accts.length = 8) :
    ∀ (m : Nat) (L : List T) (last : Int) (a : Option Addr) (c : Nat) (u : St), L.length ≤ m → -1 ≤ last → (∀ x ∈ L, Sm x) → L.length < 4294967296 → Exd (fun j => j = kl ∨ j = kr) t u → u.get kl = some [.slice a L.length c] → u.get kr = some [.bool false] → Sl shTx ro F u (.slice a L.length c) L → Cp 21 (.slice a L.length c) →
    ∃ u', Exd (fun j => j = kl ∨ j = kr) t u' ∧ u'.get kr = some [.bool false] ∧ M ro K (.lop b244_1) [.bk 0, .fn []] [(0, .func (.yield lp) #[] #[]), (1, .pointer (some (EV.own kl 0))), (3, vI last)] u = some (.tuple #[], if wGo b.accts m last L = true then u' else wl u' ((lp, { recW e with st := .done, pend := .ret }) :: rest)) := by
  intro m
  induction m with
  | zero =>
    intro L last a c u hm hl hsm hz he gl gr r hcp
    have : L = [] := List.eq_nil_of_length_eq_zero (by omega)
    subst this
    refine ⟨u, he, gr, ?_⟩
    rw [M_lop]
    simp only [List.length_nil] at gl
    simp (disch := first | omega | assumption | exact S_wf (by assumption) _ | (simp; done) | (simp; omega)) [Mb _ _ b244_1.eq_1, decide_eq_true, decide_eq_false, if_pos, if_neg, gl, wGo]
  | succ m ih =>
    intro L last a c u hm hl hsm hz he gl gr r hcp
    cases L with
    | nil =>
      refine ⟨u, he, gr, ?_⟩
      rw [M_lop]
      simp only [List.length_nil] at gl
      simp (disch := first | omega | assumption | exact S_wf (by assumption) _ | (simp; done) | (simp; omega)) [Mb _ _ b244_1.eq_1, decide_eq_true, decide_eq_false, if_pos, if_neg, gl, wGo]
    | cons x L' =>
      obtain ⟨L, hL⟩ : ∃ L, L = x :: L' := ⟨_, rfl⟩
      have hLp : 0 < L.length := by rw [hL]; simp
      have hL0 : L[0]'hLp = x := by simp [hL]
      rw [← hL] at hm hsm hz gl r hcp
      have hw := he.wf ht
      have hlpsu : u.lps = (lp, recW e) :: rest := by rw [he.lp]; exact hlps
      have hlfu : u.lf ≤ lp := by rw [he.lf]; exact hlf
      have hgu : u.get kb = some (bkC b ba bt bl') := (he.row kb (St.get_lt hg) (by omega)).trans hg
      have mru : u.may kr = true := by rw [he.may]; exact hmr
      have mlu : u.may kl = true := by rw [he.may]; exact hml
      have rau : Sl shAcct ro F u ba b.accts := ra.mo (he.mo fun j hj => by have := hF j hj; omega)
      have hyl := fun (s : St) (as : List Value) => hK.yl lp #[] #[] as s
      have hrun := run_loop (K := K) F L hz a c kl u r gl (.func (.yield lp) #[] #[]) (vI last) x.frm L.length 0 (by omega)
      simp only [List.drop_zero, Nat.zero_add, show ((0 : Nat) : Int) = 0 from rfl] at hrun
      have hrl := runN_le x.frm L
      have hr1 : 1 ≤ runN x.frm L := by rw [hL, runN, if_pos rfl]; omega
      obtain ⟨n, hn⟩ : ∃ n, n = runN x.frm L := ⟨_, rfl⟩
      rw [← hn] at hrun hrl hr1
      obtain ⟨b0, hb0, q0, -⟩ := r.atF 0 hLp
      subst hb0
      rw [hL0] at q0
      simp only [Nat.zero_mul] at q0
      have hwg : wGo b.accts (m + 1) last (x :: L') = if x.frm ≤ last ∨ 8 ≤ x.frm then false else if wOk b.accts x.frm (L.take n) = true then wGo b.accts m x.frm (L.drop n) else false := by rw [wGo, ← hL, ← hn]
      rw [hwg]
      by_cases hbad : x.frm ≤ last ∨ 8 ≤ x.frm
      · rw [if_pos hbad]
        obtain ⟨u', v1, v2, v3⟩ := wide_round hK F b ba bt bl' kb kr e he1 he2 u hw lp rest hlfu hlpsu hgu gr mru n1 rau h8 (-1) (.slice (some b0) L.length c) L r hsm hz (fun h => by omega)
        have hwk : wOk b.accts (-1) L = false := by unfold wOk; rw [decide_eq_false (by omega)]; rfl
        rw [hwk] at v3
        simp only [if_neg Bool.false_ne_true] at v3 ⊢
        refine ⟨u', he.trans v1 (fun _ _ h => h) (fun _ _ h => .inr h), v2, ?_⟩
        rw [M_lop]
        simp only [EV.own] at hrun
        rcases hbad with hb1 | hb1
        · simp (disch := first | omega | assumption | exact S_wf (by assumption) _ | (simp; done) | (simp; omega)) [Mb _ _ b244_1.eq_1, decide_eq_true, decide_eq_false, if_pos, if_neg, gl, wI, q0, hrun, hb1, callK_f, hyl, v3]
        · by_cases hb2 : x.frm ≤ last
          · simp (disch := first | omega | assumption | exact S_wf (by assumption) _ | (simp; done) | (simp; omega)) [Mb _ _ b244_1.eq_1, decide_eq_true, decide_eq_false, if_pos, if_neg, gl, wI, q0, hrun, hb2, callK_f, hyl, v3]
          · simp (disch := first | omega | assumption | exact S_wf (by assumption) _ | (simp; done) | (simp; omega)) [Mb _ _ b244_1.eq_1, decide_eq_true, decide_eq_false, if_pos, if_neg, gl, wI, q0, hrun, hb1, hb2, callK_f, hyl, v3]
      · rw [if_neg hbad]
        have hb1 : ¬ x.frm ≤ last := fun h => hbad (.inl h)
        have hb2 : ¬ 8 ≤ x.frm := fun h => hbad (.inr h)
        have hsz : shTx.sz = 21 := rfl
        obtain ⟨-, s1, s2, -⟩ := r.sli hcp 0 n (by omega) hrl
        rw [hsz] at s1 s2
        simp only [List.drop_zero, Nat.sub_zero, Option.map_some] at s2
        have htl : (L.take n).length = n := by rw [List.length_take]; omega
        obtain ⟨u', v1, v2, v3⟩ := wide_round hK F b ba bt bl' kb kr e he1 he2 u hw lp rest hlfu hlpsu hgu gr mru n1 rau h8 x.frm _ (L.take n) s2 (fun y hy => hsm y (List.mem_of_mem_take hy)) (by omega) (fun h => ⟨by omega, fun hh => by rw [hh] at htl; simp at htl; omega⟩)
        simp only [EV.own] at hrun
        cases hok : wOk b.accts x.frm (L.take n) with
        | false =>
          rw [hok] at v3
          simp only [if_neg Bool.false_ne_true] at v3 ⊢
          refine ⟨u', he.trans v1 (fun _ _ h => h) (fun _ _ h => .inr h), v2, ?_⟩
          rw [M_lop]
          simp (disch := first | omega | assumption | exact S_wf (by assumption) _ | (simp; done) | (simp; omega)) [Mb _ _ b244_1.eq_1, decide_eq_true, decide_eq_false, if_pos, if_neg, gl, wI, q0, hrun, hb1, hb2, callK_f, hyl, idx, s1, v3]
        | true =>
          rw [hok] at v3
          simp only [if_true] at v3 ⊢
          have hw' := v1.wf hw
          have gl' : u'.get kl = some [.slice (some b0) L.length c] := (v1.row kl (St.get_lt gl) n2).trans gl
          have ml' : u'.may kl = true := by rw [v1.may]; exact mlu
          have r' := r.mo (v1.mo fun j hj => (hF j hj).2)
          obtain ⟨-, s3, s4, s5⟩ := r'.sli hcp n L.length hrl (Nat.le_refl _)
          rw [hsz] at s3 s4 s5
          have hdl : (L.drop n).length = L.length - n := by rw [List.length_drop]
          rw [List.take_of_length_le (by omega)] at s4
          have e2 : Exd (fun j => j = kl ∨ j = kr) t (u'.put kl (some [.slice ((some b0).map (sliAdr c n 21)) (L.drop n).length (sliCap (some b0) c n)])) :=
            (he.trans v1 (E := fun j => j = kl ∨ j = kr) (fun _ _ h => h) (fun _ _ h => .inr h)).trans (Exd.put hw' gl' _) (fun _ _ h => h) (fun _ _ h => .inl h)
          rw [← hdl] at s4 s5
          obtain ⟨u'', w1, w2, w3⟩ := ih (L.drop n) x.frm _ _ _ (by omega) (by omega) (fun y hy => hsm y (List.mem_of_mem_drop hy)) (by omega) e2 (St.get_put_same gl' _) ((St.get_put_other _ _ (Ne.symm n2) (St.get_lt gl')).trans v2)
            (s4.mo (Mo.trans ((Exd.put hw' gl' (some [.slice ((some b0).map (sliAdr c n 21)) (L.drop n).length (sliCap (some b0) c n)])).mo fun j hj => (hF j hj).1) (Mo.refl _ _))) s5
          refine ⟨u'', w1, w2, ?_⟩
          rw [← w3, M_lop]
          simp (disch := first | omega | assumption | exact S_wf (by assumption) _ | (simp; done) | (simp; omega)) [Mb _ _ b244_1.eq_1, decide_eq_true, decide_eq_false, if_pos, if_neg, gl, wI, q0, hrun, hb1, hb2, callK_f, hyl, idx, s1, v3, gl', ml', s3]
end Go.Proofs.YtakdnpafdadblaaGreat.EV.W
namespace Go.Proofs.YtakdnpafdadblaaGreat.EV.W
open Go
def Lx (p t : T) : Prop := p.frm < t.frm ∨ (p.frm = t.frm ∧ p.nonce < t.nonce)
theorem Lx.trans {a b c : T} (h : Lx a b) (k : Lx b c) : Lx a c := by unfold Lx at *; omega
theorem sortGo_iff : ∀ (l : List T) (p : T), sortGo p l = true ↔ (p :: l).Pairwise Lx
  | [], p => by simp [sortGo]
  | t :: l, p => by
    rw [sortGo, List.pairwise_cons]
    constructor
    · intro h
      split at h
      · rename_i h1
        have h2 := (sortGo_iff l t).1 h
        refine ⟨fun x hx => ?_, h2⟩
        rcases List.mem_cons.1 hx with rfl | hx
        · exact h1
        · exact Lx.trans h1 ((List.pairwise_cons.1 h2).1 x hx)
      · cases h
    · rintro ⟨h1, h2⟩
      have h3 := h1 t (by simp)
      unfold Lx at h3
      rw [if_pos h3]
      exact (sortGo_iff l t).2 h2
theorem sortOk_iff (l : List T) : sortOk l = true ↔ l.Pairwise Lx := by
  cases l with
  | nil => simp [sortOk]
  | cons t l => exact sortGo_iff l t
theorem linkT_sort (f : Int) : ∀ (l : List T) (n : Int), linkT f n l = true → (∀ t ∈ l, t.frm = f ∧ n < t.nonce) ∧ l.Pairwise Lx
  | [], _, _ => ⟨fun t h => (by cases h), .nil⟩
  | t :: l, n, h => by
    rw [linkT] at h
    split at h
    · rename_i h1
      obtain ⟨h2, h3⟩ := linkT_sort f l t.nonce h
      refine ⟨fun x hx => ?_, List.pairwise_cons.2 ⟨fun x hx => .inr ⟨by have := (h2 x hx).1; omega, (h2 x hx).2⟩, h3⟩⟩
      rcases List.mem_cons.1 hx with rfl | hx
      · exact ⟨h1.1, by omega⟩
      · have := h2 x hx; exact ⟨this.1, by omega⟩
    · cases h
theorem chainOk_sort {l : List T} (h : chainOk l = true) : l.Pairwise Lx ∧ l.all okT = true := by
  cases l with
  | nil => exact ⟨.nil, rfl⟩
  | cons t l =>
    rw [chainOk] at h
    simp only [Bool.and_eq_true] at h
    obtain ⟨h2, h3⟩ := linkT_sort t.frm l t.nonce h.1.2
    exact ⟨List.pairwise_cons.2 ⟨fun x hx => .inr ⟨(h2 x hx).1.symm, (h2 x hx).2⟩, h3⟩, h.1.1.2⟩
theorem runN_take (f : Int) : ∀ l : List T, ∀ t ∈ l.take (runN f l), t.frm = f
  | [], t, h => by simp at h
  | x :: l, t, h => by
    rw [runN] at h
    split at h
    · rename_i hx
      rw [List.take_succ_cons] at h
      rcases List.mem_cons.1 h with rfl | h
      · exact hx
      · exact runN_take f l t h
    · simp at h
theorem runN_drop (f : Int) : ∀ (l : List T) (t : T) (r : List T), l.drop (runN f l) = t :: r → t.frm ≠ f
  | [], t, r, h => by simp at h
  | x :: l, t, r, h => by
    rw [runN] at h
    split at h
    · rw [List.drop_succ_cons] at h; exact runN_drop f l t r h
    · rename_i hx
      rw [List.drop_zero] at h
      cases h; exact hx
theorem ofA_app (a b : List T) (x : Int) : ofA (a ++ b) x = ofA a x ++ ofA b x := List.filter_append ..
theorem ofA_all {l : List T} {x : Int} (h : ∀ t ∈ l, t.frm = x) : ofA l x = l := List.filter_eq_self.2 fun t ht => decide_eq_true (h t ht)
theorem ofA_none {l : List T} {x : Int} (h : ∀ t ∈ l, t.frm ≠ x) : ofA l x = [] := List.filter_eq_nil_iff.2 fun t ht => by simpa using h t ht
theorem acctFine_nil (ac : Acct) (L : List T) (x : Int) (h : ofA L x = []) : acctFine L ac x = true := by
  unfold acctFine; rw [h]; rfl
theorem covT_full (R : List T) (bal : U) (h : R ≠ []) : covT R bal R.length = R.length ↔ ∃ x, spentG U0 R = some x ∧ x.val ≤ bal.val := by
  have hle : ∀ n, covT R bal n ≤ n := by
    intro n
    induction n with
    | zero => exact Nat.le_refl _
    | succ n ih =>
      rw [covT]
      split
      · split <;> omega
      · omega
  obtain ⟨n, hn⟩ : ∃ n, R.length = n + 1 := ⟨R.length - 1, by have := List.length_pos_iff.2 h; omega⟩
  rw [hn, covT, ← hn, List.take_length]
  have := hle n
  cases hs : spentG U0 R with
  | none => simp; omega
  | some x =>
    dsimp only
    split
    · rename_i h1; simp [hn, h1]
    · rename_i h1; simp [h1]; omega
theorem fineGo_iff (L : List T) : ∀ (A : List Acct) (x : Int), fineGo L A x = true ↔ ∀ i (h : i < A.length), acctFine L A[i] (x + i) = true
  | [], x => by simp [fineGo]
  | a :: A, x => by
    rw [fineGo]
    constructor
    · intro h
      split at h
      · rename_i h1
        intro i hi
        cases i with
        | zero => simpa using h1
        | succ i =>
          have := (fineGo_iff L A (x + 1)).1 h i (by simpa using hi)
          rw [show x + 1 + (i : Int) = x + ((i + 1 : Nat) : Int) by omega] at this
          simpa using this
      · cases h
    · intro h
      have h0 := h 0 (by simp)
      simp only [List.getElem_cons_zero, show ((0 : Nat) : Int) = 0 from rfl, Int.add_zero] at h0
      rw [if_pos h0, fineGo_iff L A (x + 1)]
      intro i hi
      have := h (i + 1) (by simpa using hi)
      rw [show x + ((i + 1 : Nat) : Int) = x + 1 + (i : Int) by omega] at this
      simpa using this
theorem wOk_iff (A : List Acct) (f : Int) (R L : List T) (h : 0 ≤ f) (hR : R ≠ []) (hof : ofA L f = R) : wOk A f R = true ↔ acctFine L (A.getD f.toNat aZ) f = true := by
  unfold wOk acctFine
  rw [decide_eq_true h, Bool.true_and, hof, spentP_eq]
  have hc := covT_full R (A.getD f.toNat aZ).bal hR
  cases R with
  | nil => exact absurd rfl hR
  | cons t r =>
    simp only [List.headD_cons]
    by_cases hch : chainOk (t :: r) = true
    · rw [if_pos hch, hch, Bool.true_and]
      cases hs : spentG U0 (t :: r) with
      | none =>
        rw [hs] at hc
        simp only [Bool.and_eq_true, decide_eq_true_eq, hc]
        simp
      | some x =>
        rw [hs] at hc
        simp only [Bool.and_eq_true, decide_eq_true_eq, hc]
        simp
    · rw [if_neg hch]
      rw [Bool.not_eq_true] at hch
      rw [hch]; simp
theorem wGo_iff (A : List Acct) : ∀ (m : Nat) (last : Int) (L : List T), L.length ≤ m → -1 ≤ last → (wGo A m last L = true ↔ L.all okT = true ∧ L.Pairwise Lx ∧ (∀ t ∈ L, last < t.frm) ∧ ∀ x : Int, last < x → x < 8 → acctFine L (A.getD x.toNat aZ) x = true) := by
  intro m
  induction m with
  | zero =>
    intro last L hm hl
    have : L = [] := List.eq_nil_of_length_eq_zero (by omega)
    subst this
    simp only [wGo, true_iff]
    exact ⟨rfl, .nil, fun t h => (by cases h), fun x _ _ => acctFine_nil _ _ _ rfl⟩
  | succ m ih =>
    intro last L hm hl
    cases L with
    | nil =>
      simp only [wGo, true_iff]
      exact ⟨rfl, .nil, fun t h => (by cases h), fun x _ _ => acctFine_nil _ _ _ rfl⟩
    | cons t l =>
      rw [wGo]
      obtain ⟨L, hL⟩ : ∃ L, L = t :: l := ⟨_, rfl⟩
      obtain ⟨n, hn⟩ : ∃ n, n = runN t.frm L := ⟨_, rfl⟩
      have hnp : 1 ≤ n := by rw [hn, hL, runN, if_pos rfl]; omega
      rw [← hL, ← hn]
      have hRD : L = L.take n ++ L.drop n := (List.take_append_drop n L).symm
      have hR1 : ∀ x ∈ L.take n, x.frm = t.frm := by rw [hn]; exact runN_take t.frm L
      have hRne : L.take n ≠ [] := fun hh => by
        have := congrArg List.length hh
        rw [List.length_take, hL] at this
        simp at this; omega
      have hdl : (L.drop n).length ≤ m := by rw [List.length_drop]; rw [← hL] at hm; omega
      have htm : t ∈ L := by rw [hL]; simp
      constructor
      · intro h
        split at h
        · cases h
        rename_i hb
        split at h
        case isFalse => cases h
        rename_i hw
        have hb1 : last < t.frm := by omega
        have hb2 : t.frm < 8 := by omega
        obtain ⟨i1, i2, i3, i4⟩ := (ih t.frm (L.drop n) hdl (by omega)).1 h
        have hof : ofA L t.frm = L.take n := by
          rw [hRD, ofA_app, ofA_all hR1, ofA_none (fun x hx => by have := i3 x hx; omega), List.append_nil, List.take_append_drop]
        have hfine := (wOk_iff A t.frm (L.take n) L (by omega) hRne hof).1 hw
        have hch : chainOk (L.take n) = true := by
          unfold acctFine at hfine
          rw [hof] at hfine
          simp only [Bool.and_eq_true] at hfine
          exact hfine.1.1
        obtain ⟨c1, c2⟩ := chainOk_sort hch
        refine ⟨?_, ?_, ?_, ?_⟩
        · rw [hRD, List.all_append, c2, i1]; rfl
        · rw [hRD, List.pairwise_append]
          exact ⟨c1, i2, fun a ha b hb => .inl (by have := hR1 a ha; have := i3 b hb; omega)⟩
        · intro x hx
          rw [hRD, List.mem_append] at hx
          rcases hx with hx | hx
          · have := hR1 x hx; omega
          · have := i3 x hx; omega
        · intro x h1 h2
          rcases Int.lt_trichotomy x t.frm with h3 | h3 | h3
          · refine acctFine_nil _ _ _ (ofA_none fun y hy => ?_)
            rw [hRD, List.mem_append] at hy
            rcases hy with hy | hy
            · have := hR1 y hy; omega
            · have := i3 y hy; omega
          · rw [h3]; exact hfine
          · have h4 := i4 x h3 h2
            unfold acctFine at h4 ⊢
            have : ofA L x = ofA (L.drop n) x := by
              conv => lhs; rw [hRD]
              rw [ofA_app, ofA_none (l := L.take n) (fun y hy => by have := hR1 y hy; omega), List.nil_append]
            rw [this]; exact h4
      · rintro ⟨h1, h2, h3, h4⟩
        have hok := okT_parts (List.all_eq_true.1 h1 t htm)
        have hb1 := h3 t htm
        rw [if_neg (by omega)]
        have h2' := h2
        rw [hRD, List.pairwise_append] at h2'
        obtain ⟨p1, p2, p3⟩ := h2'
        have hhead : t ∈ L.take n := by
          obtain ⟨n', hn'⟩ : ∃ n', n = n' + 1 := ⟨n - 1, by omega⟩
          rw [hL, hn', List.take_succ_cons]; simp
        have hD : ∀ y ∈ L.drop n, t.frm < y.frm := by
          cases hd : L.drop n with
          | nil => intro y hy; cases hy
          | cons z r =>
            have hz : z.frm ≠ t.frm := runN_drop t.frm L z r (by rw [← hn]; exact hd)
            rw [hd] at p2 p3
            have hz2 : t.frm < z.frm := by have := p3 t hhead z (by simp); unfold Lx at this; omega
            intro y hy
            rcases List.mem_cons.1 hy with rfl | hy
            · exact hz2
            · have := (List.pairwise_cons.1 p2).1 y hy; unfold Lx at this; omega
        have hof : ofA L t.frm = L.take n := by
          conv => lhs; rw [hRD]
          rw [ofA_app, ofA_all hR1, ofA_none (fun x hx => by have := hD x hx; omega), List.append_nil]
        rw [if_pos ((wOk_iff A t.frm (L.take n) L (by omega) hRne hof).2 (h4 t.frm hb1 (by omega)))]
        refine (ih t.frm (L.drop n) hdl (by omega)).2 ⟨?_, p2, hD, fun x hx1 hx2 => ?_⟩
        · exact List.all_eq_true.2 fun y hy => List.all_eq_true.1 h1 y (List.mem_of_mem_drop hy)
        · have h5 := h4 x (by omega) hx2
          unfold acctFine at h5 ⊢
          have : ofA L x = ofA (L.drop n) x := by
            conv => lhs; rw [hRD]
            rw [ofA_app, ofA_none (l := L.take n) (fun y hy => by have := hR1 y hy; omega), List.nil_append]
          rw [this] at h5; exact h5
end Go.Proofs.YtakdnpafdadblaaGreat.EV.W
namespace Go.Proofs.YtakdnpafdadblaaGreat.EV.W
open Go
theorem findIx_iff (x : UInt64) : ∀ (l : List UInt64) (i : Nat), findIx l x i < 0 ↔ x ∉ l
  | [], i => by simp [findIx]
  | y :: l, i => by
    rw [findIx]
    split
    · rename_i h; subst h; simp
    · rename_i h
      rw [findIx_iff x l (i + 1), List.mem_cons, not_or]
      exact ⟨fun hh => ⟨fun e => h e.symm, hh⟩, fun hh => hh.2⟩
theorem idsGo_iff : ∀ (L : List T) (s : List UInt64), idsGo s L = if (L.map idT).Nodup ∧ ∀ t ∈ L, idT t ∉ s then some (s ++ L.map idT) else none
  | [], s => by simp [idsGo]
  | t :: L, s => by
    rw [idsGo]
    by_cases h : findIx s (idT t) 0 < 0
    · have h1 := (findIx_iff (idT t) s 0).1 h
      rw [if_pos h, idsGo_iff L (s ++ [idT t])]
      have : ((L.map idT).Nodup ∧ ∀ x ∈ L, idT x ∉ s ++ [idT t]) ↔ (((t :: L).map idT).Nodup ∧ ∀ x ∈ t :: L, idT x ∉ s) := by
        rw [List.map_cons, List.nodup_cons]
        constructor
        · rintro ⟨q1, q2⟩
          refine ⟨⟨fun hm => ?_, q1⟩, fun x hx => ?_⟩
          · obtain ⟨x, hx, e⟩ := List.mem_map.1 hm
            exact q2 x hx (by rw [e]; simp)
          · rcases List.mem_cons.1 hx with rfl | hx
            · exact h1
            · exact fun hm => q2 x hx (List.mem_append.2 (.inl hm))
        · rintro ⟨⟨q0, q1⟩, q2⟩
          refine ⟨q1, fun x hx hm => ?_⟩
          rcases List.mem_append.1 hm with hm | hm
          · exact q2 x (by simp [hx]) hm
          · exact q0 (List.mem_map.2 ⟨x, hx, by simpa using hm⟩)
      by_cases hc : (L.map idT).Nodup ∧ ∀ x ∈ L, idT x ∉ s ++ [idT t]
      · rw [if_pos hc, if_pos (this.1 hc)]; simp
      · rw [if_neg hc, if_neg (fun e => hc (this.2 e))]
    · rw [if_neg h, if_neg (fun e => h ((findIx_iff (idT t) s 0).2 (e.2 t (by simp))))]
theorem limboGo_asc : ∀ (l : List Held) (q : Option T), limboGo q l = true → (∀ t, q = some t → ∀ x ∈ l, idT t < idT x.tx) ∧ (l.map fun x => idT x.tx).Pairwise (· < ·)
  | [], q, h => ⟨fun t _ x hx => (by cases hx), .nil⟩
  | y :: l, q, h => by
    have key : limboGo (some y.tx) l = true ∧ (∀ t, q = some t → idT t < idT y.tx) := by
      cases q with
      | none =>
        rw [limboGo] at h
        split at h
        · exact ⟨h, fun t ht => (by cases ht)⟩
        · cases h
      | some p =>
        rw [limboGo] at h
        split at h
        · rename_i hh
          rw [Bool.and_eq_true, decide_eq_true_eq] at hh
          exact ⟨h, fun t ht => by cases ht; exact hh.2⟩
        · cases h
    obtain ⟨k1, k2⟩ := limboGo_asc l (some y.tx) key.1
    refine ⟨fun t ht x hx => ?_, ?_⟩
    · rcases List.mem_cons.1 hx with rfl | hx
      · exact key.2 t ht
      · have h1 := key.2 t ht
        have h2 := k1 y.tx rfl x hx
        rw [UInt64.lt_iff_toNat_lt] at *; omega
    · rw [List.map_cons, List.pairwise_cons]
      refine ⟨fun a ha => ?_, k2⟩
      obtain ⟨x, hx, rfl⟩ := List.mem_map.1 ha
      exact k1 y.tx rfl x hx
theorem limboOk_asc {l : List Held} (h : limboOk l = true) : (l.map fun x => idT x.tx).Nodup := by
  unfold limboOk at h
  rw [Bool.and_eq_true] at h
  exact (limboGo_asc l none h.1).2.imp (fun h e => by subst e; rw [UInt64.lt_iff_toNat_lt] at h; omega)
def wideP (b : Bk) : Bool := headOk b.head && (acctsOk b.accts && (limboOk b.limbo && (decide (b.txs.length ≤ 48) && (wGo b.accts b.txs.length (-1) b.txs && decide (b.txs.map idP ++ b.limbo.map fun x => idP x.tx).Nodup))))
theorem idP_map {L : List T} (h : ∀ t ∈ L, okT t = true) : L.map idP = L.map idT := List.map_congr_left fun t ht => by unfold idP; rw [if_pos (h t ht)]
theorem idP_mapL {L : List Held} (h : ∀ t ∈ L, okT t.tx = true) : (L.map fun x => idP x.tx) = L.map fun x => idT x.tx := List.map_congr_left fun t ht => by unfold idP; rw [if_pos (h t ht)]
theorem wide_eq (b : Bk) : wideP b = wideB b := by
  unfold wideP wideB
  cases h1 : headOk b.head with
  | false => rfl
  | true =>
  cases h2 : acctsOk b.accts with
  | false => rfl
  | true =>
  simp only [Bool.true_and]
  cases h3 : limboOk b.limbo with
  | false => simp
  | true =>
  simp only [Bool.true_and]
  cases h4 : decide (b.txs.length ≤ 48) with
  | false => rfl
  | true =>
  simp only [Bool.true_and]
  have hA : b.accts.length = 8 := by
    unfold acctsOk at h2
    rw [Bool.and_eq_true, decide_eq_true_eq] at h2
    exact h2.2
  have hlok : ∀ x ∈ b.limbo, okT x.tx = true := fun x hx => by
    have h3' := h3
    unfold limboOk at h3'
    rw [Bool.and_eq_true] at h3'
    exact heldOk_tx (limboGo_all _ _ h3'.1 x hx)
  have hw := wGo_iff b.accts b.txs.length (-1) b.txs (Nat.le_refl _) (Int.le_refl _)
  have hs := sortOk_iff b.txs
  have hf := fineGo_iff b.txs b.accts 0
  rw [Bool.eq_iff_iff]
  simp only [Bool.and_eq_true, hw, hs, hf, decide_eq_true_eq]
  have hfine : (∀ x : Int, -1 < x → x < 8 → acctFine b.txs (b.accts.getD x.toNat aZ) x = true) ↔ ∀ i (h : i < b.accts.length), acctFine b.txs b.accts[i] (0 + i) = true := by
    constructor
    · intro h i hi
      have := h i (by omega) (by omega)
      rw [Int.toNat_natCast, List.getD_eq_getElem?_getD, List.getElem?_eq_getElem hi, Option.getD_some] at this
      rw [Int.zero_add]; exact this
    · intro h x hx1 hx2
      obtain ⟨i, rfl⟩ : ∃ i : Nat, x = i := ⟨x.toNat, by omega⟩
      have hi : i < b.accts.length := by omega
      have := h i hi
      rw [Int.zero_add] at this
      rw [Int.toNat_natCast, List.getD_eq_getElem?_getD, List.getElem?_eq_getElem hi, Option.getD_some]; exact this
  have hnd : (∀ t ∈ b.txs, okT t = true) → (((b.txs.map idP ++ b.limbo.map fun x => idP x.tx).Nodup) ↔ idsB b = true) := fun hok => by
    rw [idP_map hok, idP_mapL hlok, List.nodup_append]
    unfold idsB
    rw [idsGo_iff]
    have hl := limboOk_asc h3
    by_cases hn : (b.txs.map idT).Nodup
    · rw [if_pos ⟨hn, fun _ _ hh => by cases hh⟩]
      simp only [List.nil_append, outOk, List.all_eq_true, decide_eq_true_eq, findIx_iff]
      constructor
      · rintro ⟨-, -, q⟩ x hx hm
        exact q _ hm (idT x.tx) (List.mem_map.2 ⟨x, hx, rfl⟩) rfl
      · intro q
        refine ⟨hn, hl, fun a ha c hc e => ?_⟩
        obtain ⟨x, hx, rfl⟩ := List.mem_map.1 hc
        exact q x hx (e ▸ ha)
    · rw [if_neg (fun hh => hn hh.1)]
      simp [hn]
  constructor
  · rintro ⟨⟨q1, q2, q3, q4⟩, q5⟩
    exact ⟨q1, q2, hfine.1 q4, (hnd (List.all_eq_true.1 q1)).1 q5⟩
  · rintro ⟨q1, q2, q4, q5⟩
    refine ⟨⟨q1, q2, fun t ht => ?_, hfine.2 q4⟩, (hnd (List.all_eq_true.1 q1)).2 q5⟩
    have := okT_parts (List.all_eq_true.1 q1 t ht)
    omega
theorem nodup_sorted {d' : Array UInt64} {l : List UInt64} (hp : d'.toList.Perm l) {n : Nat} (hn : d'.size = n) (hs : ∀ i j, i < j → j < n → ¬ g6 d' j < g6 d' i) : (∀ q, 0 < q → q < n → g6 d' q ≠ g6 d' (q - 1)) ↔ l.Nodup := by
  rw [← hp.nodup_iff]
  have hg : ∀ i (h : i < d'.toList.length), d'.toList[i] = g6 d' i := fun i h => by
    simp at h; simp [g6, getElem!_pos d' i h]
  constructor
  · intro h
    rw [List.Nodup, List.pairwise_iff_getElem]
    intro i j hi hj hij
    rw [hg i hi, hg j hj]
    simp at hi hj
    intro e
    have h1 := h (i + 1) (by omega) (by omega)
    have h2 : ¬ g6 d' (i + 1) < g6 d' i := hs i (i + 1) (by omega) (by omega)
    have h3 : ¬ g6 d' j < g6 d' (i + 1) := by
      by_cases hj2 : j = i + 1
      · subst hj2; rw [UInt64.lt_iff_toNat_lt]; omega
      · exact hs (i + 1) j (by omega) (by omega)
    rw [Nat.add_sub_cancel] at h1
    apply h1
    apply UInt64.toNat.inj
    rw [UInt64.lt_iff_toNat_lt] at h2 h3
    have := congrArg UInt64.toNat e
    omega
  · intro h q h0 hq e
    rw [List.Nodup, List.pairwise_iff_getElem] at h
    have := h (q - 1) q (by simp; omega) (by simp; omega) (by omega)
    rw [hg _ (by simp; omega), hg _ (by simp; omega)] at this
    exact this e.symm
end Go.Proofs.YtakdnpafdadblaaGreat.EV.W
namespace Go.Proofs.YtakdnpafdadblaaGreat.EV.W
open Go
set_option maxRecDepth 8000
set_option maxHeartbeats 1000000
variable {ro : Addr → Option Value} {K : H}
theorem lid_loop (hK : Std ro K) (F : Fp) (A : List Held) (hsm : ∀ x ∈ A, Sm x.tx) (hz : A.length < 4294967296) (a : Option Addr) (c : Nat) (w1 w2 : Value) (s0 : St) (hs0 : WF s0) (r1 : Sl shHeld ro F s0 (.slice a A.length c) A) (ids : List UInt64) (hid : ids.length + A.length < 4294967296) :
    ∀ (j i : Nat) (u : St) (v : Value), Ex s0 u → i + j = A.length → Ow sh64 ro (Fresh s0.n) u v (ids ++ (A.take i).map fun x => idP x.tx) →
    ∃ u' v', Ex s0 u' ∧ Ow sh64 ro (Fresh s0.n) u' v' (ids ++ A.map fun x => idP x.tx) ∧ ∀ k : List Fm, M ro K (.lop b125_2) (.bk 2 :: k) [(1, w1), (2, w2), (7, v), (76, .slice a A.length c), (77, vI A.length), (78, vI i)] u =
      Rk ro K .nrm k [(1, w1), (2, w2), (7, v'), (76, .slice a A.length c), (77, vI A.length), (78, vI A.length), (79, .bool false)] u' := by
  intro j
  induction j with
  | zero =>
    intro i u v he h ho
    have : i = A.length := by omega
    subst this
    rw [List.take_of_length_le (Nat.le_refl _)] at ho
    refine ⟨u, v, he, ho, fun k => ?_⟩
    rw [M_lop]
    simp (disch := first | omega | assumption | exact S_wf (by assumption) _ | (simp; done) | (simp; omega)) [Mb _ _ b125_2.eq_1]
  | succ j ih =>
    intro i u v he h ho
    have hu := he.wf hs0
    obtain ⟨b, hv, bv, hb, hrd, hT⟩ := (r1.mo (he.mo F)).atH hsm i (by omega)
    subst hb
    have q1 := hrd.rd 22 (by simp)
    simp only [txC, List.cons_append, List.nil_append, List.take_succ_cons, List.take_zero, List.drop_succ_cons, List.drop_zero, shift_shift] at q1
    obtain ⟨x, hxd⟩ : ∃ x, x = idP A[i].tx := ⟨_, rfl⟩
    have hx := S_ex hu [some (hdC A[i] hv bv)]
    have hx2 := S_ex hu [some (hdC A[i] hv bv), some [v64 x]]
    have hc0 := fun (pr : Option (List Nat)) => id_q hK (hx.wf hu) (hT.mo (hx.mo F)) pr
    simp only [hdC, txC, List.cons_append, List.nil_append] at hx hx2 hc0
    obtain ⟨e, hc⟩ : ∃ e : Int, ∀ pr, callK K (.func (.func 89) #[] #[]) [vT A[i].tx hv bv] true pr (S u [some (hdC A[i] hv bv)]) = some (.tuple #[v64 x, vI e], S u [some (hdC A[i] hv bv)]) := by
      unfold idP at hxd
      by_cases hok : okT A[i].tx = true
      · rw [if_pos hok] at hxd; refine ⟨0, fun pr => ?_⟩; simp only [hdC, txC, List.cons_append, List.nil_append]; rw [hc0, if_pos hok, hxd]
      · rw [if_neg hok] at hxd; refine ⟨1, fun pr => ?_⟩; simp only [hdC, txC, List.cons_append, List.nil_append]; rw [hc0, if_neg hok, hxd]
    simp only [hdC, txC, List.cons_append, List.nil_append] at hc
    have hb1 : (ids ++ (A.take i).map fun x => idP x.tx).length = ids.length + i := by simp; omega
    obtain ⟨a2, c2, v', s', rfl, ha, he', ho'⟩ := Ow.appendN (new := [v64 x]) (l' := [x]) hs0 he ho hx2 (.single rfl) (by simp) (by simp; omega) (by decide)
    have ht : (ids ++ (A.take (i + 1)).map fun x => idP x.tx) = (ids ++ (A.take i).map fun x => idP x.tx) ++ [x] := by rw [List.take_succ_eq_append_getElem (by omega), List.map_append, hxd, List.append_assoc]; rfl
    obtain ⟨u', w, f1, f2, f3⟩ := ih (i + 1) s' v' he' (by omega) (by rw [ht]; exact ho')
    refine ⟨u', w, f1, f2, fun k => ?_⟩
    have hs' := he'.wf hs0
    obtain ⟨cw, pw⟩ := ho'.cells
    rw [← f3 k, M_lop]
    simp only [hb1, List.length_cons, List.length_nil, Nat.zero_add, sh64, sh1] at ha
    simp only [hb1]
    simp (disch := first | omega | assumption | exact S_wf (by assumption) _ | (simp; done) | (simp; omega)) [Mb _ _ b125_2.eq_1, decide_eq_true, decide_eq_false, if_pos, if_neg, q1, hc, wI, hu, rdSl, rep, ha, hs', cw, pw]
theorem chains_q (hK : Std ro K) {s : St} (hs : WF s) {v : Value} (hv : EV.cells v = [v] ∧ plainT v = true) (pr : Option (List Nat)) : callK K (.func (.func 200) #[] #[]) [v] true pr s = some (.func (.func 244) #[] #[.pointer (some (EV.own s.n 0))], S s [some [v]]) := by
  have h1 : K (.func (.func 200) #[] #[]) [v] (qs s) = some (.func (.func 244) #[] #[.pointer (some (EV.own s.n 0))], S (qs s) [some [v]]) := by
    rw [go200 hK _ _ rfl]
    simp [c200, hv.1, hv.2]
    rfl
  exact callq_keep h1 rfl
theorem newLoop_exd {D : Nat → Prop} {s u' : St} {e : Env} {ps : List Nat} {a b : C} (h : Exd D (newLoop e ps a b s) u') : Exd D s (wl u' s.lps) :=
  ⟨h.n, Nat.le_trans (Nat.le_succ _) h.nl, h.row, rfl, h.fl, h.lf, h.pr, h.len⟩
theorem endLoop_hd {s u' : St} {e : Env} {r : Rec} (hs : WF s) (h : u'.lps = (s.nl, r) :: s.lps) (hst : r.st = .ready ∨ r.st = .done) : endLoop s.nl e u' = some (r.pend, e, wl u' s.lps) := by
  unfold endLoop
  rw [h, lget_hd]
  have : ldel ((s.nl, r) :: s.lps) s.nl = s.lps := by
    simp only [ldel, if_true]; exact ldel_none _ _ hs.lk
  rcases hst with h1 | h1 <;> simp only [h1, this] <;> rfl
theorem wide_rf (hK : Std ro K) (F : Fp) (b : Bk) (ba bt bl' : Value) (kb kr : Nat) (s : St) (hs : WF s) (hg : s.get kb = some (bkC b ba bt bl')) (hgr : s.get kr = some [.bool false]) (hmr : s.may kr = true) (n1 : kb ≠ kr) (hF : ∀ j, F j → j < s.n ∧ j ≠ kr) (r : BkR ro F s b ba bt bl') (z : BSz b) (h8 : b.accts.length = 8) (hcp : Cp 21 bt) :
    ∃ s', Exd (· = kr) s s' ∧ s'.get kr = some [.bool false] ∧ ∀ kk, M ro K (.rf (.tmp 36) [37, 38] b125_0 b125_1) kk [(1, .pointer (some (EV.own kb 0))), (2, .pointer (some (EV.own kr 0))), (36, .func (.func 244) #[] #[.pointer (some (EV.own s.n 0))])] (S s [some [bt]]) =
      Rk ro K (if wGo b.accts b.txs.length (-1) b.txs = true then .nrm else .ret) kk [(1, .pointer (some (EV.own kb 0))), (2, .pointer (some (EV.own kr 0))), (36, .func (.func 244) #[] #[.pointer (some (EV.own s.n 0))])] s' := by
  obtain ⟨e, he⟩ : ∃ e : Env, e = [(1, .pointer (some (EV.own kb 0))), (2, .pointer (some (EV.own kr 0))), (36, .func (.func 244) #[] #[.pointer (some (EV.own s.n 0))])] := ⟨_, rfl⟩
  have hx := S_ex hs [some [bt]]
  have hs1 := hx.wf hs
  obtain ⟨t, ht⟩ : ∃ t, t = newLoop e [37, 38] b125_0 b125_1 (S s [some [bt]]) := ⟨_, rfl⟩
  have htw : WF t := by rw [ht]; exact newLoop_wf hs1 _ _ _ _
  have tget : ∀ k, t.get k = (S s [some [bt]]).get k := fun k => by rw [ht]; rfl
  have mo : Mo F s F t := ⟨by rw [ht]; exact hx.n, fun j hj hf => ⟨by rw [tget]; exact hx.row j hj, hf⟩⟩
  obtain ⟨at', ct, hbt⟩ := r.t.len
  have tgl : t.get s.n = some [bt] := by rw [tget, S_get0]; rfl
  have tgb : t.get kb = some (bkC b ba bt bl') := by rw [tget, hx.row _ (St.get_lt hg)]; exact hg
  have tgr : t.get kr = some [.bool false] := by rw [tget, hx.row _ (St.get_lt hgr)]; exact hgr
  have hlr := St.get_lt hgr
  have hlb := St.get_lt hg
  have tlps : t.lps = (s.nl, recW e) :: s.lps := by rw [ht]; rfl
  have hr := r.mo mo
  have tml : t.may s.n = true := by rw [ht]; exact S_may0 hs [some [bt]]
  have tmr : t.may kr = true := by rw [ht]; exact (((S_ex hs [some [bt]]).d (fun _ => False)).may kr).trans hmr
  rw [hbt] at hcp tgl hr
  obtain ⟨u', v1, v2, v3⟩ := wide_chains hK F b ba (.slice at' b.txs.length ct) bl' kb kr s.n e (by rw [he]; rfl) (by rw [he]; rfl) t htw s.nl s.lps (by rw [ht]; exact hs.lf) tlps (by rw [← hbt]; exact tgb) tml tmr n1 (by omega) (by omega) (fun j hj => by have := hF j hj; omega) hr.a h8
    b.txs.length b.txs (-1) at' ct t (Nat.le_refl _) (by omega) (fun x hx => (z.tx x hx).1) z.nt ((Ex.refl htw).d _) tgl tgr hr.t hcp
  have hcl : ∀ s', M ro K (.lop b244_1) [.bk 0, .fn []] [(0, .func (.yield s.nl) #[] #[]), (1, .pointer (some (EV.own s.n 0))), (3, vI (-1))] t = some (.tuple #[], s') → K (.func (.func 244) #[] #[.pointer (some (EV.own s.n 0))]) [.func (.yield s.nl) #[] #[]] t = some (.tuple #[], s') := fun s' h => by
    rw [goc244 hK _ _ _ rfl, ← h]
    simp (disch := first | omega | assumption | exact S_wf (by assumption) _ | (simp; done) | (simp; omega)) [c244, decide_eq_true, decide_eq_false, if_pos, if_neg]
  have hk := hcl _ v3
  rw [ht] at v1
  have e1 := newLoop_exd v1
  have e2 : Exd (· = kr) s (wl u' s.lps) := ((hx.d (fun j => j = kr)).trans (E := fun j => j = kr) (e1.mono (E := fun j => j = s.n ∨ j = kr) (fun _ _ h => h)) (fun _ _ h => h) (fun j hj h => by omega))
  refine ⟨wl u' s.lps, e2, v2, fun kk => ?_⟩
  rw [← he, M_rf]
  have ho : opd e (.tmp 36) = some (.func (.func 244) #[] #[.pointer (some (EV.own s.n 0))]) := by rw [he]; rfl
  rw [ho]
  dsimp only
  rw [S_nl, ← ht, hk]
  have hul : u'.lps = (s.nl, recW e) :: s.lps := by rw [v1.lp]; rfl
  cases hw : wGo b.accts b.txs.length (-1) b.txs with
  | true =>
    simp only [if_true]
    have := endLoop_hd (e := e) hs1 (u' := u') (r := recW e) hul (.inl rfl)
    rw [show (S s [some [bt]]).nl = s.nl from rfl] at this
    rw [this]; rfl
  | false =>
    simp only [if_neg Bool.false_ne_true]
    have := endLoop_hd (e := e) hs1 (u' := wl u' ((s.nl, { recW e with st := .done, pend := .ret }) :: s.lps)) (r := { recW e with st := .done, pend := .ret }) rfl (.inr rfl)
    rw [show (S s [some [bt]]).nl = s.nl from rfl] at this
    rw [this]; rfl
theorem rows_sh1 {α : Type} {f : α → Value} {F : Fp} {s : St} {cs : List Value} {l : List α} (r : Rows (sh1 f) ro F s cs l) : cs = l.map f := by
  induction r with
  | nil => rfl
  | cons c cs x l hc hl ih => simp only [sh1] at hc; rw [hc, ih]; rfl
theorem sort_nil (hK : Std ro K) (s : St) (hs : WF s) : K (.func (.func 202) #[] #[]) [.slice none 0 0] s = some (.tuple #[], s) := by
  have hc := fun (pr : Option (List Nat)) => (len_fv hK 0).q (fun _ => rfl) hs (pr := pr)
  have h3 : ∀ x : Int, K (.func (.func 269) #[] #[]) [.slice none 0 0, vI 0, vI 0] s = some (.tuple #[], s) := fun x => by
    rw [go269 hK _ _ rfl]
    have hl : ∀ kk, M ro K (.lop b269_1) (.bk 0 :: kk) [(0, .slice none 0 0), (1, vI 0), (2, vI 0), (6, vI 1)] s = Rk ro K .nrm kk [(0, .slice none 0 0), (1, vI 0), (2, vI 0), (6, vI 1), (12, .bool false)] s := fun kk => by
      rw [M_lop]
      simp (disch := first | omega | assumption | exact S_wf (by assumption) _ | (simp; done) | (simp; omega)) [Mb _ _ b269_1.eq_1, decide_eq_true, decide_eq_false, if_pos, if_neg]
    simp (disch := first | omega | assumption | exact S_wf (by assumption) _ | (simp; done) | (simp; omega)) [c269, decide_eq_true, decide_eq_false, if_pos, if_neg, hl, wI]
  have h2 : ∀ x : Int, K (.func (.func 245) #[] #[]) [.slice none 0 0, vI 0, vI 0, vI x] s = some (.tuple #[], s) := fun x => by
    rw [go245 hK _ _ rfl]
    have hl : ∀ kk : List Fm, M ro K (.lop b245_0) [.bk 0, .fn []] [(0, .slice none 0 0), (1, vI 0), (2, vI 0), (3, vI x), (8, .bool true), (9, .bool true)] s = some (.tuple #[], s) := fun kk => by
      rw [pdq_in, sq0, M_seq, sq1]
      generalize sufC 2 (inB b245_0) = R
      simp (disch := first | omega | assumption | exact S_wf (by assumption) _ | (simp; done) | (simp; omega)) [b245_0.eq_1, sufC, inB, hedC, KF, decide_eq_true, decide_eq_false, if_pos, if_neg, wI, callK_f, h3 0]
    simp (disch := first | omega | assumption | exact S_wf (by assumption) _ | (simp; done) | (simp; omega)) [c245, hl []]
  rw [go202 hK _ _ rfl]
  simp (disch := first | omega | assumption | exact S_wf (by assumption) _ | (simp; done) | (simp; omega)) [c202, decide_eq_true, decide_eq_false, if_pos, if_neg, wI, callK_f, hc, h2]
def wp (s : St) (x : List Nat) : St := { s with pr := x }
theorem prot_eq (f : Value) (as : List Value) (s : St) (a b : Nat) : callK K f as false (some [a, b]) s = match K f as (wp s (a :: b :: s.pr)) with
    | some (v, s') => some (v, wp s' s.pr)
    | none => none := rfl
theorem Exd.wp {D : Nat → Prop} {s s2 : St} {x : List Nat} (h : Exd D (W.wp s x) s2) : Exd D s (W.wp s2 s.pr) := ⟨h.n, h.nl, h.row, h.lp, h.fl, h.lf, rfl, h.len⟩
theorem At.wp {k a b : Nat} {d : Array UInt64} {s : St} (h : At k d s) (ha : a < s.n) (hb : b < s.n) (n1 : k ≠ a) (n2 : k ≠ b) : At k d (W.wp s (a :: b :: s.pr)) := by
  refine ⟨h.g, ?_, ⟨h.w.fl, h.w.lf, fun j hj => ?_, h.w.len, h.w.lk⟩⟩
  · have := h.m
    simp only [St.may, Bool.and_eq_true, Bool.not_eq_eq_eq_not, Bool.not_true, List.contains_eq_mem, decide_eq_true_eq, decide_eq_false_iff_not, W.wp, List.mem_cons, not_or] at this ⊢
    exact ⟨decide_eq_true this.1, n1, n2, this.2⟩
  · simp only [W.wp, List.mem_cons] at hj
    rcases hj with rfl | rfl | hj
    · exact ha
    · exact hb
    · exact h.w.pr j hj
theorem pwide_t (hK : Std ro K) {b : Bk} {a t l : Value} {F : Fp} {s : St} (hs : WF s) (r : BkR ro F s b a t l) (z : BSz b) (hcp : Cp 21 t) : ∃ s', K (.func (.func 125) #[] #[]) [vB b a t l] s = some (.bool (wideP b), s') := by
  obtain ⟨s1, hs1d⟩ : ∃ s1, s1 = S s [some (bkC b a t l), some [.bool false]] := ⟨_, rfl⟩
  have hx : Ex s s1 := by rw [hs1d]; exact S_ex hs _
  have hs1 := hx.wf hs
  have hn1 : s1.n = s.n + 2 := by rw [hs1d, S_n]; rfl
  have hg : s1.get s.n = some (bkC b a t l) := by rw [hs1d]; exact S_get0 _ _
  have hgr : s1.get (s.n + 1) = some [.bool false] := by rw [hs1d]; exact S_get s _ 1
  have hmr : s1.may (s.n + 1) = true := hx.mayN hs (by omega)
  have r0 : BkR ro (fun j => F j ∧ j < s.n) s b a t l := r.mo ⟨Nat.le_refl _, fun j hj hF => ⟨rfl, hF, hj⟩⟩
  have r1 := r0.mo (hx.mo _)
  have hsmT : ∀ x ∈ b.txs, Sm x := fun x hx => (z.tx x hx).1
  have hsmL : ∀ x ∈ b.limbo, Sm x.tx := fun x hx => (z.lb x hx).1
  have h1 := fun (pr : Option (List Nat)) => (phead_fv hK b.head).q (fun _ => rfl) hs1 (pr := pr)
  have h2 := fun (pr : Option (List Nat)) => accts_q hK hs1 r1.a z.na pr
  have h3 := fun (pr : Option (List Nat)) => limbo_q hK hs1 r1.l hsmL z.nl pr
  obtain ⟨at', ct, ht⟩ := r.t.len
  obtain ⟨al, cl, hl⟩ := r.l.len
  obtain ⟨aa, ca, ha⟩ := r.a.len
  subst ht hl ha
  have pr0 := St.get_put_same hgr (some [.bool false])
  rw [go125 hK _ _ rfl]
  unfold wideP
  simp only [bkC, EV.own] at hs1d hg
  cases e1 : headOk b.head with
  | false => rw [e1] at h1; rw [Bool.false_and]; simp (disch := first | omega | assumption | exact S_wf (by assumption) _ | (simp; done) | (simp; omega)) [c125, decide_eq_true, decide_eq_false, if_pos, if_neg, hs, ← hs1d, hg, h1, hgr, hmr, pr0]
  | true =>
  rw [Bool.true_and]
  rw [e1] at h1
  cases e2 : acctsOk b.accts with
  | false => rw [e2] at h2; rw [Bool.false_and]; simp (disch := first | omega | assumption | exact S_wf (by assumption) _ | (simp; done) | (simp; omega)) [c125, decide_eq_true, decide_eq_false, if_pos, if_neg, hs, ← hs1d, hg, h1, h2, hgr, hmr, pr0]
  | true =>
  rw [Bool.true_and]
  rw [e2] at h2
  cases e3 : limboOk b.limbo with
  | false => rw [e3] at h3; rw [Bool.false_and]; simp (disch := first | omega | assumption | exact S_wf (by assumption) _ | (simp; done) | (simp; omega)) [c125, decide_eq_true, decide_eq_false, if_pos, if_neg, hs, ← hs1d, hg, h1, h2, h3, hgr, hmr, pr0]
  | true =>
  rw [Bool.true_and]
  rw [e3] at h3
  by_cases e4 : b.txs.length ≤ 48
  case neg => rw [decide_eq_false e4, Bool.false_and]; simp (disch := first | omega | assumption | exact S_wf (by assumption) _ | (simp; done) | (simp; omega)) [c125, decide_eq_true, decide_eq_false, if_pos, if_neg, hs, ← hs1d, hg, h1, h2, h3, e4, hgr, hmr, pr0]
  rw [decide_eq_true e4, Bool.true_and]
  have h8 : b.accts.length = 8 := by
    unfold acctsOk at e2
    rw [Bool.and_eq_true, decide_eq_true_eq] at e2
    exact e2.2
  have l48 : b.limbo.length ≤ 48 := by
    unfold limboOk at e3
    rw [Bool.and_eq_true, decide_eq_true_eq] at e3
    exact e3.2
  have hch := fun (pr : Option (List Nat)) => chains_q hK hs1 r1.t.cells pr
  obtain ⟨s3, x3, g3, hrf⟩ := wide_rf hK (fun j => F j ∧ j < s.n) b _ _ _ s.n (s.n + 1) s1 hs1 hg hgr hmr (by omega) (fun j hj => by omega) r1 z h8 hcp
  have hs3 := x3.wf hs1
  have hn3 := x3.n
  have gb3 : s3.get s.n = some (bkC b (.slice aa b.accts.length ca) (.slice at' b.txs.length ct) (.slice al b.limbo.length cl)) := (x3.row _ (by omega) (by omega)).trans hg
  have m3 : s3.may (s.n + 1) = true := by rw [x3.may]; exact hmr
  have r3 := r1.mo (x3.mo fun j hj => by omega)
  simp only [EV.own] at hrf hch
  cases e5 : wGo b.accts b.txs.length (-1) b.txs with
  | false =>
    rw [e5] at hrf
    simp only [if_neg Bool.false_ne_true] at hrf
    rw [Bool.false_and]
    simp (disch := first | omega | assumption | exact S_wf (by assumption) _ | (simp; done) | (simp; omega)) [c125, decide_eq_true, decide_eq_false, if_pos, if_neg, hs, ← hs1d, hg, h1, h2, h3, e4, hgr, hmr, hch, hrf, g3]
  | true =>
  rw [e5] at hrf
  simp only [if_true] at hrf
  rw [Bool.true_and]
  obtain ⟨v4, s4, c4, x4, o4⟩ := ids_q hK hs3 r3.t hsmT z.nt (some [])
  have c4' : ∀ pr, callK K (.func (.func 137) #[] #[]) [.slice at' b.txs.length ct] true pr s3 = some (v4, s4) := fun pr => c4
  have hs4 := x4.wf hs3
  have gb4 := (x4.row s.n (St.get_lt gb3)).trans gb3
  obtain ⟨s5, v5, x5, o5, l5⟩ := lid_loop hK (fun j => F j ∧ j < s.n) b.limbo hsmL z.nl al cl (.pointer (some (EV.own s.n 0))) (.pointer (some (EV.own (s.n + 1) 0))) s3 hs3 r3.l (b.txs.map idP) (by simp; omega) b.limbo.length 0 s4 v4 x4 (by omega) (by simpa using o4)
  simp only [show ((0 : Nat) : Int) = 0 from rfl, EV.own] at l5
  have hs5 := x5.wf hs3
  have gb5 := (x5.row s.n (St.get_lt gb3)).trans gb3
  have gr5 := (x5.row (s.n + 1) (St.get_lt g3)).trans g3
  have m5 : s5.may (s.n + 1) = true := by rw [(x5.d (fun _ => False)).may]; exact m3
  obtain ⟨ids, hids⟩ : ∃ ids, ids = b.txs.map idP ++ b.limbo.map fun x => idP x.tx := ⟨_, rfl⟩
  have hlen : ids.length = b.txs.length + b.limbo.length := by rw [hids]; simp
  rw [← hids] at o5 ⊢
  have e6 : (b.txs.length : Int) + (b.limbo.length : Int) = (ids.length : Int) := by omega
  obtain ⟨cv4, pv4⟩ := o4.cells
  have hsz : sh64.sz = 1 := rfl
  rcases o5 with ⟨rfl, hnil⟩ | ⟨k, cs, rfl, k1, k2, k3⟩
  · have hss := sort_nil hK s5 hs5
    have hcm : callK K (.func (.func 203) #[] #[]) [.slice none 0 0] false (some [s.n, s.n]) s5 = some (.slice none 0 0, s5) := by
      rw [prot_eq, go203 hK _ _ rfl]
      simp (disch := first | omega | assumption | exact S_wf (by assumption) _ | (simp; done) | (simp; omega)) [c203, decide_eq_true, decide_eq_false, if_pos, if_neg]
      rfl
    rw [hnil] at e6 hlen ⊢
    simp only [List.length_nil, show ((0 : Nat) : Int) = 0 from rfl] at e6 hlen
    have pr5 := St.get_put_same gr5 (some [.bool true])
    simp (disch := first | omega | assumption | exact S_wf (by assumption) _ | (simp; done) | (simp; omega)) [c125, decide_eq_true, decide_eq_false, if_pos, if_neg, hs, ← hs1d, hg, h1, h2, h3, e4, hgr, hmr, hch, hrf, gb3, c4', cv4, pv4, gb4, l5, callK_f, hss, rowOf, hcm, gb5, gr5, m5, pr5, wI, e6]
  · have hcs := rows_sh1 k3
    subst hcs
    have hk3 : s3.n ≤ k := k1
    have hA : At k ids.toArray s5 := ⟨by rw [k2]; rfl, x5.mayN hs3 hk3, hs5⟩
    obtain ⟨d', s6, p1, p2, p3, p4, p5⟩ := sort_t hK k ids.length (by omega) ids.toArray s5 hA (by simp)
    have hs6 := p4.1.w
    have x6 := p4.2
    have hn5 := x5.n
    have hn6 := x6.n
    have hA6 := p4.1.wp (a := s.n) (b := s.n) (by omega) (by omega) (by omega) (by omega)
    obtain ⟨m, s7, q1, q2, q3, q4⟩ := compact_t hK k ids.length (by omega) d' _ hA6 p2
    have hnd := nodup_sorted p1 p2 p3
    have x7 := q1.wp
    have hcm : callK K (.func (.func 203) #[] #[]) [sA k ids.length] false (some [s.n, s.n]) s6 = some (sA k m, wp s7 s6.pr) := by
      rw [prot_eq, q4]
    have x57 : Exd (· = k) s5 (wp s7 s6.pr) := x6.trans x7 (fun _ _ h => h) (fun _ _ h => h)
    have gb7 := (x57.row s.n (by omega) (by omega)).trans gb5
    have gr7 := (x57.row (s.n + 1) (by omega) (by omega)).trans gr5
    have m7 : (wp s7 s6.pr).may (s.n + 1) = true := by rw [x57.may]; exact m5
    have hmn : decide (m = ids.length) = decide ids.Nodup := by rw [decide_eq_decide]; exact q3.trans hnd
    have pr7 := fun y => St.get_put_same gr7 y
    generalize hw7 : wp s7 s6.pr = w7 at hcm gb7 gr7 m7 pr7
    simp only [sA, EV.own] at p5 hcm
    rw [← hmn]
    simp (disch := first | omega | assumption | exact S_wf (by assumption) _ | (simp; done) | (simp; omega)) [c125, decide_eq_true, decide_eq_false, if_pos, if_neg, hs, ← hs1d, hg, h1, h2, h3, e4, hgr, hmr, hch, hrf, gb3, c4', cv4, pv4, gb4, l5, callK_f, p5, rowOf, hcm, gb7, gr7, m7, pr7, wI, e6, hsz]
    omega
theorem pwide_q (hK : Std ro K) {b : Bk} {a t l : Value} {F : Fp} {s : St} (hs : WF s) (r : BkR ro F s b a t l) (z : BSz b) (hcp : Cp 21 t) (pr : Option (List Nat)) : callK K (.func (.func 125) #[] #[]) [vB b a t l] true pr s = some (.bool (wideB b), s) := by
  obtain ⟨s', h⟩ := pwide_t hK hs.q (r.mo (Mo.q F s)) z hcp
  rw [wide_eq] at h
  exact callq h rfl
theorem pcheck_t (hK : Std ro K) {b : Bk} {a t l : Value} {F : Fp} {s : St} (hs : WF s) (r : BkR ro F s b a t l) (z : BSz b) (hcp : Cp 21 t) : ∃ s', K (.func (.func 58) #[] #[]) [vB b a t l] s = some (vI (if okB b then 0 else 1), s') := by
  have hx := S_ex hs [some (bkC b a t l)]
  have hs1 := hx.wf hs
  have r1 := r.mo (hx.mo F)
  have h1 := fun (pr : Option (List Nat)) => (proomy_fv hK b.room).q (fun _ => rfl) hs1 (pr := pr)
  have h2 := fun (pr : Option (List Nat)) => pwide_q hK hs1 r1 z hcp pr
  have h3 := fun (pr : Option (List Nat)) => slots_q hK hs1 r1.t (fun x hx => (z.tx x hx).1) z.nt pr
  rw [go58 hK _ _ rfl]
  unfold okB
  obtain ⟨at', ct, ht⟩ := r.t.len
  obtain ⟨al, cl, hl⟩ := r.l.len
  obtain ⟨aa, ca, ha⟩ := r.a.len
  subst ht hl ha
  cases e1 : roomOk b.room with
  | false => rw [e1] at h1; simp (disch := first | omega | assumption | exact S_wf (by assumption) _ | (simp; done) | (simp; omega)) [c58, decide_eq_true, decide_eq_false, if_pos, if_neg, hs, h1]
  | true =>
    rw [e1] at h1
    cases e2 : wideB b with
    | false => rw [e2] at h2; simp (disch := first | omega | assumption | exact S_wf (by assumption) _ | (simp; done) | (simp; omega)) [c58, decide_eq_true, decide_eq_false, if_pos, if_neg, hs, h1, h2]
    | true =>
      rw [e2] at h2
      rw [slotsP_ok _ (wideB_txs e2)] at h3
      by_cases e3 : (slotsT b.txs : Int) ≤ b.room
      · have e3' : ¬ b.room < (slotsT b.txs : Int) := by omega
        simp (disch := first | omega | assumption | exact S_wf (by assumption) _ | (simp; done) | (simp; omega)) [c58, decide_eq_true, decide_eq_false, if_pos, if_neg, hs, h1, h2, h3, e3, e3']
      · have e3' : b.room < (slotsT b.txs : Int) := by omega
        simp (disch := first | omega | assumption | exact S_wf (by assumption) _ | (simp; done) | (simp; omega)) [c58, decide_eq_true, decide_eq_false, if_pos, if_neg, hs, h1, h2, h3, e3, e3']
theorem pcheck_q (hK : Std ro K) {b : Bk} {a t l : Value} {F : Fp} {s : St} (hs : WF s) (r : BkR ro F s b a t l) (z : BSz b) (hcp : Cp 21 t) (pr : Option (List Nat)) : callK K (.func (.func 58) #[] #[]) [vB b a t l] true pr s = some (vI (if okB b then 0 else 1), s) := by
  obtain ⟨s', h1⟩ := pcheck_t hK hs.q (r.mo (Mo.q F s)) z hcp
  exact callq h1 rfl
end Go.Proofs.YtakdnpafdadblaaGreat.EV.W
namespace Go.Proofs.YtakdnpafdadblaaGreat.EV.W
open Go
set_option maxRecDepth 8000
set_option maxHeartbeats 1000000
variable {ro : Addr → Option Value} {K : H}
def spF (a n : Int) : List T → Nat
  | [] => 0
  | t :: l => if t.frm < a ∨ (t.frm = a ∧ t.nonce < n) then spF a n l + 1 else spF a n l
def spT (a : Int) : List T → Nat
  | [] => 0
  | t :: l => if t.frm ≤ a then spT a l + 1 else spT a l
theorem spF_le (a n : Int) : ∀ l, spF a n l ≤ l.length
  | [] => Nat.le_refl _
  | t :: l => by rw [spF]; have := spF_le a n l; split <;> simp <;> omega
theorem span_loop (F : Fp) (L : List T) (hsm : ∀ x ∈ L, Sm x) (hz : L.length < 4294967296) (a : Option Addr) (c : Nat) (x n : Int) (s1 : St) (hs1 : WF s1) (r : Sl shTx ro F s1 (.slice a L.length c) L) :
    ∀ (j i f g : Nat) (u : St), i + j = L.length → f ≤ i → g ≤ i → Ex s1 u → ∃ u', Ex s1 u' ∧ ∀ k : List Fm, M ro K (.lop b130_0) (.bk 0 :: k) [(1, vI x), (2, vI n), (6, vI f), (7, vI g), (10, .slice a L.length c), (11, vI L.length), (12, vI i)] u =
      Rk ro K .nrm k [(1, vI x), (2, vI n), (6, vI (f + spF x n (L.drop i) : Nat)), (7, vI (g + spT x (L.drop i) : Nat)), (10, .slice a L.length c), (11, vI L.length), (12, vI L.length), (13, .bool false)] u' := by
  intro j
  induction j with
  | zero =>
    intro i f g u h hf hg he
    have : i = L.length := by omega
    subst this
    refine ⟨u, he, fun k => ?_⟩
    rw [List.drop_of_length_le (Nat.le_refl _), M_lop]
    simp (disch := first | omega | assumption | exact S_wf (by assumption) _ | (simp; done) | (simp; omega)) [Mb _ _ b130_0.eq_1, spF, spT]
  | succ j ih =>
    intro i f g u h hf hg he
    have hu := he.wf hs1
    obtain ⟨b, hv, bv, hb, hrd, hT⟩ := (r.mo (he.mo F)).atT hsm i (by omega)
    subst hb
    have hx := S_ex hu [some (txC L[i] hv bv)]
    rw [List.drop_eq_getElem_cons (show i < L.length by omega), spF, spT]
    by_cases c1 : L[i].frm < x
    · obtain ⟨u', e1, e2⟩ := ih (i + 1) (f + 1) (g + 1) _ (by omega) (by omega) (by omega) (he.trans hx)
      refine ⟨u', e1, fun k => ?_⟩
      rw [if_pos (.inl c1), if_pos (by omega), show f + (spF x n (L.drop (i + 1)) + 1) = f + 1 + spF x n (L.drop (i + 1)) by omega, show g + (spT x (L.drop (i + 1)) + 1) = g + 1 + spT x (L.drop (i + 1)) by omega, ← e2 k, M_lop]
      simp (disch := first | omega | assumption | exact S_wf (by assumption) _ | (simp; done) | (simp; omega)) [Mb _ _ b130_0.eq_1, decide_eq_true, decide_eq_false, if_pos, if_neg, hrd, wI, hu, c1]
    · by_cases c2 : L[i].frm = x
      · by_cases c3 : L[i].nonce < n
        · obtain ⟨u', e1, e2⟩ := ih (i + 1) (f + 1) (g + 1) _ (by omega) (by omega) (by omega) (he.trans hx)
          refine ⟨u', e1, fun k => ?_⟩
          rw [if_pos (.inr ⟨c2, c3⟩), if_pos (by omega), show f + (spF x n (L.drop (i + 1)) + 1) = f + 1 + spF x n (L.drop (i + 1)) by omega, show g + (spT x (L.drop (i + 1)) + 1) = g + 1 + spT x (L.drop (i + 1)) by omega, ← e2 k, M_lop]
          have hd : decide (L[i].frm = x) = true := decide_eq_true c2
          have c4 : L[i].frm ≤ x := by omega
          simp (disch := first | omega | assumption | exact S_wf (by assumption) _ | (simp; done) | (simp; omega)) [Mb _ _ b130_0.eq_1, decide_eq_true, decide_eq_false, if_pos, if_neg, hrd, wI, hu, c1, hd, c3, c4]
        · obtain ⟨u', e1, e2⟩ := ih (i + 1) f (g + 1) _ (by omega) (by omega) (by omega) (he.trans hx)
          refine ⟨u', e1, fun k => ?_⟩
          rw [if_neg (by omega), if_pos (by omega), show g + (spT x (L.drop (i + 1)) + 1) = g + 1 + spT x (L.drop (i + 1)) by omega, ← e2 k, M_lop]
          have hd : decide (L[i].frm = x) = true := decide_eq_true c2
          have c4 : L[i].frm ≤ x := by omega
          simp (disch := first | omega | assumption | exact S_wf (by assumption) _ | (simp; done) | (simp; omega)) [Mb _ _ b130_0.eq_1, decide_eq_true, decide_eq_false, if_pos, if_neg, hrd, wI, hu, c1, hd, c3, c4]
      · obtain ⟨u', e1, e2⟩ := ih (i + 1) f g _ (by omega) (by omega) (by omega) (he.trans hx)
        refine ⟨u', e1, fun k => ?_⟩
        have c4 : ¬ L[i].frm ≤ x := by omega
        rw [if_neg (by omega), if_neg c4, ← e2 k, M_lop]
        simp (disch := first | omega | assumption | exact S_wf (by assumption) _ | (simp; done) | (simp; omega)) [Mb _ _ b130_0.eq_1, decide_eq_true, decide_eq_false, if_pos, if_neg, hrd, wI, hu, c1, c2, c4]
theorem span_q (hK : Std ro K) {L : List T} {v : Value} {F : Fp} {s : St} (hs : WF s) (r : Sl shTx ro F s v L) (hsm : ∀ x ∈ L, Sm x) (hz : L.length < 4294967296) (x n : Int) (pr : Option (List Nat)) : callK K (.func (.func 130) #[] #[]) [v, vI x, vI n] true pr s = some (.tuple #[vI (spF x n L), vI (spT x L)], s) := by
  obtain ⟨a, c, rfl⟩ := r.len
  obtain ⟨u', e1, e2⟩ := span_loop (K := K) F L hsm hz a c x n (qs s) hs.q (r.mo (Mo.q F s)) L.length 0 0 0 _ (by omega) (by omega) (by omega) (Ex.refl hs.q)
  simp only [show ((0 : Nat) : Int) = 0 from rfl, List.drop_zero, Nat.zero_add] at e2
  have h1 : K (.func (.func 130) #[] #[]) [.slice a L.length c, vI x, vI n] (qs s) = some (.tuple #[vI (spF x n L), vI (spT x L)], u') := by
    rw [go130 hK _ _ rfl]
    simp (disch := first | omega | assumption | exact S_wf (by assumption) _ | (simp; done) | (simp; omega)) [c130, decide_eq_true, decide_eq_false, if_pos, if_neg, e2]
  exact callq h1 rfl
theorem span_parts (a n : Int) : ∀ (L : List T), L.Pairwise Lx → ∃ A G Z, L = A ++ (G ++ Z) ∧ spF a n L = A.length ∧ spT a L = A.length + G.length ∧ L.filter (goneP a n) = G ∧ L.filter (fun t => !goneP a n t) = A ++ Z
  | [], _ => ⟨[], [], [], rfl, rfl, rfl, rfl, rfl⟩
  | t :: l, h => by
    obtain ⟨h1, h2⟩ := List.pairwise_cons.1 h
    obtain ⟨A, G, Z, q1, q2, q3, q4, q5⟩ := span_parts a n l h2
    rw [spF, spT]
    by_cases c1 : t.frm < a ∨ (t.frm = a ∧ t.nonce < n)
    · have g : goneP a n t = false := by unfold goneP; simp only [decide_eq_false_iff_not]; omega
      refine ⟨t :: A, G, Z, by rw [q1]; rfl, by rw [if_pos c1, q2]; rfl, by rw [if_pos (by omega), q3]; simp; omega, by rw [List.filter_cons, g]; exact q4, by rw [List.filter_cons]; simp only [g, Bool.not_false, if_true]; rw [q5]; rfl⟩
    · have nob : ∀ y ∈ l, ¬ (y.frm < a ∨ (y.frm = a ∧ y.nonce < n)) := fun y hy hh => by have := h1 y hy; unfold Lx at this; omega
      have hA : A = [] := by
        have : spF a n l = 0 := by
          have key : ∀ m : List T, (∀ y ∈ m, ¬ (y.frm < a ∨ (y.frm = a ∧ y.nonce < n))) → spF a n m = 0 := by
            intro m
            induction m with
            | nil => exact fun _ => rfl
            | cons y m ih => exact fun hm => by rw [spF, if_neg (hm y (by simp))]; exact ih fun z hz => hm z (by simp [hz])
          exact key l nob
        exact List.eq_nil_of_length_eq_zero (by omega)
      subst hA
      simp only [List.nil_append, List.length_nil, Nat.zero_add] at q1 q2 q3 q5
      by_cases c2 : t.frm = a
      · have g : goneP a n t = true := by unfold goneP; simp only [decide_eq_true_eq]; omega
        refine ⟨[], t :: G, Z, by rw [q1]; rfl, by rw [if_neg c1, q2]; rfl, by rw [if_pos (by omega), q3]; simp, by rw [List.filter_cons, g, if_pos rfl, q4], by rw [List.filter_cons]; simp only [g, Bool.not_true]; exact q5⟩
      · have c3 : ¬ t.frm ≤ a := by omega
        have noa : ∀ y ∈ l, ¬ y.frm ≤ a := fun y hy hh => by have := h1 y hy; unfold Lx at this; omega
        have hG : G = [] := by
          rw [← q4]
          exact List.filter_eq_nil_iff.2 fun y hy hg => by
            have := noa y hy
            unfold goneP at hg
            simp only [decide_eq_true_eq] at hg
            omega
        subst hG
        simp only [List.nil_append, List.length_nil] at q1 q3
        have g : goneP a n t = false := by unfold goneP; simp only [decide_eq_false_iff_not]; omega
        refine ⟨[], [], t :: Z, by rw [q1]; rfl, by rw [if_neg c1, q2]; rfl, by rw [if_neg c3, q3]; rfl, by rw [List.filter_cons, g]; exact q4, by rw [List.filter_cons]; simp only [g, Bool.not_false, if_true]; rw [q5]; rfl⟩
theorem okB_wide {b : Bk} (h : okB b = true) : wideB b = true := by
  unfold okB at h
  rw [Bool.and_eq_true] at h
  exact h.1
theorem wideB_sort {b : Bk} (h : wideB b = true) : b.txs.Pairwise Lx := by
  unfold wideB at h
  simp only [Bool.and_eq_true] at h
  exact (sortOk_iff _).1 h.2.2.2.2.2.1
theorem gone_ofA {L : List T} (h : ∀ t ∈ L, okT t = true) (a : Int) : L.filter (goneP a 0) = ofA L a := by
  refine List.filter_congr fun t ht => ?_
  have := okT_parts (h t ht)
  unfold goneP
  rw [decide_eq_decide]; omega
theorem span_cut {L : List T} (h : L.Pairwise Lx) (a n : Int) : spF a n L ≤ spT a L ∧ spT a L ≤ L.length ∧ (L.drop (spF a n L)).take (spT a L - spF a n L) = L.filter (goneP a n) ∧ L.take (spF a n L) ++ L.drop (spT a L) = L.filter fun t => !goneP a n t := by
  obtain ⟨A, G, Z, q1, q2, q3, q4, q5⟩ := span_parts a n L h
  rw [q4, q5, q2, q3, q1]
  refine ⟨by omega, by simp, ?_, ?_⟩
  · rw [List.drop_left, show A.length + G.length - A.length = G.length by omega, List.take_left]
  · rw [List.take_left, ← List.append_assoc, show A.length + G.length = (A ++ G).length by simp, List.drop_left]
theorem pchain_q (hK : Std ro K) {b : Bk} {a t l : Value} {F : Fp} {s : St} (hs : WF s) (r : BkR ro F s b a t l) (z : BSz b) (hcp : Cp 21 t) (ac : Int) (pr : Option (List Nat)) :
    ∃ v s', callK K (.func (.func 62) #[] #[]) [vB b a t l, vI ac] true pr s = some (.tuple #[v, vI (if okB b = true ∧ 0 ≤ ac ∧ ac < 8 then 0 else 1)], s') ∧ Ex s s' ∧ Ow shTxO ro (Fresh s.n) s' v (if okB b = true ∧ 0 ≤ ac ∧ ac < 8 then ofA b.txs ac else []) := by
  have hq := hs.q
  suffices hh : ∃ v u, K (.func (.func 62) #[] #[]) [vB b a t l, vI ac] (qs s) = some (.tuple #[v, vI (if okB b = true ∧ 0 ≤ ac ∧ ac < 8 then 0 else 1)], u) ∧ Ex (qs s) u ∧ Ow shTxO ro (Fresh (qs s).n) u v (if okB b = true ∧ 0 ≤ ac ∧ ac < 8 then ofA b.txs ac else []) from by
    obtain ⟨v, u, g1, g2, g3⟩ := hh
    obtain ⟨s'', q1, q2, q3⟩ := callq_own (pr := pr) g1 g2 hs
    refine ⟨v, s'', q1, q2, q3 v (fun hc => ?_) _ _ g3⟩
    simp only [clean, List.all_cons, Bool.and_eq_true] at hc
    obtain ⟨a', c', rfl⟩ := g3.len
    exact hc.1
  obtain ⟨s1, hs1d⟩ : ∃ s1, s1 = S (qs s) [some (bkC b a t l)] := ⟨_, rfl⟩
  have hx : Ex (qs s) s1 := by rw [hs1d]; exact S_ex hq _
  have hs1 := hx.wf hq
  have hg : s1.get (qs s).n = some (bkC b a t l) := by rw [hs1d]; exact S_get0 _ _
  have r1 := (r.mo (Mo.q F s)).mo (hx.mo _)
  have h1 := fun (pr : Option (List Nat)) => pcheck_q hK hs1 r1 z hcp pr
  have h2 := fun (pr : Option (List Nat)) => span_q hK hs1 r1.t (fun x hx => (z.tx x hx).1) z.nt ac 0 pr
  obtain ⟨at', ct, ht⟩ := r.t.len
  obtain ⟨al, cl, hl⟩ := r.l.len
  obtain ⟨aa, ca, ha⟩ := r.a.len
  subst ht hl ha
  rw [go62 hK _ _ rfl]
  simp only [bkC, EV.own] at hs1d hg
  by_cases hc : okB b = true ∧ 0 ≤ ac ∧ ac < 8
  · obtain ⟨c1, c2, c3⟩ := hc
    rw [if_pos ⟨c1, c2, c3⟩, if_pos ⟨c1, c2, c3⟩]
    rw [c1, if_pos rfl] at h1
    obtain ⟨k1, k2, k3, -⟩ := span_cut (wideB_sort (okB_wide c1)) ac 0
    rw [gone_ofA (wideB_txs (okB_wide c1))] at k3
    have hsz : shTx.sz = 21 := rfl
    obtain ⟨-, p1, p2, -⟩ := r1.t.sli hcp (spF ac 0 b.txs) (spT ac b.txs) k1 k2
    rw [hsz, k3] at p2
    rw [hsz] at p1
    have hlen := ofA_le b.txs ac
    obtain ⟨v, u, e1, e2, e3⟩ := copies_q hK hs1 p2 (fun x hx => z.tx x (ofA_sub hx)) (by have := z.nt; omega) (some [])
    have e1' : ∀ pr, callK K (.func (.func 131) #[] #[]) _ true pr s1 = some (v, u) := fun pr => e1
    have c2' : ¬ ac < 0 := by omega
    have c3' : ¬ 8 ≤ ac := by omega
    refine ⟨v, u, ?_, hx.trans e2, e3.weak hx.n⟩
    have z1 : (spF ac 0 b.txs : Int) ≤ b.txs.length := by have := spF_le ac 0 b.txs; omega
    simp (disch := first | omega | assumption | exact S_wf (by assumption) _ | (simp; done) | (simp; omega)) [c62, decide_eq_true, decide_eq_false, if_pos, if_neg, hq, ← hs1d, hg, h1, c2', c3', h2, idx, p1, e1']
  · rw [if_neg hc, if_neg hc]
    refine ⟨.slice none 0 0, s1, ?_, hx, Ow.nil⟩
    by_cases c1 : okB b = true
    · rw [c1, if_pos rfl] at h1
      by_cases c2 : ac < 0
      · simp (disch := first | omega | assumption | exact S_wf (by assumption) _ | (simp; done) | (simp; omega)) [c62, decide_eq_true, decide_eq_false, if_pos, if_neg, hq, ← hs1d, hg, h1, c2]
      · have c3 : 8 ≤ ac := by
          by_cases hh : 8 ≤ ac
          · exact hh
          · exact absurd ⟨c1, by omega, by omega⟩ hc
        simp (disch := first | omega | assumption | exact S_wf (by assumption) _ | (simp; done) | (simp; omega)) [c62, decide_eq_true, decide_eq_false, if_pos, if_neg, hq, ← hs1d, hg, h1, c2, c3]
    · rw [if_neg c1] at h1
      simp (disch := first | omega | assumption | exact S_wf (by assumption) _ | (simp; done) | (simp; omega)) [c62, decide_eq_true, decide_eq_false, if_pos, if_neg, hq, ← hs1d, hg, h1]
theorem ccheck_q (hK : Std ro K) {L : List T} {v : Value} {F : Fp} {s : St} (hs : WF s) (r : Sl shTx ro F s v L) (hsm : ∀ x ∈ L, Sm x) (hz : L.length < 4294967296) (pr : Option (List Nat)) : callK K (.func (.func 171) #[] #[]) [v] true pr s = some (vI (if (spentP L).isSome = true then 0 else 1), s) := by
  have hq := hs.q
  have h := fun (pr : Option (List Nat)) => spent_q hK hq (r.mo (Mo.q F s)) hsm hz pr
  obtain ⟨a, c, rfl⟩ := r.len
  have h1 : ∃ s', K (.func (.func 171) #[] #[]) [.slice a L.length c] (qs s) = some (vI (if (spentP L).isSome = true then 0 else 1), s') := by
    rw [go171 hK _ _ rfl]
    cases hx : spentP L with
    | some x => rw [hx] at h; simp only [spentV] at h; simp (disch := first | omega | assumption | exact S_wf (by assumption) _ | (simp; done) | (simp; omega)) [c171, decide_eq_true, decide_eq_false, if_pos, if_neg, hq, h]
    | none => rw [hx] at h; simp only [spentV] at h; simp (disch := first | omega | assumption | exact S_wf (by assumption) _ | (simp; done) | (simp; omega)) [c171, decide_eq_true, decide_eq_false, if_pos, if_neg, hq, h]
  obtain ⟨s', h1⟩ := h1
  exact callq h1 rfl
def nextT (L : List T) (n : Int) : Int := match L.getLast? with
  | none => n
  | some t => t.nonce + 1
theorem cnext_q (hK : Std ro K) {L : List T} {v : Value} {F : Fp} {s : St} (hs : WF s) (r : Sl shTx ro F s v L) (hsm : ∀ x ∈ L, Sm x) (hz : L.length < 4294967296) (n : Int) (pr : Option (List Nat)) (hok : (spentP L).isSome = true) (hokT : ∀ t ∈ L, okT t = true) (hn : 0 ≤ n ∧ n ≤ 1099511627776) : callK K (.func (.func 90) #[] #[]) [v, vI n] true pr s = some (.tuple #[vI (nextT L n), vI 0], s) := by
  have h := fun (pr : Option (List Nat)) => ccheck_q hK hs.q (r.mo (Mo.q F s)) hsm hz pr
  rw [hok, if_pos rfl] at h
  obtain ⟨a, c, rfl⟩ := r.len
  have h1 : ∃ s', K (.func (.func 90) #[] #[]) [.slice a L.length c, vI n] (qs s) = some (.tuple #[vI (nextT L n), vI 0], s') := by
    rw [go90 hK _ _ rfl]
    have n1 : ¬ n < 0 := by omega
    have n2 : ¬ 1099511627776 < n := by omega
    by_cases h0 : L.length = 0
    · have : L = [] := List.eq_nil_of_length_eq_zero h0
      subst this
      simp only [List.length_nil] at h
      simp (disch := first | omega | assumption | exact S_wf (by assumption) _ | (simp; done) | (simp; omega)) [c90, decide_eq_true, decide_eq_false, if_pos, if_neg, h, n1, n2, nextT]
    · obtain ⟨b, hb, q0, q1⟩ := (r.mo (Mo.q F s)).atF (L.length - 1) (by omega)
      subst hb
      have e1 : (L.length : Int) - 1 = ((L.length - 1 : Nat) : Int) := by omega
      have hl : nextT L n = (L[L.length - 1]'(by omega)).nonce + 1 := by
        unfold nextT
        rw [List.getLast?_eq_getElem?, List.getElem?_eq_getElem (by omega)]
      have o := okT_parts (hokT (L[L.length - 1]'(by omega)) (by simp))
      have hp : 0 < (L.length : Int) := by omega
      rw [hl]
      simp (disch := first | omega | assumption | exact S_wf (by assumption) _ | (simp; done) | (simp; omega)) [c90, decide_eq_true, decide_eq_false, if_pos, if_neg, h, n1, n2, wI, e1, q1, hp]
  obtain ⟨s', h1⟩ := h1
  exact callq h1 rfl
end Go.Proofs.YtakdnpafdadblaaGreat.EV.W
namespace Go.Proofs.YtakdnpafdadblaaGreat.EV.W
open Go
set_option maxRecDepth 8000
set_option maxHeartbeats 1000000
variable {ro : Addr → Option Value} {K : H}
theorem index_loop (L : List UInt64) (F : Fp) (hz : L.length < 4294967296) (x : UInt64) (a : Option Addr) (c : Nat) (s : St) (hs : WF s) (r : Sl sh64 ro F s (.slice a L.length c) L) (k : List Fm) :
    ∀ (j i : Nat), i + j = L.length → M ro K (.lop b136_0) (.bk 0 :: k) [(0, .slice a L.length c), (1, v64 x), (7, vI L.length), (8, vI i)] s =
      if findIx (L.drop i) x i < 0 then Rk ro K .nrm k [(0, .slice a L.length c), (1, v64 x), (7, vI L.length), (8, vI L.length), (9, .bool false)] s else Rk ro K .ret k [(4, vI (findIx (L.drop i) x i))] s := by
  intro j
  induction j with
  | zero =>
    intro i h
    have : i = L.length := by omega
    subst this
    rw [List.drop_of_length_le (Nat.le_refl _), M_lop]
    simp (disch := first | omega | assumption | exact S_wf (by assumption) _ | (simp; done) | (simp; omega)) [Mb _ _ b136_0.eq_1, findIx]
  | succ j ih =>
    intro i h
    obtain ⟨a', c', hv, ho⟩ := r.open
    cases hv
    obtain ⟨b, rfl, hrd⟩ := Sl.at1 ho i (by omega)
    rw [List.drop_eq_getElem_cons (show i < L.length by omega), findIx]
    by_cases hc : L[i] = x
    · have hc' : x = L[i] := hc.symm
      rw [if_pos hc, if_neg (by omega), M_lop]
      simp (disch := first | omega | assumption | exact S_wf (by assumption) _ | (simp; done) | (simp; omega)) [Mb _ _ b136_0.eq_1, decide_eq_true, decide_eq_false, if_pos, if_neg, wI, hrd, hc]
    · have hc' : ¬ x = L[i] := fun e => hc e.symm
      rw [if_neg hc, ← ih (i + 1) (by omega), M_lop]
      simp (disch := first | omega | assumption | exact S_wf (by assumption) _ | (simp; done) | (simp; omega)) [Mb _ _ b136_0.eq_1, decide_eq_true, decide_eq_false, if_pos, if_neg, wI, hrd, hc']
theorem index_q (hK : Std ro K) {L : List UInt64} {v : Value} {F : Fp} {s : St} (hs : WF s) (r : Sl sh64 ro F s v L) (hz : L.length < 4294967296) (x : UInt64) (pr : Option (List Nat)) : callK K (.func (.func 136) #[] #[]) [v, v64 x] true pr s = some (vI (findIx L x 0), s) := by
  obtain ⟨a, c, rfl⟩ := r.len
  have h1 : ∃ s', K (.func (.func 136) #[] #[]) [.slice a L.length c, v64 x] (qs s) = some (vI (findIx L x 0), s') := by
    have hl := fun k => index_loop (K := K) L F hz x a c (qs s) hs.q (r.mo (Mo.q F s)) k L.length 0 (by omega)
    simp only [show ((0 : Nat) : Int) = 0 from rfl, List.drop_zero] at hl
    rw [go136 hK _ _ rfl]
    by_cases hc : findIx L x 0 < 0
    · have : findIx L x 0 = -1 := by
        have key : ∀ (l : List UInt64) (i : Nat), findIx l x i < 0 → findIx l x i = -1 := by
          intro l
          induction l with
          | nil => exact fun _ _ => rfl
          | cons y l ih => intro i h; rw [findIx] at h ⊢; split at h <;> split
                           · omega
                           · rename_i h1 h2; exact absurd h1 h2
                           · rename_i h1 h2; exact absurd h2 h1
                           · exact ih _ h
        exact key _ _ hc
      simp (disch := first | omega | assumption | exact S_wf (by assumption) _ | (simp; done) | (simp; omega)) [c136, decide_eq_true, decide_eq_false, if_pos, if_neg, hl, hc, this]
    · simp (disch := first | omega | assumption | exact S_wf (by assumption) _ | (simp; done) | (simp; omega)) [c136, decide_eq_true, decide_eq_false, if_pos, if_neg, hl, hc]
  obtain ⟨s', h1⟩ := h1
  exact callq h1 rfl
theorem contains_q (hK : Std ro K) {L : List UInt64} {v : Value} {F : Fp} {s : St} (hs : WF s) (r : Sl sh64 ro F s v L) (hz : L.length < 4294967296) (x : UInt64) (pr : Option (List Nat)) : callK K (.func (.func 158) #[] #[]) [v, v64 x] true pr s = some (.bool (decide (x ∈ L)), s) := by
  have h := fun (pr : Option (List Nat)) => index_q hK hs.q (r.mo (Mo.q F s)) hz x pr
  have hd : decide (x ∈ L) = decide (0 ≤ findIx L x 0) := by
    rw [decide_eq_decide]
    have := findIx_iff x L 0
    by_cases hh : x ∈ L
    · exact ⟨fun _ => by have : ¬ findIx L x 0 < 0 := fun e => this.1 e hh; omega, fun _ => hh⟩
    · have := this.2 hh
      exact ⟨fun e => absurd e hh, fun e => by omega⟩
  have h1 : ∃ s', K (.func (.func 158) #[] #[]) [v, v64 x] (qs s) = some (.bool (decide (x ∈ L)), s') := by
    rw [go158 hK _ _ rfl, hd]
    simp (disch := first | omega | assumption | exact S_wf (by assumption) _ | (simp; done) | (simp; omega)) [c158, decide_eq_true, decide_eq_false, if_pos, if_neg, h]
  obtain ⟨s', h1⟩ := h1
  exact callq h1 rfl
theorem kn1_t (hK : Std ro K) (F : Fp) (x : Held) (h b : Value) (kid : Nat) (id : UInt64) (s : St) (hs : WF s) (hT : TR ro F s x.tx h b) (hg : s.get kid = some [v64 id]) :
    K (.func (.func 173) #[] #[.pointer (some (EV.own kid 0))]) [.agg #[vI x.tx.frm, vI x.tx.nonce, v64 x.tx.tip.a, v64 x.tx.tip.b, v64 x.tx.tip.c, v64 x.tx.tip.d, v64 x.tx.cap.a, v64 x.tx.cap.b, v64 x.tx.cap.c, v64 x.tx.cap.d, v64 x.tx.bcap.a, v64 x.tx.bcap.b, v64 x.tx.bcap.c, v64 x.tx.bcap.d, v64 x.tx.value.a, v64 x.tx.value.b, v64 x.tx.value.c, v64 x.tx.value.d, vI x.tx.gas, h, b, vI x.block]] s = some (.bool (decide (idP x.tx = id)), S s [some (hdC x h b)]) := by
  have hx := S_ex hs [some (hdC x h b)]
  have hc0 := fun (pr : Option (List Nat)) => id_q hK (hx.wf hs) (hT.mo (hx.mo F)) pr
  have g2 : ∀ y, (S s y).get kid = some [v64 id] := fun y => by rw [S_old _ _ (St.get_lt hg)]; exact hg
  simp only [hdC, txC, List.cons_append, List.nil_append] at hc0
  rw [goc173 hK _ _ _ rfl]
  unfold idP
  by_cases hok : okT x.tx = true
  · rw [if_pos hok] at hc0 ⊢
    simp (disch := first | omega | assumption | exact S_wf (by assumption) _ | (simp; done) | (simp; omega)) [c173, decide_eq_true, decide_eq_false, if_pos, if_neg, hs, hc0, g2]
  · rw [if_neg hok] at hc0 ⊢
    simp (disch := first | omega | assumption | exact S_wf (by assumption) _ | (simp; done) | (simp; omega)) [c173, decide_eq_true, decide_eq_false, if_pos, if_neg, hs, hc0, g2]
theorem kix_loop (hK : Std ro K) (F : Fp) (L : List Held) (hsm : ∀ x ∈ L, Sm x.tx) (hz : L.length < 4294967296) (a : Option Addr) (c : Nat) (kid : Nat) (id : UInt64) (s1 : St) (hs1 : WF s1) (r : Sl shHeld ro F s1 (.slice a L.length c) L) (hg : s1.get kid = some [v64 id]) :
    ∀ (j i : Nat) (u : St), i + j = L.length → Ex s1 u → ∃ u', Ex s1 u' ∧ if (L.drop i).any (fun x => decide (idP x.tx = id)) = true then ∃ q : Nat, ∀ k : List Fm, M ro K (.lop b236_0) (.bk 0 :: k) [(0, .slice a L.length c), (1, .func (.func 173) #[] #[.pointer (some (EV.own kid 0))]), (7, vI L.length), (8, vI i)] u = Rk ro K .ret k [(4, vI q)] u'
      else ∀ k : List Fm, M ro K (.lop b236_0) (.bk 0 :: k) [(0, .slice a L.length c), (1, .func (.func 173) #[] #[.pointer (some (EV.own kid 0))]), (7, vI L.length), (8, vI i)] u = Rk ro K .nrm k [(0, .slice a L.length c), (1, .func (.func 173) #[] #[.pointer (some (EV.own kid 0))]), (7, vI L.length), (8, vI L.length), (9, .bool false)] u' := by
  intro j
  induction j with
  | zero =>
    intro i u h he
    have : i = L.length := by omega
    subst this
    refine ⟨u, he, ?_⟩
    rw [List.drop_of_length_le (Nat.le_refl _), if_neg (by simp)]
    intro k
    rw [M_lop]
    simp (disch := first | omega | assumption | exact S_wf (by assumption) _ | (simp; done) | (simp; omega)) [Mb _ _ b236_0.eq_1]
  | succ j ih =>
    intro i u h he
    have hu := he.wf hs1
    obtain ⟨b, hv, bv, hb, hrd, hT⟩ := (r.mo (he.mo F)).atH hsm i (by omega)
    subst hb
    have q1 := hrd.rd 22 (by simp)
    simp only [txC, List.cons_append, List.nil_append, List.take_succ_cons, List.take_zero, List.drop_succ_cons, List.drop_zero, shift_shift] at q1
    have hx := S_ex hu [some (hdC L[i] hv bv)]
    have hc := kn1_t hK F L[i] hv bv kid id u hu hT ((he.row kid (St.get_lt hg)).trans hg)
    simp only [hdC, txC, List.cons_append, List.nil_append, EV.own] at hc hx
    rw [List.drop_eq_getElem_cons (show i < L.length by omega), List.any_cons]
    cases hd : decide (idP L[i].tx = id) with
    | true =>
      rw [hd] at hc
      rw [Bool.true_or, ]
      refine ⟨_, he.trans hx, ?_⟩
      rw [if_pos rfl]
      refine ⟨i, fun k => ?_⟩
      rw [M_lop]
      simp (disch := first | omega | assumption | exact S_wf (by assumption) _ | (simp; done) | (simp; omega)) [Mb _ _ b236_0.eq_1, decide_eq_true, decide_eq_false, if_pos, if_neg, q1, callK_f, hc, wI, hu]
    | false =>
      rw [hd] at hc
      rw [Bool.false_or]
      obtain ⟨u', e1, e2⟩ := ih (i + 1) _ (by omega) (he.trans hx)
      refine ⟨u', e1, ?_⟩
      have hstep : ∀ k : List Fm, M ro K (.lop b236_0) (.bk 0 :: k) [(0, .slice (some b) L.length c), (1, .func (.func 173) #[] #[.pointer (some (EV.own kid 0))]), (7, vI L.length), (8, vI i)] u = M ro K (.lop b236_0) (.bk 0 :: k) [(0, .slice (some b) L.length c), (1, .func (.func 173) #[] #[.pointer (some (EV.own kid 0))]), (7, vI L.length), (8, vI (i + 1 : Nat))] (S u [some (hdC L[i] hv bv)]) := by
        intro k
        rw [M_lop]
        simp (disch := first | omega | assumption | exact S_wf (by assumption) _ | (simp; done) | (simp; omega)) [Mb _ _ b236_0.eq_1, decide_eq_true, decide_eq_false, if_pos, if_neg, q1, callK_f, hc, wI, hu]
      split at e2
      · rename_i hg
        rw [if_pos hg]
        obtain ⟨x, e2⟩ := e2
        exact ⟨x, fun k => (hstep k).trans (e2 k)⟩
      · rename_i hg
        rw [if_neg hg]
        exact fun k => (hstep k).trans (e2 k)
theorem kany_q (hK : Std ro K) {L : List Held} {v : Value} {F : Fp} {s : St} (hs : WF s) (r : Sl shHeld ro F s v L) (hsm : ∀ x ∈ L, Sm x.tx) (hz : L.length < 4294967296) (kid : Nat) (id : UInt64) (hg : s.get kid = some [v64 id]) (pr : Option (List Nat)) : callK K (.func (.func 172) #[] #[]) [v, .func (.func 173) #[] #[.pointer (some (EV.own kid 0))]] true pr s = some (.bool (L.any fun x => decide (idP x.tx = id)), s) := by
  obtain ⟨a, c, rfl⟩ := r.len
  have ix : ∀ s, WF s → Sl shHeld ro F s (.slice a L.length c) L → s.get kid = some [v64 id] → ∀ pr, ∃ x : Int, (0 ≤ x ↔ (L.any fun x => decide (idP x.tx = id)) = true) ∧ callK K (.func (.func 236) #[] #[]) [.slice a L.length c, .func (.func 173) #[] #[.pointer (some (EV.own kid 0))]] true pr s = some (vI x, s) := fun s hs r hg pr => by
    obtain ⟨u', e1, hl⟩ := kix_loop hK F L hsm hz a c kid id (qs s) hs.q (r.mo (Mo.q F s)) hg L.length 0 _ (by omega) (Ex.refl hs.q)
    simp only [show ((0 : Nat) : Int) = 0 from rfl, List.drop_zero] at hl
    split at hl
    · rename_i ha
      obtain ⟨q, hl⟩ := hl
      refine ⟨q, ⟨fun _ => ha, fun _ => by omega⟩, callq (s' := u') ?_ rfl⟩
      rw [go236 hK _ _ rfl]
      simp only [EV.own] at hl ⊢
      simp (disch := first | omega | assumption | exact S_wf (by assumption) _ | (simp; done) | (simp; omega)) [c236, decide_eq_true, decide_eq_false, if_pos, if_neg, hl]
    · rename_i ha
      refine ⟨-1, ⟨fun h => by omega, fun h => absurd h ha⟩, callq (s' := u') ?_ rfl⟩
      rw [go236 hK _ _ rfl]
      simp only [EV.own] at hl ⊢
      simp (disch := first | omega | assumption | exact S_wf (by assumption) _ | (simp; done) | (simp; omega)) [c236, decide_eq_true, decide_eq_false, if_pos, if_neg, hl]
  obtain ⟨x, h1, h2⟩ := ix _ hs.q (r.mo (Mo.q F s)) hg pr
  have h3 : ∃ s', K (.func (.func 172) #[] #[]) [.slice a L.length c, .func (.func 173) #[] #[.pointer (some (EV.own kid 0))]] (qs s) = some (.bool (L.any fun x => decide (idP x.tx = id)), s') := by
    obtain ⟨x, h1, h2⟩ := ix _ hs.q (r.mo (Mo.q F s)) hg (some [])
    have h2' : ∀ pr, callK K (.func (.func 236) #[] #[]) [.slice a L.length c, .func (.func 173) #[] #[.pointer (some (EV.own kid 0))]] true pr (qs s) = some (vI x, qs s) := fun pr => h2
    have hd : (L.any fun x => decide (idP x.tx = id)) = decide (0 ≤ x) := by
      by_cases hh : 0 ≤ x
      · rw [decide_eq_true hh]; exact h1.1 hh
      · rw [decide_eq_false hh]
        cases hb : (L.any fun x => decide (idP x.tx = id)) with
        | false => rfl
        | true => exact absurd (h1.2 hb) hh
    rw [hd, go172 hK _ _ rfl]
    simp only [EV.own] at h2' ⊢
    simp (disch := first | omega | assumption | exact S_wf (by assumption) _ | (simp; done) | (simp; omega)) [c172, decide_eq_true, decide_eq_false, if_pos, if_neg, h2']
  obtain ⟨s', h3⟩ := h3
  exact callq h3 rfl
def knownP (b : Bk) (id : UInt64) : Bool := decide (id ∈ b.txs.map idP) || b.limbo.any fun x => decide (idP x.tx = id)
theorem known_q (hK : Std ro K) {b : Bk} {a t l : Value} {F : Fp} {s : St} (hs : WF s) (r : BkR ro F s b a t l) (z : BSz b) (id : UInt64) (pr : Option (List Nat)) : callK K (.func (.func 91) #[] #[]) [vB b a t l, v64 id] true pr s = some (.bool (knownP b id), s) := by
  have hq := hs.q
  suffices hh : ∃ u, K (.func (.func 91) #[] #[]) [vB b a t l, v64 id] (qs s) = some (.bool (knownP b id), u) by
    obtain ⟨u, h⟩ := hh
    exact callq h rfl
  obtain ⟨s1, hs1d⟩ : ∃ s1, s1 = S (qs s) [some (bkC b a t l), some [v64 id]] := ⟨_, rfl⟩
  have hx : Ex (qs s) s1 := by rw [hs1d]; exact S_ex hq _
  have hs1 := hx.wf hq
  have hg : s1.get (qs s).n = some (bkC b a t l) := by rw [hs1d]; exact S_get0 _ _
  have hg2 : s1.get ((qs s).n + 1) = some [v64 id] := by rw [hs1d]; exact S_get _ _ 1
  have r1 := (r.mo (Mo.q F s)).mo (hx.mo _)
  obtain ⟨v', s2, c1, x1, o1⟩ := ids_q hK hs1 r1.t (fun x hx => (z.tx x hx).1) z.nt (some [])
  have c1' : ∀ pr, callK K (.func (.func 137) #[] #[]) [t] true pr s1 = some (v', s2) := fun pr => c1
  have hs2 := x1.wf hs1
  have c2 := fun (pr : Option (List Nat)) => contains_q hK hs2 o1.sl (by rw [List.length_map]; exact z.nt) id pr
  have g2 := (x1.row _ (St.get_lt hg)).trans hg
  have g3 := (x1.row _ (St.get_lt hg2)).trans hg2
  have c3 := fun (pr : Option (List Nat)) => kany_q hK hs2 (r1.mo (x1.mo F)).l (fun x hx => (z.lb x hx).1) z.nl _ id g3 pr
  obtain ⟨⟨ca, pa⟩, ⟨ct, pt⟩, ⟨cl, pl⟩⟩ : (EV.cells a = [a] ∧ plainT a = true) ∧ (EV.cells t = [t] ∧ plainT t = true) ∧ (EV.cells l = [l] ∧ plainT l = true) := ⟨r.a.cells, r.t.cells, r.l.cells⟩
  unfold knownP
  rw [go91 hK _ _ rfl]
  simp only [bkC, EV.own] at hs1d hg hg2 c3 g2 g3
  cases hm : decide (id ∈ b.txs.map idP) with
  | true =>
    rw [hm] at c2
    simp (disch := first | omega | assumption | exact S_wf (by assumption) _ | (simp; done) | (simp; omega)) [c91, decide_eq_true, decide_eq_false, if_pos, if_neg, hq, ← hs1d, hg, hg2, c1', c2, g2, g3]
  | false =>
    rw [hm] at c2
    simp (disch := first | omega | assumption | exact S_wf (by assumption) _ | (simp; done) | (simp; omega)) [c91, decide_eq_true, decide_eq_false, if_pos, if_neg, hq, ← hs1d, hg, hg2, c1', c2, c3, g2, g3]
end Go.Proofs.YtakdnpafdadblaaGreat.EV.W
namespace Go.Proofs.YtakdnpafdadblaaGreat.EV.W
open Go
set_option maxRecDepth 8000
set_option maxHeartbeats 1000000
variable {ro : Addr → Option Value} {K : H}
def rivT (o t : T) : Bool := okT o && (okT t && (decide (o.frm = t.frm) && decide (o.nonce = t.nonce)))
theorem rivals_q (hK : Std ro K) {o t : T} {h b h' b' : Value} {F : Fp} {s : St} (hs : WF s) (r : TR ro F s o h b) (r' : TR ro F s t h' b') (pr : Option (List Nat)) : callK K (.func (.func 174) #[] #[]) [vT o h b, vT t h' b'] true pr s = some (.bool (rivT o t), s) := by
  suffices hh : ∃ u, K (.func (.func 174) #[] #[]) [vT o h b, vT t h' b'] (qs s) = some (.bool (rivT o t), u) by
    obtain ⟨u, hh⟩ := hh
    exact callq hh rfl
  have hq := hs.q
  have hx := S_ex hq [some (txC o h b), some (txC t h' b')]
  have h1 := fun (pr : Option (List Nat)) => check_q hK (hx.wf hq) ((r.mo (Mo.q F s)).mo (hx.mo F)) pr
  have h2 := fun (pr : Option (List Nat)) => check_q hK (hx.wf hq) ((r'.mo (Mo.q F s)).mo (hx.mo F)) pr
  rw [go174 hK _ _ rfl]
  unfold rivT
  by_cases e1 : okT o = true
  · rw [if_pos e1] at h1
    by_cases e2 : okT t = true
    · rw [if_pos e2] at h2
      by_cases e3 : o.frm = t.frm
      · have e3' : decide (o.frm = t.frm) = true := decide_eq_true e3
        simp (disch := first | omega | assumption | exact S_wf (by assumption) _ | (simp; done) | (simp; omega)) [c174, decide_eq_true, decide_eq_false, if_pos, if_neg, hq, h1, h2, e1, e2, e3']
      · simp (disch := first | omega | assumption | exact S_wf (by assumption) _ | (simp; done) | (simp; omega)) [c174, decide_eq_true, decide_eq_false, if_pos, if_neg, hq, h1, h2, e1, e2, e3]
    · rw [if_neg e2] at h2
      simp (disch := first | omega | assumption | exact S_wf (by assumption) _ | (simp; done) | (simp; omega)) [c174, decide_eq_true, decide_eq_false, if_pos, if_neg, hq, h1, h2, e1, e2]
  · rw [if_neg e1] at h1
    simp (disch := first | omega | assumption | exact S_wf (by assumption) _ | (simp; done) | (simp; omega)) [c174, decide_eq_true, decide_eq_false, if_pos, if_neg, hq, h1, e1]
theorem fees_q (hK : Std ro K) {t : T} {h b : Value} {s : St} (hs : WF s) (hc : (EV.cells h = [h] ∧ plainT h = true) ∧ (EV.cells b = [b] ∧ plainT b = true)) (pr : Option (List Nat)) : callK K (.func (.func 175) #[] #[]) [vT t h b] true pr s = some (.agg #[v64 t.bcap.a, v64 t.bcap.b, v64 t.bcap.c, v64 t.bcap.d, v64 t.cap.a, v64 t.cap.b, v64 t.cap.c, v64 t.cap.d, v64 t.tip.a, v64 t.tip.b, v64 t.tip.c, v64 t.tip.d], s) := by
  have hq := hs.q
  have h1 : ∃ u, K (.func (.func 175) #[] #[]) [vT t h b] (qs s) = some (.agg #[v64 t.bcap.a, v64 t.bcap.b, v64 t.bcap.c, v64 t.bcap.d, v64 t.cap.a, v64 t.cap.b, v64 t.cap.c, v64 t.cap.d, v64 t.tip.a, v64 t.tip.b, v64 t.tip.c, v64 t.tip.d], u) := by
    rw [go175 hK _ _ rfl]
    obtain ⟨⟨c1, c2⟩, c3, c4⟩ := hc
    simp (disch := first | omega | assumption | exact S_wf (by assumption) _ | (simp; done) | (simp; omega)) [c175, decide_eq_true, decide_eq_false, if_pos, if_neg, hq]
  obtain ⟨u, h1⟩ := h1
  exact callq h1 rfl
theorem double_q (hK : Std ro K) (a b c d : UInt64) {s : St} (hs : WF s) (pr : Option (List Nat)) : callK K (.func (.func 176) #[] #[]) [.agg #[v64 a, v64 b, v64 c, v64 d]] true pr s = some (vUE (addR ⟨a, b, c, d⟩ ⟨a, b, c, d⟩).1 (addR ⟨a, b, c, d⟩ ⟨a, b, c, d⟩).2, s) := by
  have hq := hs.q
  have ha := fun (s : St) (hs : WF s) (pr : Option (List Nat)) => add_q hK a b c d a b c d hs pr
  have h1 : ∃ u, K (.func (.func 176) #[] #[]) [.agg #[v64 a, v64 b, v64 c, v64 d]] (qs s) = some (vUE (addR ⟨a, b, c, d⟩ ⟨a, b, c, d⟩).1 (addR ⟨a, b, c, d⟩ ⟨a, b, c, d⟩).2, u) := by
    rw [go176 hK _ _ rfl]
    simp (disch := first | omega | assumption | exact S_wf (by assumption) _ | (simp; done) | (simp; omega)) [c176, decide_eq_true, decide_eq_false, if_pos, if_neg, hq, ha]
  obtain ⟨u, h1⟩ := h1
  exact callq h1 rfl
def twi (x y : U) : Bool := decide (x.val + x.val < 2 ^ 256 ∧ x.val + x.val ≤ y.val)
def payT (o t : T) : Bool := twi o.bcap t.bcap && (twi o.cap t.cap && twi o.tip t.tip)
theorem cmpN_lt0 (a b : Nat) : (cmpN a b < 0) ↔ a < b := by
  unfold cmpN
  split
  · constructor <;> intro h <;> omega
  · split <;> constructor <;> intro h <;> omega
theorem bump_s0 (hK : Std ro K) (o t : T) (k5 : Nat) (u : St) (hu : WF u) (hg : u.get k5 = some [v64 t.bcap.a, v64 t.bcap.b, v64 t.bcap.c, v64 t.bcap.d, v64 t.cap.a, v64 t.cap.b, v64 t.cap.c, v64 t.cap.d, v64 t.tip.a, v64 t.tip.b, v64 t.tip.c, v64 t.tip.d]) :
    ∃ u', Ex u u' ∧ ∀ k : List Fm, M ro K (.lop b92_0) (.bk 0 :: k) [(5, .pointer (some (EV.own k5 0))), (17, .agg #[v64 o.bcap.a, v64 o.bcap.b, v64 o.bcap.c, v64 o.bcap.d, v64 o.cap.a, v64 o.cap.b, v64 o.cap.c, v64 o.cap.d, v64 o.tip.a, v64 o.tip.b, v64 o.tip.c, v64 o.tip.d]), (18, vI 0)] u =
      if twi o.bcap t.bcap = true then M ro K (.lop b92_0) (.bk 0 :: k) [(5, .pointer (some (EV.own k5 0))), (17, .agg #[v64 o.bcap.a, v64 o.bcap.b, v64 o.bcap.c, v64 o.bcap.d, v64 o.cap.a, v64 o.cap.b, v64 o.cap.c, v64 o.cap.d, v64 o.tip.a, v64 o.tip.b, v64 o.tip.c, v64 o.tip.d]), (18, vI 1)] u' else Rk ro K .ret k [(4, vI 11)] u' := by
  have hd := fun (a b c d : UInt64) (s : St) (hs : WF s) (pr : Option (List Nat)) => double_q hK a b c d hs pr
  have hc := fun (a b c d e f g h : UInt64) (s : St) (hs : WF s) (pr : Option (List Nat)) => cmp_q hK a b c d e f g h hs pr
  have sg : ∀ y, (S u y).get k5 = some [v64 t.bcap.a, v64 t.bcap.b, v64 t.bcap.c, v64 t.bcap.d, v64 t.cap.a, v64 t.cap.b, v64 t.cap.c, v64 t.cap.d, v64 t.tip.a, v64 t.tip.b, v64 t.tip.c, v64 t.tip.d] := fun y => by rw [S_old _ _ (St.get_lt hg)]; exact hg
  have hx := o.bcap.val_lt
  unfold twi
  by_cases hov : o.bcap.val + o.bcap.val < 2 ^ 256
  · have e1 : addR ⟨o.bcap.a, o.bcap.b, o.bcap.c, o.bcap.d⟩ ⟨o.bcap.a, o.bcap.b, o.bcap.c, o.bcap.d⟩ = (U.of (o.bcap.val + o.bcap.val), 0) := by simp only [U_eta]; unfold addR; rw [if_pos hov]
    have e2 := cmpN_lt0 t.bcap.val (U.of (o.bcap.val + o.bcap.val)).val
    rw [U.val_of hov] at e2
    refine ⟨S u [some (cU o.bcap), some (cU (U.of (o.bcap.val + o.bcap.val)))], S_ex hu _, fun k => ?_⟩
    by_cases hle : o.bcap.val + o.bcap.val ≤ t.bcap.val
    · have e3 : ¬ cmpN t.bcap.val (o.bcap.val + o.bcap.val) < 0 := fun hh => by have := e2.1 hh; omega
      rw [decide_eq_true ⟨hov, hle⟩, if_pos rfl, M_lop]
      simp (disch := first | omega | assumption | exact S_wf (by assumption) _ | (simp; done) | (simp; omega)) [Mb _ _ b92_0.eq_1, decide_eq_true, decide_eq_false, if_pos, if_neg, hu, hd, hc, e1, sg, U_eta, U.val_of hov, e3, wI]
    · have e3 : cmpN t.bcap.val (o.bcap.val + o.bcap.val) < 0 := e2.2 (by omega)
      rw [decide_eq_false (fun hh => hle hh.2), if_neg Bool.false_ne_true, M_lop]
      simp (disch := first | omega | assumption | exact S_wf (by assumption) _ | (simp; done) | (simp; omega)) [Mb _ _ b92_0.eq_1, decide_eq_true, decide_eq_false, if_pos, if_neg, hu, hd, hc, e1, sg, U_eta, U.val_of hov, e3, wI]
  · have e1 : addR ⟨o.bcap.a, o.bcap.b, o.bcap.c, o.bcap.d⟩ ⟨o.bcap.a, o.bcap.b, o.bcap.c, o.bcap.d⟩ = (U0, 8) := by simp only [U_eta]; unfold addR; rw [if_neg hov]
    refine ⟨S u [some (cU o.bcap), some (cU U0)], S_ex hu _, fun k => ?_⟩
    rw [decide_eq_false (fun hh => hov hh.1), if_neg Bool.false_ne_true, M_lop]
    simp (disch := first | omega | assumption | exact S_wf (by assumption) _ | (simp; done) | (simp; omega)) [Mb _ _ b92_0.eq_1, decide_eq_true, decide_eq_false, if_pos, if_neg, hu, hd, e1]
theorem bump_s1 (hK : Std ro K) (o t : T) (k5 : Nat) (u : St) (hu : WF u) (hg : u.get k5 = some [v64 t.bcap.a, v64 t.bcap.b, v64 t.bcap.c, v64 t.bcap.d, v64 t.cap.a, v64 t.cap.b, v64 t.cap.c, v64 t.cap.d, v64 t.tip.a, v64 t.tip.b, v64 t.tip.c, v64 t.tip.d]) :
    ∃ u', Ex u u' ∧ ∀ k : List Fm, M ro K (.lop b92_0) (.bk 0 :: k) [(5, .pointer (some (EV.own k5 0))), (17, .agg #[v64 o.bcap.a, v64 o.bcap.b, v64 o.bcap.c, v64 o.bcap.d, v64 o.cap.a, v64 o.cap.b, v64 o.cap.c, v64 o.cap.d, v64 o.tip.a, v64 o.tip.b, v64 o.tip.c, v64 o.tip.d]), (18, vI 1)] u =
      if twi o.cap t.cap = true then M ro K (.lop b92_0) (.bk 0 :: k) [(5, .pointer (some (EV.own k5 0))), (17, .agg #[v64 o.bcap.a, v64 o.bcap.b, v64 o.bcap.c, v64 o.bcap.d, v64 o.cap.a, v64 o.cap.b, v64 o.cap.c, v64 o.cap.d, v64 o.tip.a, v64 o.tip.b, v64 o.tip.c, v64 o.tip.d]), (18, vI 2)] u' else Rk ro K .ret k [(4, vI 11)] u' := by
  have hd := fun (a b c d : UInt64) (s : St) (hs : WF s) (pr : Option (List Nat)) => double_q hK a b c d hs pr
  have hc := fun (a b c d e f g h : UInt64) (s : St) (hs : WF s) (pr : Option (List Nat)) => cmp_q hK a b c d e f g h hs pr
  have sg : ∀ y, (S u y).get k5 = some [v64 t.bcap.a, v64 t.bcap.b, v64 t.bcap.c, v64 t.bcap.d, v64 t.cap.a, v64 t.cap.b, v64 t.cap.c, v64 t.cap.d, v64 t.tip.a, v64 t.tip.b, v64 t.tip.c, v64 t.tip.d] := fun y => by rw [S_old _ _ (St.get_lt hg)]; exact hg
  have hx := o.cap.val_lt
  unfold twi
  by_cases hov : o.cap.val + o.cap.val < 2 ^ 256
  · have e1 : addR ⟨o.cap.a, o.cap.b, o.cap.c, o.cap.d⟩ ⟨o.cap.a, o.cap.b, o.cap.c, o.cap.d⟩ = (U.of (o.cap.val + o.cap.val), 0) := by simp only [U_eta]; unfold addR; rw [if_pos hov]
    have e2 := cmpN_lt0 t.cap.val (U.of (o.cap.val + o.cap.val)).val
    rw [U.val_of hov] at e2
    refine ⟨S u [some (cU o.cap), some (cU (U.of (o.cap.val + o.cap.val)))], S_ex hu _, fun k => ?_⟩
    by_cases hle : o.cap.val + o.cap.val ≤ t.cap.val
    · have e3 : ¬ cmpN t.cap.val (o.cap.val + o.cap.val) < 0 := fun hh => by have := e2.1 hh; omega
      rw [decide_eq_true ⟨hov, hle⟩, if_pos rfl, M_lop]
      simp (disch := first | omega | assumption | exact S_wf (by assumption) _ | (simp; done) | (simp; omega)) [Mb _ _ b92_0.eq_1, decide_eq_true, decide_eq_false, if_pos, if_neg, hu, hd, hc, e1, sg, U_eta, U.val_of hov, e3, wI]
    · have e3 : cmpN t.cap.val (o.cap.val + o.cap.val) < 0 := e2.2 (by omega)
      rw [decide_eq_false (fun hh => hle hh.2), if_neg Bool.false_ne_true, M_lop]
      simp (disch := first | omega | assumption | exact S_wf (by assumption) _ | (simp; done) | (simp; omega)) [Mb _ _ b92_0.eq_1, decide_eq_true, decide_eq_false, if_pos, if_neg, hu, hd, hc, e1, sg, U_eta, U.val_of hov, e3, wI]
  · have e1 : addR ⟨o.cap.a, o.cap.b, o.cap.c, o.cap.d⟩ ⟨o.cap.a, o.cap.b, o.cap.c, o.cap.d⟩ = (U0, 8) := by simp only [U_eta]; unfold addR; rw [if_neg hov]
    refine ⟨S u [some (cU o.cap), some (cU U0)], S_ex hu _, fun k => ?_⟩
    rw [decide_eq_false (fun hh => hov hh.1), if_neg Bool.false_ne_true, M_lop]
    simp (disch := first | omega | assumption | exact S_wf (by assumption) _ | (simp; done) | (simp; omega)) [Mb _ _ b92_0.eq_1, decide_eq_true, decide_eq_false, if_pos, if_neg, hu, hd, e1]
theorem bump_s2 (hK : Std ro K) (o t : T) (k5 : Nat) (u : St) (hu : WF u) (hg : u.get k5 = some [v64 t.bcap.a, v64 t.bcap.b, v64 t.bcap.c, v64 t.bcap.d, v64 t.cap.a, v64 t.cap.b, v64 t.cap.c, v64 t.cap.d, v64 t.tip.a, v64 t.tip.b, v64 t.tip.c, v64 t.tip.d]) :
    ∃ u', Ex u u' ∧ ∀ k : List Fm, M ro K (.lop b92_0) (.bk 0 :: k) [(5, .pointer (some (EV.own k5 0))), (17, .agg #[v64 o.bcap.a, v64 o.bcap.b, v64 o.bcap.c, v64 o.bcap.d, v64 o.cap.a, v64 o.cap.b, v64 o.cap.c, v64 o.cap.d, v64 o.tip.a, v64 o.tip.b, v64 o.tip.c, v64 o.tip.d]), (18, vI 2)] u =
      if twi o.tip t.tip = true then M ro K (.lop b92_0) (.bk 0 :: k) [(5, .pointer (some (EV.own k5 0))), (17, .agg #[v64 o.bcap.a, v64 o.bcap.b, v64 o.bcap.c, v64 o.bcap.d, v64 o.cap.a, v64 o.cap.b, v64 o.cap.c, v64 o.cap.d, v64 o.tip.a, v64 o.tip.b, v64 o.tip.c, v64 o.tip.d]), (18, vI 3)] u' else Rk ro K .ret k [(4, vI 11)] u' := by
  have hd := fun (a b c d : UInt64) (s : St) (hs : WF s) (pr : Option (List Nat)) => double_q hK a b c d hs pr
  have hc := fun (a b c d e f g h : UInt64) (s : St) (hs : WF s) (pr : Option (List Nat)) => cmp_q hK a b c d e f g h hs pr
  have sg : ∀ y, (S u y).get k5 = some [v64 t.bcap.a, v64 t.bcap.b, v64 t.bcap.c, v64 t.bcap.d, v64 t.cap.a, v64 t.cap.b, v64 t.cap.c, v64 t.cap.d, v64 t.tip.a, v64 t.tip.b, v64 t.tip.c, v64 t.tip.d] := fun y => by rw [S_old _ _ (St.get_lt hg)]; exact hg
  have hx := o.tip.val_lt
  unfold twi
  by_cases hov : o.tip.val + o.tip.val < 2 ^ 256
  · have e1 : addR ⟨o.tip.a, o.tip.b, o.tip.c, o.tip.d⟩ ⟨o.tip.a, o.tip.b, o.tip.c, o.tip.d⟩ = (U.of (o.tip.val + o.tip.val), 0) := by simp only [U_eta]; unfold addR; rw [if_pos hov]
    have e2 := cmpN_lt0 t.tip.val (U.of (o.tip.val + o.tip.val)).val
    rw [U.val_of hov] at e2
    refine ⟨S u [some (cU o.tip), some (cU (U.of (o.tip.val + o.tip.val)))], S_ex hu _, fun k => ?_⟩
    by_cases hle : o.tip.val + o.tip.val ≤ t.tip.val
    · have e3 : ¬ cmpN t.tip.val (o.tip.val + o.tip.val) < 0 := fun hh => by have := e2.1 hh; omega
      rw [decide_eq_true ⟨hov, hle⟩, if_pos rfl, M_lop]
      simp (disch := first | omega | assumption | exact S_wf (by assumption) _ | (simp; done) | (simp; omega)) [Mb _ _ b92_0.eq_1, decide_eq_true, decide_eq_false, if_pos, if_neg, hu, hd, hc, e1, sg, U_eta, U.val_of hov, e3, wI]
    · have e3 : cmpN t.tip.val (o.tip.val + o.tip.val) < 0 := e2.2 (by omega)
      rw [decide_eq_false (fun hh => hle hh.2), if_neg Bool.false_ne_true, M_lop]
      simp (disch := first | omega | assumption | exact S_wf (by assumption) _ | (simp; done) | (simp; omega)) [Mb _ _ b92_0.eq_1, decide_eq_true, decide_eq_false, if_pos, if_neg, hu, hd, hc, e1, sg, U_eta, U.val_of hov, e3, wI]
  · have e1 : addR ⟨o.tip.a, o.tip.b, o.tip.c, o.tip.d⟩ ⟨o.tip.a, o.tip.b, o.tip.c, o.tip.d⟩ = (U0, 8) := by simp only [U_eta]; unfold addR; rw [if_neg hov]
    refine ⟨S u [some (cU o.tip), some (cU U0)], S_ex hu _, fun k => ?_⟩
    rw [decide_eq_false (fun hh => hov hh.1), if_neg Bool.false_ne_true, M_lop]
    simp (disch := first | omega | assumption | exact S_wf (by assumption) _ | (simp; done) | (simp; omega)) [Mb _ _ b92_0.eq_1, decide_eq_true, decide_eq_false, if_pos, if_neg, hu, hd, e1]
theorem bump_q (hK : Std ro K) {o t : T} {h b h' b' : Value} {F : Fp} {s : St} (hs : WF s) (r : TR ro F s o h b) (r' : TR ro F s t h' b') (pr : Option (List Nat)) : callK K (.func (.func 92) #[] #[]) [vT o h b, vT t h' b'] true pr s = some (vI (if rivT o t = true then (if payT o t = true then 0 else 11) else 1), s) := by
  suffices hh : ∃ u, K (.func (.func 92) #[] #[]) [vT o h b, vT t h' b'] (qs s) = some (vI (if rivT o t = true then (if payT o t = true then 0 else 11) else 1), u) by
    obtain ⟨u, hh⟩ := hh
    exact callq hh rfl
  have hq := hs.q
  have hx := S_ex hq [some (txC o h b), some (txC t h' b')]
  have h1 := fun (pr : Option (List Nat)) => rivals_q hK (hx.wf hq) ((r.mo (Mo.q F s)).mo (hx.mo F)) ((r'.mo (Mo.q F s)).mo (hx.mo F)) pr
  have hcl := r.hs.cells
  have hcl2 := r.bs.cells
  have hcl3 := r'.hs.cells
  have hcl4 := r'.bs.cells
  have h2 := fun (s : St) (hs : WF s) (pr : Option (List Nat)) => fees_q hK (t := t) hs ⟨hcl3, hcl4⟩ pr
  have h3 := fun (s : St) (hs : WF s) (pr : Option (List Nat)) => fees_q hK (t := o) hs ⟨hcl, hcl2⟩ pr
  rw [go92 hK _ _ rfl]
  by_cases e1 : rivT o t = true
  · rw [if_pos e1]
    rw [e1] at h1
    obtain ⟨s1, hs1⟩ : ∃ s1, s1 = S (qs s) [some (txC o h b), some (txC t h' b'), some [v64 t.bcap.a, v64 t.bcap.b, v64 t.bcap.c, v64 t.bcap.d, v64 t.cap.a, v64 t.cap.b, v64 t.cap.c, v64 t.cap.d, v64 t.tip.a, v64 t.tip.b, v64 t.tip.c, v64 t.tip.d]] := ⟨_, rfl⟩
    have hw1 : WF s1 := by rw [hs1]; exact S_wf hq _
    have hg : s1.get ((qs s).n + 2) = some [v64 t.bcap.a, v64 t.bcap.b, v64 t.bcap.c, v64 t.bcap.d, v64 t.cap.a, v64 t.cap.b, v64 t.cap.c, v64 t.cap.d, v64 t.tip.a, v64 t.tip.b, v64 t.tip.c, v64 t.tip.d] := by rw [hs1]; exact S_get _ _ 2
    have hg0 : s1.get (qs s).n = some (txC o h b) := by rw [hs1]; exact S_get0 _ _
    obtain ⟨u1, x1, l1⟩ := bump_s0 hK o t _ s1 hw1 hg
    have g1 := (x1.row _ (St.get_lt hg)).trans hg
    obtain ⟨u2, x2, l2⟩ := bump_s1 hK o t _ u1 (x1.wf hw1) g1
    have g2 := (x2.row _ (St.get_lt g1)).trans g1
    obtain ⟨u3, x3, l3⟩ := bump_s2 hK o t _ u2 (x2.wf (x1.wf hw1)) g2
    have l4 : ∀ k : List Fm, M ro K (.lop b92_0) (.bk 0 :: k) [(5, .pointer (some (EV.own ((qs s).n + 2) 0))), (17, .agg #[v64 o.bcap.a, v64 o.bcap.b, v64 o.bcap.c, v64 o.bcap.d, v64 o.cap.a, v64 o.cap.b, v64 o.cap.c, v64 o.cap.d, v64 o.tip.a, v64 o.tip.b, v64 o.tip.c, v64 o.tip.d]), (18, vI 3)] u3 = Rk ro K .nrm k [(5, .pointer (some (EV.own ((qs s).n + 2) 0))), (17, .agg #[v64 o.bcap.a, v64 o.bcap.b, v64 o.bcap.c, v64 o.bcap.d, v64 o.cap.a, v64 o.cap.b, v64 o.cap.c, v64 o.cap.d, v64 o.tip.a, v64 o.tip.b, v64 o.tip.c, v64 o.tip.d]), (18, vI 3), (19, .bool false)] u3 := fun k => by
      rw [M_lop]
      simp (disch := first | omega | assumption | exact S_wf (by assumption) _ | (simp; done) | (simp; omega)) [Mb _ _ b92_0.eq_1]
    unfold payT
    simp only [txC, EV.own] at hs1 hg0 l1 l2 l3 l4
    cases p1 : twi o.bcap t.bcap with
    | false =>
      rw [p1] at l1
      simp only [if_neg Bool.false_ne_true] at l1
      simp (disch := first | omega | assumption | exact S_wf (by assumption) _ | (simp; done) | (simp; omega)) [c92, decide_eq_true, decide_eq_false, if_pos, if_neg, hq, h1, h2, h3, ← hs1, hg0, hw1, l1]
    | true =>
      rw [p1] at l1
      simp only [if_true] at l1
      cases p2 : twi o.cap t.cap with
      | false =>
        rw [p2] at l2
        simp only [if_neg Bool.false_ne_true] at l2
        simp (disch := first | omega | assumption | exact S_wf (by assumption) _ | (simp; done) | (simp; omega)) [c92, decide_eq_true, decide_eq_false, if_pos, if_neg, hq, h1, h2, h3, ← hs1, hg0, hw1, l1, l2]
      | true =>
        rw [p2] at l2
        simp only [if_true] at l2
        cases p3 : twi o.tip t.tip with
        | false =>
          rw [p3] at l3
          simp only [if_neg Bool.false_ne_true] at l3
          simp (disch := first | omega | assumption | exact S_wf (by assumption) _ | (simp; done) | (simp; omega)) [c92, decide_eq_true, decide_eq_false, if_pos, if_neg, hq, h1, h2, h3, ← hs1, hg0, hw1, l1, l2, l3]
        | true =>
          rw [p3] at l3
          simp only [if_true] at l3
          simp (disch := first | omega | assumption | exact S_wf (by assumption) _ | (simp; done) | (simp; omega)) [c92, decide_eq_true, decide_eq_false, if_pos, if_neg, hq, h1, h2, h3, ← hs1, hg0, hw1, l1, l2, l3, l4]
  · rw [if_neg e1]
    rw [Bool.not_eq_true] at e1
    rw [e1] at h1
    simp (disch := first | omega | assumption | exact S_wf (by assumption) _ | (simp; done) | (simp; omega)) [c92, decide_eq_true, decide_eq_false, if_pos, if_neg, hq, h1]
end Go.Proofs.YtakdnpafdadblaaGreat.EV.W
namespace Go.Proofs.YtakdnpafdadblaaGreat.EV.W
open Go
set_option maxRecDepth 8000
set_option maxHeartbeats 1000000
variable {ro : Addr → Option Value} {K : H}
def cvG : U → List T → Option U
  | x, [] => some x
  | x, t :: l => if okT t = true then (if x.val + ((costT t).getD U0).val < 2 ^ 256 then cvG (U.of (x.val + ((costT t).getD U0).val)) l else none) else none
theorem cov_loop (hK : Std ro K) (F : Fp) (L : List T) (hsm : ∀ x ∈ L, Sm x) (hz : L.length < 4294967296) (a : Option Addr) (c : Nat) (k5 : Nat) (w3 : Value) (s1 : St) (hs1 : WF s1) (hF : ∀ j, F j → j ≠ k5) (r : Sl shTx ro F s1 (.slice a L.length c) L) (hm5 : s1.may k5 = true) :
    ∀ (j i : Nat) (u : St) (x : U), Exd (· = k5) s1 u → u.get k5 = some (cU x) → i + j = L.length →
    ∃ u', Exd (· = k5) s1 u' ∧ match cvG x (L.drop i) with
    | some y => u'.get k5 = some (cU y) ∧ ∀ k : List Fm, M ro K (.lop b93_0) (.bk 0 :: k) [(3, w3), (5, .pointer (some (EV.own k5 0))), (10, .slice a L.length c), (11, vI L.length), (12, vI i)] u = Rk ro K .nrm k [(3, w3), (5, .pointer (some (EV.own k5 0))), (10, .slice a L.length c), (11, vI L.length), (12, vI L.length), (13, .bool false)] u'
    | none => ∀ k : List Fm, M ro K (.lop b93_0) (.bk 0 :: k) [(3, w3), (5, .pointer (some (EV.own k5 0))), (10, .slice a L.length c), (11, vI L.length), (12, vI i)] u = Rk ro K .ret k [(4, .bool false)] u' := by
  intro j
  induction j with
  | zero =>
    intro i u x he hg h
    have : i = L.length := by omega
    subst this
    rw [List.drop_of_length_le (Nat.le_refl _), cvG]
    refine ⟨u, he, hg, fun k => ?_⟩
    rw [M_lop]
    simp (disch := first | omega | assumption | exact S_wf (by assumption) _ | (simp; done) | (simp; omega)) [Mb _ _ b93_0.eq_1]
  | succ j ih =>
    intro i u x he hg h
    have hu := he.wf hs1
    have hlt := St.get_lt hg
    obtain ⟨b, hv, bv, rfl, hrd, hT⟩ := (r.mo (he.mo fun j hj => hF j hj)).atT hsm i (by omega)
    have hx1 := S_ex hu [some (txC L[i] hv bv)]
    have hc := fun (pr : Option (List Nat)) => tcost_q hK (hx1.wf hu) (hT.mo (hx1.mo F)) pr
    have ha := fun (a b c d e f g h : UInt64) (s : St) (hs : WF s) (pr : Option (List Nat)) => add_q hK a b c d e f g h hs pr
    have hsg : ∀ l, (S u l).get k5 = some (cU x) := fun l => by rw [S_old _ _ hlt]; exact hg
    have hsm5 : ∀ l, (S u l).may k5 = true := fun l => by rw [((S_ex hu l).d (fun _ => False)).may, he.may]; exact hm5
    have go : ∀ l y, Exd (· = k5) s1 ((S u l).put k5 (some (cU y))) := fun l y =>
      (he.trans (E := (· = k5)) ((S_ex hu l).d (fun _ => False)) (fun _ _ h => h) (fun _ _ h => h.elim)).trans (E := (· = k5)) (Exd.put (S_wf hu l) (hsg l) _) (fun _ _ h => h) (fun _ _ h => h)
    rw [List.drop_eq_getElem_cons (show i < L.length by omega), cvG]
    by_cases hok : okT L[i] = true
    · obtain ⟨cx, hcx⟩ := okT_cost hok
      rw [if_pos hok, hcx] at hc
      rw [if_pos hok, hcx]
      simp only [Option.getD_some] at hc ⊢
      by_cases hov : x.val + cx.val < 2 ^ 256
      · rw [if_pos hov]
        have e1 : addR ⟨x.a, x.b, x.c, x.d⟩ ⟨cx.a, cx.b, cx.c, cx.d⟩ = (U.of (x.val + cx.val), 0) := by simp only [U_eta]; unfold addR; rw [if_pos hov]
        obtain ⟨u', f1, f2⟩ := ih (i + 1) _ (U.of (x.val + cx.val)) (go [some (txC L[i] hv bv), some (cU cx)] _) (St.get_put_same (hsg _) _) (by omega)
        refine ⟨u', f1, ?_⟩
        have step : ∀ k : List Fm, M ro K (.lop b93_0) (.bk 0 :: k) [(3, w3), (5, .pointer (some (EV.own k5 0))), (10, .slice (some b) L.length c), (11, vI L.length), (12, vI i)] u = M ro K (.lop b93_0) (.bk 0 :: k) [(3, w3), (5, .pointer (some (EV.own k5 0))), (10, .slice (some b) L.length c), (11, vI L.length), (12, vI (i + 1 : Nat))] ((S u [some (txC L[i] hv bv), some (cU cx)]).put k5 (some (cU (U.of (x.val + cx.val))))) := fun k => by
          rw [M_lop]
          simp (disch := first | omega | assumption | exact S_wf (by assumption) _ | (simp; done) | (simp; omega)) [Mb _ _ b93_0.eq_1, decide_eq_true, decide_eq_false, if_pos, if_neg, hrd, hc, ha, wI, hu, hsg, hsm5, e1]
        cases hsq : cvG (U.of (x.val + cx.val)) (L.drop (i + 1)) with
        | some y => rw [hsq] at f2; exact ⟨f2.1, fun k => (step k).trans (f2.2 k)⟩
        | none => rw [hsq] at f2; exact fun k => (step k).trans (f2 k)
      · rw [if_neg hov]
        have e1 : addR ⟨x.a, x.b, x.c, x.d⟩ ⟨cx.a, cx.b, cx.c, cx.d⟩ = (U0, 8) := by simp only [U_eta]; unfold addR; rw [if_neg hov]
        refine ⟨_, go [some (txC L[i] hv bv), some (cU cx)] U0, fun k => ?_⟩
        rw [M_lop]
        simp (disch := first | omega | assumption | exact S_wf (by assumption) _ | (simp; done) | (simp; omega)) [Mb _ _ b93_0.eq_1, decide_eq_true, decide_eq_false, if_pos, if_neg, hrd, hc, ha, wI, hu, hsg, hsm5, e1]
    · rw [if_neg hok] at hc
      rw [if_neg hok]
      refine ⟨S u [some (txC L[i] hv bv), some (cU U0)], he.trans ((S_ex hu _).d (fun _ => False)) (fun _ _ h => h) (fun _ _ h => h.elim), fun k => ?_⟩
      rw [M_lop]
      simp (disch := first | omega | assumption | exact S_wf (by assumption) _ | (simp; done) | (simp; omega)) [Mb _ _ b93_0.eq_1, decide_eq_true, decide_eq_false, if_pos, if_neg, hrd, hc, wI, hu]
def covP (L : List T) (bal : U) : Bool := match cvG U0 L with
  | some y => decide (y.val ≤ bal.val)
  | none => false
theorem cmpN_le0 (a b : Nat) : (cmpN a b ≤ 0) ↔ a ≤ b := by have := cmpN_gt0 a b; omega
theorem covered_q (hK : Std ro K) {L : List T} {v : Value} {F : Fp} {s : St} (hs : WF s) (r : Sl shTx ro F s v L) (hsm : ∀ x ∈ L, Sm x) (hz : L.length < 4294967296) (x y z w : UInt64) (pr : Option (List Nat)) : callK K (.func (.func 93) #[] #[]) [v, .agg #[v64 x, v64 y, v64 z, v64 w]] true pr s = some (.bool (covP L ⟨x, y, z, w⟩), s) := by
  obtain ⟨a, c, rfl⟩ := r.len
  have hq := hs.q
  suffices hh : ∃ s', K (.func (.func 93) #[] #[]) [.slice a L.length c, .agg #[v64 x, v64 y, v64 z, v64 w]] (qs s) = some (.bool (covP L ⟨x, y, z, w⟩), s') by
    obtain ⟨s', h⟩ := hh
    exact callq h rfl
  have r0 : Sl shTx ro (fun j => F j ∧ j < s.n) s (.slice a L.length c) L := r.mo ⟨Nat.le_refl _, fun j hj hF => ⟨rfl, hF, hj⟩⟩
  have r1 := r0.mo (Mo.q _ s)
  have hx := S_ex hq [some [v64 x, v64 y, v64 z, v64 w], some (cU U0)]
  obtain ⟨u', e1, e2⟩ := cov_loop hK (fun j => F j ∧ j < s.n) L hsm hz a c ((qs s).n + 1) (.pointer (some (EV.own (qs s).n 0))) _ (hx.wf hq) (fun j hj => by have : (qs s).n = s.n := rfl; omega) (r1.mo (hx.mo _)) (S_may hq _ 1) L.length 0 _ U0 ((Ex.refl (hx.wf hq)).d _) (S_get _ _ 1) (by omega)
  simp only [show ((0 : Nat) : Int) = 0 from rfl, List.drop_zero, EV.own] at e2
  have g3 : u'.get (qs s).n = some [v64 x, v64 y, v64 z, v64 w] := by rw [e1.row _ (by simp [S_n]) (by omega), S_get0]; rfl
  have hw' := e1.wf (hx.wf hq)
  have hc := fun (a b c d e f g h : UInt64) (s : St) (hs : WF s) (pr : Option (List Nat)) => cmp_q hK a b c d e f g h hs pr
  rw [go93 hK _ _ rfl]
  unfold covP
  cases hy : cvG U0 L with
  | some q =>
    rw [hy] at e2
    obtain ⟨g5, hl⟩ := e2
    have hcl := cmpN_le0 q.val (U.val ⟨x, y, z, w⟩)
    simp (disch := first | omega | assumption | exact S_wf (by assumption) _ | (simp; done) | (simp; omega)) [c93, decide_eq_true, decide_eq_false, if_pos, if_neg, hq, hl, g5, g3, hc, U_eta, hcl]
  | none =>
    rw [hy] at e2
    simp (disch := first | omega | assumption | exact S_wf (by assumption) _ | (simp; done) | (simp; omega)) [c93, decide_eq_true, decide_eq_false, if_pos, if_neg, hq, e2]
theorem Ow.tx {F : Fp} {s : St} {v : Value} {l : List T} (r : Ow shTxO ro F s v l) : Ow shTx ro F s v l := by
  rcases r with h | ⟨k, cs, h1, h2, h3, h4⟩
  · exact .inl h
  · exact .inr ⟨k, cs, h1, h2, h3, Rows.map (h := shTxO) (h' := shTx) (fun c x hh => by obtain ⟨h, b, e, q1, q2⟩ := hh; exact ⟨h, b, e, q1.sl, q2.sl⟩) h4⟩
theorem Ow.appA {α : Type} {h : Sh α} {F : Fp} {s : St} {v : Value} {l l' : List α} {new : List Value} (hs : WF s) (hF : F s.n) (hm : ∀ j, Dv v j → s.may j = true) (r : Ow h ro F s v l) (hnew : Rows h ro (fun j => F j ∧ ¬ Dv v j) s new l') (hl' : 0 < l'.length) (hb : l.length + l'.length ≤ 4294967296) (hz : h.sz ≤ 1024) :
    ∃ a c s', v = .slice a l.length c ∧ appendTo s h.sz a l.length c new l'.length = some (.slice (some (own s.n 0)) (l.length + l'.length) h.sz, s') ∧ Exd (Dv v) s s' ∧ Ow h ro F s' (.slice (some (own s.n 0)) (l.length + l'.length) h.sz) (l ++ l') ∧ s'.n = s.n + 1 := by
  rcases r with ⟨rfl, rfl⟩ | ⟨k, cs, rfl, h2, h3, h4⟩
  · refine ⟨none, 0, s.push new, rfl, ?_, ?_, ?_, rfl⟩
    · unfold appendTo
      rw [if_neg (by simp only [List.length_nil] at hb ⊢; omega), if_neg (by omega), if_pos ⟨rfl, rfl⟩]
      simp
    · rw [push_eq]; exact (S_ex hs _).d _
    · exact .inr ⟨s.n, new, by simp, hF, St.get_push_new _ _, hnew.mo ⟨by simp, fun j hj hF => ⟨St.get_push_old _ _ hj, hF.1, by omega⟩⟩⟩
  · have hkn := St.get_lt h3
    have hp : ∀ j, j < s.n → j ≠ k → ((s.put k none).push (cs ++ new)).get j = s.get j := fun j hj hjk => by
      rw [St.get_push_old _ _ (by simpa using hj), St.get_put_other _ _ hjk hkn]
    refine ⟨some (EV.own k 0), h.sz, (s.put k none).push (cs ++ new), rfl, ?_, ?_, ?_, rfl⟩
    · unfold appendTo
      rw [if_neg (by omega), if_neg (by omega), if_neg (by intro hh; have := h.pos; omega)]
      simp only [EV.own]
      rw [if_pos ⟨hm k ⟨_, _, rfl⟩, trivial⟩, h3]
      simp only [cut]
      rw [if_pos (by rw [h4.length]; omega), List.drop_zero, ← h4.length, List.take_length]
    · refine ⟨by simp, Nat.le_refl _, fun j hj hjk => ?_, rfl, rfl, rfl, rfl, by simp [St.push, St.put, hs.len]⟩
      exact hp j hj (fun e => hjk ⟨l.length, h.sz, by subst e; rfl⟩)
    · refine .inr ⟨s.n, cs ++ new, by simp, hF, St.get_push_new (s.put k none) _, Rows.append (h4.mo ⟨by simp, fun j hj hF => ⟨hp j hj hF.2, hF.1, by omega⟩⟩) (hnew.mo ⟨by simp, fun j hj hF => ⟨hp j hj (fun e => hF.2 ⟨l.length, h.sz, by subst e; rfl⟩), hF.1, by omega⟩⟩)⟩
theorem Ow.setT {F : Fp} {s : St} {k n c : Nat} {l : List T} (hs : WF s) (r : Ow shTx ro F s (.slice (some (own k 0)) n c) l) (i : Nat) (hi : i < l.length) {t : T} {h b : Value} (rt : TR ro (fun j => F j ∧ j ≠ k) s t h b) :
    ∃ cs, s.get k = some cs ∧ cs.length = l.length * 21 ∧ Sl shTx ro F (s.put k (some (splice cs (i * 21) (txC t h b)))) (.slice (some (own k 0)) n c) (l.set i t) := by
  rcases r with ⟨h0, -⟩ | ⟨k', cs, h1, h2, h3, h4⟩
  · cases h0
  · cases h1
    have hk := St.get_lt h3
    have hlen := h4.length
    have hsz : shTx.sz = 21 := rfl
    rw [hsz] at hlen
    have m : Mo (fun j => F j ∧ j ≠ k) s (fun j => F j ∧ j ≠ k) (s.put k (some (splice cs (i * 21) (txC t h b)))) := ⟨Nat.le_refl _, fun j hj hf => ⟨St.get_put_other _ _ hf.2 hk, hf⟩⟩
    have hset := (Rows.set h4 i hi (c := txC t h b) (x := t) ⟨h, b, rfl, rt.hs, rt.bs⟩).mo m
    refine ⟨cs, h3, hlen, some (own k 0), _, _, by rw [List.length_set], hset.mo (Mo.weak _ fun j hj => hj.1), fun hh => (by cases hh), fun b0 hb0 => ?_⟩
    cases hb0
    have hg : (s.put k (some (splice cs (i * 21) (txC t h b)))).get k = some (splice cs (i * 21) (txC t h b)) := St.get_put_same h3 _
    have := RdA.own (ro := ro) (F := F) h2 hg 0 (splice cs (i * 21) (txC t h b)).length (by omega)
    simp only [List.drop_zero, List.take_length] at this
    exact this
end Go.Proofs.YtakdnpafdadblaaGreat.EV.W
namespace Go.Proofs.YtakdnpafdadblaaGreat.EV.W
open Go
set_option maxRecDepth 8000
set_option maxHeartbeats 1000000
variable {ro : Addr → Option Value} {K : H}
theorem linkT_at (f : Int) : ∀ (l : List T) (n : Int), linkT f n l = true → ∀ i (h : i < l.length), l[i].nonce = n + 1 + i
  | [], _, _, i, h => by simp at h
  | t :: l, n, hl, i, h => by
    rw [linkT] at hl
    split at hl
    · rename_i h1
      cases i with
      | zero => simp only [List.getElem_cons_zero]; omega
      | succ i =>
        have := linkT_at f l t.nonce hl i (by simpa using h)
        simp only [List.getElem_cons_succ]; omega
    · cases hl
structure Acc (b : Bk) (a : Int) (ac : Acct) : Prop where
  ch : chainOk (ofA b.txs a) = true
  sp : (spentP (ofA b.txs a)).isSome = true
  le : (ofA b.txs a).length ≤ 6
  nn : ∀ i (h : i < (ofA b.txs a).length), (ofA b.txs a)[i].nonce = ac.nonce + i ∧ (ofA b.txs a)[i].frm = a
theorem wideB_acc {b : Bk} (h : wideB b = true) (n : Nat) (hn : n < 8) : ∃ h8 : b.accts.length = 8, Acc b n (b.accts[n]'(by omega)) ∧ acctOk (b.accts[n]'(by omega)) = true := by
  unfold wideB at h
  simp only [Bool.and_eq_true] at h
  obtain ⟨-, h2, -, -, -, -, hf, -⟩ := h
  unfold acctsOk at h2
  rw [Bool.and_eq_true, decide_eq_true_eq] at h2
  refine ⟨h2.2, ?_, List.all_eq_true.1 h2.1 _ (by simp)⟩
  have hfn := (fineGo_iff b.txs b.accts 0).1 hf n (by omega)
  rw [Int.zero_add] at hfn
  unfold acctFine at hfn
  simp only [Bool.and_eq_true] at hfn
  obtain ⟨⟨c1, c2⟩, -⟩ := hfn
  have hfrm : ∀ t ∈ ofA b.txs n, t.frm = (n : Int) := fun t ht => by have := (List.mem_filter.1 ht).2; simpa using this
  have h6 : (ofA b.txs (n : Int)).length ≤ 6 := by
    cases hl : ofA b.txs (n : Int) with
    | nil => simp
    | cons t l =>
      rw [hl, chainOk] at c1
      simp only [Bool.and_eq_true, decide_eq_true_eq] at c1
      simp only [List.length_cons]; omega
  refine ⟨c1, ?_, h6, fun i hi => ⟨?_, hfrm _ (by simp)⟩⟩
  · rw [spentP_eq, if_pos c1]
    cases hl : ofA b.txs (n : Int) with
    | nil => rfl
    | cons t l =>
      rw [hl, chainOk] at c1
      simp only [Bool.and_eq_true] at c1
      exact c1.2
  · generalize ofA b.txs (n : Int) = q at *
    cases q with
    | nil => simp at hi
    | cons t l =>
      rw [chainOk] at c1
      simp only [Bool.and_eq_true, decide_eq_true_eq] at c1 c2
      cases i with
      | zero => simp only [List.getElem_cons_zero]; omega
      | succ i =>
        have := linkT_at _ l t.nonce c1.1.2 i (by simpa using hi)
        simp only [List.getElem_cons_succ]; omega
theorem Acc.next {b : Bk} {a : Int} {ac : Acct} (h : Acc b a ac) : nextT (ofA b.txs a) ac.nonce = ac.nonce + (ofA b.txs a).length := by
  unfold nextT
  by_cases h0 : (ofA b.txs a).length = 0
  · rw [List.eq_nil_of_length_eq_zero h0]; simp
  · rw [List.getLast?_eq_getElem?, List.getElem?_eq_getElem (by omega)]
    have := (h.nn ((ofA b.txs a).length - 1) (by omega)).1
    dsimp only
    omega
def mayP (b : Bk) (t : T) : Int :=
  if okT t = false ∨ okB b = false then 1 else
  if knownP b (idT t) = true then 4 else
  if t.nonce < (b.accts.getD t.frm.toNat aZ).nonce then 9 else
  if (b.accts.getD t.frm.toNat aZ).nonce + (ofA b.txs t.frm).length < t.nonce then 10 else
  if t.nonce < (b.accts.getD t.frm.toNat aZ).nonce + (ofA b.txs t.frm).length then
    (if payT ((ofA b.txs t.frm).getD (t.nonce - (b.accts.getD t.frm.toNat aZ).nonce).toNat t) t = true then
      (if covP ((ofA b.txs t.frm).set (t.nonce - (b.accts.getD t.frm.toNat aZ).nonce).toNat t) (b.accts.getD t.frm.toNat aZ).bal = true then 0 else 12) else 11) else
  if 6 ≤ (ofA b.txs t.frm).length then 2 else
  if covP (ofA b.txs t.frm ++ [t]) (b.accts.getD t.frm.toNat aZ).bal = true then 0 else 12
theorem may_t (hK : Std ro K) {b : Bk} {a tv l : Value} {t : T} {h bb : Value} {F : Fp} {s : St} (hq : WF s) (r : BkR ro F s b a tv l) (z : BSz b) (hcp : Cp 21 tv) (rt : TR ro F s t h bb) :
    ∃ s', K (.func (.func 30) #[] #[]) [vB b a tv l, vT t h bb] s = some (vI (mayP b t), s') := by
  obtain ⟨s1, hs1d⟩ : ∃ s1, s1 = S s [some (bkC b a tv l), some (txC t h bb)] := ⟨_, rfl⟩
  have hx : Ex s s1 := by rw [hs1d]; exact S_ex hq _
  have hs1 := hx.wf hq
  have hn1 : s1.n = s.n + 2 := by rw [hs1d, S_n]; rfl
  have g0 : s1.get s.n = some (bkC b a tv l) := by rw [hs1d]; exact S_get0 _ _
  have g1 : s1.get (s.n + 1) = some (txC t h bb) := by rw [hs1d]; exact S_get _ _ 1
  have r0 : BkR ro (fun j => F j ∧ j < s.n) s b a tv l := r.mo ⟨Nat.le_refl _, fun j hj hF => ⟨rfl, hF, hj⟩⟩
  have rt0 : TR ro (fun j => F j ∧ j < s.n) s t h bb := rt.mo ⟨Nat.le_refl _, fun j hj hF => ⟨rfl, hF, hj⟩⟩
  have r1 := r0.mo (hx.mo _)
  have rt1 := rt0.mo (hx.mo _)
  have h1 := fun (pr : Option (List Nat)) => id_q hK hs1 rt1 pr
  have h2 := fun (pr : Option (List Nat)) => pcheck_q hK hs1 r1 z hcp pr
  obtain ⟨at', ct, ht⟩ := r.t.len
  obtain ⟨al, cl, hl⟩ := r.l.len
  obtain ⟨aa, ca, ha⟩ := r.a.len
  subst ht hl ha
  rw [go30 hK _ _ rfl]
  simp only [bkC, txC, EV.own] at hs1d g0 g1
  unfold mayP
  cases e1 : okT t with
  | false =>
    rw [if_pos (.inl rfl)]
    rw [e1] at h1
    simp only [if_neg Bool.false_ne_true] at h1
    obtain ⟨c1, c2⟩ := rt.hs.cells
    obtain ⟨c3, c4⟩ := rt.bs.cells
    simp (disch := first | omega | assumption | exact S_wf (by assumption) _ | (simp; done) | (simp; omega)) [c30, decide_eq_true, decide_eq_false, if_pos, if_neg, hq, ← hs1d, g0, g1, h1]
  | true =>
  rw [e1] at h1
  simp only [if_true] at h1
  cases e2 : okB b with
  | false =>
    rw [if_pos (.inr rfl)]
    rw [e2] at h2
    simp only [if_neg Bool.false_ne_true] at h2
    simp (disch := first | omega | assumption | exact S_wf (by assumption) _ | (simp; done) | (simp; omega)) [c30, decide_eq_true, decide_eq_false, if_pos, if_neg, hq, ← hs1d, g0, g1, h1, h2]
  | true =>
  rw [if_neg (by simp)]
  rw [e2] at h2
  simp only [if_true] at h2
  obtain ⟨p1, p2, p3, p4, -⟩ := okT_parts e1
  obtain ⟨n, hn⟩ : ∃ n : Nat, t.frm = n := ⟨t.frm.toNat, by omega⟩
  have hfn : t.frm.toNat = n := by omega
  obtain ⟨h8, A, hac⟩ := wideB_acc (okB_wide e2) n (by omega)
  rw [← hn] at A
  obtain ⟨ac, hacd⟩ : ∃ ac, ac = b.accts[n]'(by omega) := ⟨_, rfl⟩
  rw [← hacd] at A hac
  have hA : b.accts.getD t.frm.toNat aZ = ac := by rw [hfn, List.getD_eq_getElem?_getD, List.getElem?_eq_getElem (by omega), hacd]; rfl
  rw [hA]
  obtain ⟨L, hL⟩ : ∃ L, L = ofA b.txs t.frm := ⟨_, rfl⟩
  have A1 := A.sp
  have A2 := A.le
  have A3 := A.nn
  have A4 := A.next
  have hokL : ∀ x ∈ L, okT x = true := fun x hx => wideB_txs (okB_wide e2) x (ofA_sub (by rw [← hL]; exact hx))
  have hszL : ∀ x ∈ L, Sz x := fun x hx => z.tx x (ofA_sub (by rw [← hL]; exact hx))
  rw [← hL] at A1 A2 A4 ⊢
  have A3' : ∀ i (h : i < L.length), L[i].nonce = ac.nonce + i ∧ L[i].frm = t.frm := by rw [hL]; exact A3
  unfold acctOk at hac
  rw [decide_eq_true_eq] at hac
  obtain ⟨b0, hb0, h5⟩ := r1.a.atA n (by omega)
  subst hb0
  have rd5 := h5.rd 5 (by simp)
  simp only [← hacd, List.take_succ_cons, List.take_zero] at rd5
  have f0 : 0 ≤ t.frm := by omega
  have f8 : t.frm < (b.accts.length : Int) := by omega
  obtain ⟨s2, hs2d⟩ : ∃ s2, s2 = S s1 [some [vI ac.nonce, v64 ac.bal.a, v64 ac.bal.b, v64 ac.bal.c, v64 ac.bal.d]] := ⟨_, rfl⟩
  have x2 : Ex s1 s2 := by rw [hs2d]; exact S_ex hs1 _
  have hs2 := x2.wf hs1
  have hn2 : s2.n = s1.n + 1 := by rw [hs2d, S_n]; rfl
  have ga2 : s2.get s1.n = some [vI ac.nonce, v64 ac.bal.a, v64 ac.bal.b, v64 ac.bal.c, v64 ac.bal.d] := by rw [hs2d]; exact S_get0 _ _
  have g02 := (x2.row _ (St.get_lt g0)).trans g0
  have g12 := (x2.row _ (St.get_lt g1)).trans g1
  have r2 := r1.mo (x2.mo _)
  obtain ⟨v, s3, c3, x3, o3⟩ := pchain_q hK hs2 r2 z hcp t.frm (some [])
  rw [if_pos ⟨e2, f0, by omega⟩] at c3
  rw [if_pos ⟨e2, f0, by omega⟩, ← hL] at o3
  have c3' : ∀ pr, callK K (.func (.func 62) #[] #[]) [vB b (.slice (some b0) b.accts.length ca) (.slice at' b.txs.length ct) (.slice al b.limbo.length cl), vI t.frm] true pr s2 = some (.tuple #[v, vI 0], s3) := fun pr => c3
  have hs3 := x3.wf hs2
  have hn3 := x3.n
  have ga3 := (x3.row _ (St.get_lt ga2)).trans ga2
  have g03 := (x3.row _ (St.get_lt g02)).trans g02
  have g13 := (x3.row _ (St.get_lt g12)).trans g12
  have r3 := r2.mo (x3.mo _)
  have rt3 := (rt1.mo (x2.mo _)).mo (x3.mo _)
  have h4 := fun (pr : Option (List Nat)) => cnext_q hK hs3 o3.txs (fun x hx => (hszL x hx).1) (by omega) ac.nonce pr A1 hokL hac
  rw [A4] at h4
  have h5 := fun (pr : Option (List Nat)) => known_q hK hs3 r3 z (idT t) pr
  obtain ⟨cv, pv⟩ := o3.cells
  obtain ⟨c1, c2⟩ := rt.hs.cells
  obtain ⟨c4, c5⟩ := rt.bs.cells
  cases e3 : knownP b (idT t) with
  | true =>
    rw [if_pos rfl]
    rw [e3] at h5
    simp (disch := first | omega | assumption | exact S_wf (by assumption) _ | (simp; done) | (simp; omega)) [c30, decide_eq_true, decide_eq_false, if_pos, if_neg, hq, ← hs1d, g0, g1, h1, h2, hfn, rd5, ← hs2d, g02, g12, ga2, c3', g03, g13, ga3, h4, h5]
  | false =>
  rw [if_neg Bool.false_ne_true]
  rw [e3] at h5
  by_cases e4 : t.nonce < ac.nonce
  · rw [if_pos e4]
    simp (disch := first | omega | assumption | exact S_wf (by assumption) _ | (simp; done) | (simp; omega)) [c30, decide_eq_true, decide_eq_false, if_pos, if_neg, hq, ← hs1d, g0, g1, h1, h2, hfn, rd5, ← hs2d, g02, g12, ga2, c3', g03, g13, ga3, h4, h5, e4]
  rw [if_neg e4]
  by_cases e5 : ac.nonce + (L.length : Int) < t.nonce
  · rw [if_pos e5]
    simp (disch := first | omega | assumption | exact S_wf (by assumption) _ | (simp; done) | (simp; omega)) [c30, decide_eq_true, decide_eq_false, if_pos, if_neg, hq, ← hs1d, g0, g1, h1, h2, hfn, rd5, ← hs2d, g02, g12, ga2, c3', g03, g13, ga3, h4, h5, e4, e5]
  rw [if_neg e5]
  have hF3 : ∀ j, (F j ∧ j < s.n) → ((F j ∧ j < s.n) ∨ Fresh s2.n j) := fun j hj => .inl hj
  have o3' : Ow shTx ro (fun j => (F j ∧ j < s.n) ∨ Fresh s2.n j) s3 v L := o3.tx.fp fun j hj => .inr hj
  have hcov := fun (u : St) (hu : WF u) (w : Value) (M : List T) (F4 : Fp) (rr : Sl shTx ro F4 u w M) (hm : ∀ x ∈ M, Sm x) (hz : M.length < 4294967296) (pr : Option (List Nat)) => covered_q hK hu rr hm hz ac.bal.a ac.bal.b ac.bal.c ac.bal.d pr
  by_cases e6 : t.nonce < ac.nonce + (L.length : Int)
  · rw [if_pos e6]
    obtain ⟨i, hi⟩ : ∃ i : Nat, t.nonce - ac.nonce = i := ⟨(t.nonce - ac.nonce).toNat, by omega⟩
    have hin : (t.nonce - ac.nonce).toNat = i := by omega
    rw [hin]
    have hiL : i < L.length := by omega
    have hD : L.getD i t = L[i] := by rw [List.getD_eq_getElem?_getD, List.getElem?_eq_getElem hiL]; rfl
    rw [hD]
    have o3w := o3'
    rcases o3w with ⟨-, h0⟩ | ⟨k, cs, rfl, k2, k3, k4⟩
    · rw [h0] at hiL; simp at hiL
    have hk2 : s2.n ≤ k := by
      rcases o3 with ⟨h0, -⟩ | ⟨k', cs', h0, h1', -⟩
      · cases h0
      · cases h0; exact h1'
    obtain ⟨h', b', q1, q2, q3⟩ := k4.at i hiL
    have hsz : shTx.sz = 21 := rfl
    rw [hsz] at q1
    have hlen := k4.length
    rw [hsz] at hlen
    have hl21 : i * 21 + 21 ≤ cs.length := by omega
    have to : TR ro (fun j => (F j ∧ j < s.n) ∨ Fresh s2.n j) s3 L[i] h' b' := ⟨q2.mo (Mo.weak _ fun j hj => hj.1), q3.mo (Mo.weak _ fun j hj => hj.1), (hszL _ (by simp)).1⟩
    have h6 := fun (pr : Option (List Nat)) => bump_q hK hs3 to (rt3.mo (Mo.weak _ hF3)) pr
    have hri : rivT L[i] t = true := by
      unfold rivT
      obtain ⟨a1, a2⟩ := A3' i hiL
      rw [hokL _ (by simp), e1, decide_eq_true a2, decide_eq_true (by omega)]; rfl
    rw [hri, if_pos rfl] at h6
    have i1 : t.nonce - ac.nonce = (i : Int) := hi
    simp only [EV.own, hsz] at h4 c3'
    cases e7 : payT L[i] t with
    | false =>
      rw [e7] at h6
      simp only [if_neg Bool.false_ne_true] at h6 ⊢
      simp (disch := first | omega | assumption | exact S_wf (by assumption) _ | (simp; done) | (simp; omega)) [c30, decide_eq_true, decide_eq_false, if_pos, if_neg, hq, ← hs1d, g0, g1, h1, h2, hfn, rd5, ← hs2d, g02, g12, ga2, c3', g03, g13, ga3, h4, h5, e4, e5, e6, wI, i1, k3, hl21, q1, h6]
    | true =>
      rw [e7] at h6
      simp only [if_true] at h6 ⊢
      obtain ⟨cs', y1, y2, y3⟩ := Ow.setT hs3 o3' i hiL (rt3.mo (Mo.weak _ (fun j hj => (⟨.inl hj, by omega⟩ : _ ∧ j ≠ k))))
      rw [k3] at y1
      cases y1
      have hmk : s3.may k = true := x3.mayN hs2 hk2
      obtain ⟨s4, hs4d⟩ : ∃ s4, s4 = s3.put k (some (splice cs (i * 21) (txC t h bb))) := ⟨_, rfl⟩
      have hs4 : WF s4 := by rw [hs4d]; exact put_wf hs3 k3 _
      rw [← hs4d] at y3
      have ga4 : s4.get s1.n = some [vI ac.nonce, v64 ac.bal.a, v64 ac.bal.b, v64 ac.bal.c, v64 ac.bal.d] := by rw [hs4d, St.get_put_other _ _ (by omega) (St.get_lt k3)]; exact ga3
      have h7 := hcov s4 hs4 _ _ _ y3 (fun x hx => by
        rcases List.mem_or_eq_of_mem_set hx with hx | rfl
        · exact (hszL x hx).1
        · exact rt.sm) (by rw [List.length_set]; omega)
      simp only [txC, U_eta, EV.own, hsz] at hs4d h7
      cases e8 : covP (L.set i t) ac.bal with
      | true =>
        rw [e8] at h7
        simp (disch := first | omega | assumption | exact S_wf (by assumption) _ | (simp; done) | (simp; omega)) [c30, decide_eq_true, decide_eq_false, if_pos, if_neg, hq, ← hs1d, g0, g1, h1, h2, hfn, rd5, ← hs2d, g02, g12, ga2, c3', g03, g13, ga3, h4, h5, e4, e5, e6, wI, i1, k3, hl21, q1, h6, hmk, ← hs4d, h7, ga4]
      | false =>
        rw [e8] at h7
        simp (disch := first | omega | assumption | exact S_wf (by assumption) _ | (simp; done) | (simp; omega)) [c30, decide_eq_true, decide_eq_false, if_pos, if_neg, hq, ← hs1d, g0, g1, h1, h2, hfn, rd5, ← hs2d, g02, g12, ga2, c3', g03, g13, ga3, h4, h5, e4, e5, e6, wI, i1, k3, hl21, q1, h6, hmk, ← hs4d, h7, ga4]
  rw [if_neg e6]
  have hLlen : ∃ aa2 cc2, v = .slice aa2 L.length cc2 := o3.len
  by_cases e7 : 6 ≤ L.length
  · rw [if_pos e7]
    obtain ⟨a2, c2', rfl⟩ := hLlen
    simp (disch := first | omega | assumption | exact S_wf (by assumption) _ | (simp; done) | (simp; omega)) [c30, decide_eq_true, decide_eq_false, if_pos, if_neg, hq, ← hs1d, g0, g1, h1, h2, hfn, rd5, ← hs2d, g02, g12, ga2, c3', g03, g13, ga3, h4, h5, e4, e5, e6, e7]
  rw [if_neg e7]
  have x4 := S_ex hs3 [some (txC t h bb)]
  have hs4 := x4.wf hs3
  have hdv : ∀ j, Dv v j → s2.n ≤ j ∧ j < s3.n := fun j ⟨n1, c1', hh⟩ => by
    rcases o3 with ⟨h0, -⟩ | ⟨k', cs', h0, h1', h2', -⟩
    · rw [h0] at hh; cases hh
    · rw [h0] at hh; cases hh; exact ⟨h1', St.get_lt h2'⟩
  obtain ⟨a2, c2', s5, hv, y1, y2, y3, y4⟩ := Ow.appA (new := txC t h bb) (l' := [t]) hs4 (F := fun j => (F j ∧ j < s.n) ∨ Fresh s2.n j) (.inr (show s2.n ≤ (S s3 _).n by simp [S_n]; omega)) (fun j hj => (x3.trans x4).mayN hs2 (hdv j hj).1) (o3'.mo (x4.mo _))
    (.single ⟨h, bb, rfl, ((rt3.mo (x4.mo _)).mo (Mo.weak _ (fun j hj => (⟨.inl hj, fun hd => by have := hdv j hd; omega⟩ : _ ∧ ¬ Dv v j)))).hs, ((rt3.mo (x4.mo _)).mo (Mo.weak _ (fun j hj => (⟨.inl hj, fun hd => by have := hdv j hd; omega⟩ : _ ∧ ¬ Dv v j)))).bs⟩) (by simp) (by simp; omega) (by decide)
  have hs5 := y2.wf hs4
  have ga5 : s5.get s1.n = some [vI ac.nonce, v64 ac.bal.a, v64 ac.bal.b, v64 ac.bal.c, v64 ac.bal.d] := by
    rw [y2.row _ (by simp [S_n]; omega) (fun hd => by have := hdv _ hd; omega), x4.row _ (by omega)]; exact ga3
  have h7 := hcov s5 hs5 _ _ _ y3.sl (fun x hx => by
    rcases List.mem_append.1 hx with hx | hx
    · exact (hszL x hx).1
    · rw [List.mem_singleton] at hx; subst hx; exact rt.sm) (by simp; omega)
  subst hv
  have hsz : shTx.sz = 21 := rfl
  simp only [txC, U_eta, S_n, List.length_cons, List.length_nil, Nat.zero_add, hsz, EV.own] at y1 h7
  have e7' : ¬ 6 ≤ (L.length : Int) := by omega
  cases e8 : covP (L ++ [t]) ac.bal with
  | true =>
    rw [e8] at h7
    simp (disch := first | omega | assumption | exact S_wf (by assumption) _ | (simp; done) | (simp; omega)) [c30, decide_eq_true, decide_eq_false, if_pos, if_neg, hq, ← hs1d, g0, g1, h1, h2, hfn, rd5, ← hs2d, g02, g12, ga2, c3', g03, g13, ga3, h4, h5, e4, e5, e6, e7, e7', wI, hs3, rep, rdSl, y1, h7, ga5]
  | false =>
    rw [e8] at h7
    simp (disch := first | omega | assumption | exact S_wf (by assumption) _ | (simp; done) | (simp; omega)) [c30, decide_eq_true, decide_eq_false, if_pos, if_neg, hq, ← hs1d, g0, g1, h1, h2, hfn, rd5, ← hs2d, g02, g12, ga2, c3', g03, g13, ga3, h4, h5, e4, e5, e6, e7, e7', wI, hs3, rep, rdSl, y1, h7, ga5]
theorem may_q (hK : Std ro K) {b : Bk} {a tv l : Value} {t : T} {h bb : Value} {F : Fp} {s : St} (hs : WF s) (r : BkR ro F s b a tv l) (z : BSz b) (hcp : Cp 21 tv) (rt : TR ro F s t h bb) (pr : Option (List Nat)) :
    callK K (.func (.func 30) #[] #[]) [vB b a tv l, vT t h bb] true pr s = some (vI (mayP b t), s) := by
  obtain ⟨s', h1⟩ := may_t hK hs.q (r.mo (Mo.q F s)) z hcp (rt.mo (Mo.q F s))
  exact callq h1 rfl
end Go.Proofs.YtakdnpafdadblaaGreat.EV.W
namespace Go.Proofs.YtakdnpafdadblaaGreat.EV.W
open Go
set_option maxRecDepth 8000
set_option maxHeartbeats 1000000
variable {ro : Addr → Option Value} {K : H}
def tT (f n : Int) (pay : UInt64) : T := ⟨f, n, ⟨pay, 0, 0, 0⟩, ⟨2 * pay, 0, 0, 0⟩, ⟨pay, 0, 0, 0⟩, U0, 1, [hashB [98]], [[98]]⟩
theorem num17_q (hK : Std ro K) (x : Int) {s : St} (hs : WF s) (pr : Option (List Nat)) : callK K (.func (.func 29) #[] #[]) [vI x] true pr s = some (vI x, s) := by
  refine Fv.q (v := vI x) (fun s hs => ?_) (fun _ => rfl) hs
  rw [go29 hK _ _ rfl]
  simp (disch := first | omega | assumption | exact S_wf (by assumption) _ | (simp; done) | (simp; omega)) [c29]
theorem mkT_q (hK : Std ro K) (f n : Int) (p : UInt64) {s : St} (hs : WF s) (pr : Option (List Nat)) : ∃ h b s', callK K (.func (.func 31) #[] #[]) [vI f, vI n, v64 p] true pr s = some (vT (tT f n p) h b, s') ∧ Ex s s' ∧ Ow sh64 ro (Fresh s.n) s' h (tT f n p).hs ∧ Ow shStr ro (Fresh s.n) s' b (tT f n p).bs := by
  have hq := hs.q
  have hh : ∀ (s : St) (hs : WF s) (pr : Option (List Nat)), callK K (.func (.func 94) #[] #[]) [.string ⟨#[98]⟩] true pr s = some (v64 (hashB [98]), s) := fun s hs pr => (rhash_fv hK [98] (by simp)).q (fun _ => rfl) hs
  obtain ⟨s1, hs1⟩ : ∃ s1, s1 = S (qs s) [some (txC (tT f n p) (.slice (some (own ((qs s).n + 1) 0)) 1 1) (.slice (some (own ((qs s).n + 2) 0)) 1 1)), some [v64 (hashB [98])], some [Str [98]]] := ⟨_, rfl⟩
  have hx : Ex (qs s) s1 := by rw [hs1]; exact S_ex hq _
  have g1 : s1.get ((qs s).n + 1) = some [v64 (hashB [98])] := by rw [hs1]; exact S_get _ _ 1
  have g2 : s1.get ((qs s).n + 2) = some [Str [98]] := by rw [hs1]; exact S_get _ _ 2
  have o1 : Ow sh64 ro (Fresh (qs s).n) s1 (.slice (some (own ((qs s).n + 1) 0)) 1 1) (tT f n p).hs := .inr ⟨_, _, rfl, by simp, g1, .single rfl⟩
  have o2 : Ow shStr ro (Fresh (qs s).n) s1 (.slice (some (own ((qs s).n + 2) 0)) 1 1) (tT f n p).bs := .inr ⟨_, _, rfl, by simp, g2, .single rfl⟩
  have h1 : K (.func (.func 31) #[] #[]) [vI f, vI n, v64 p] (qs s) = some (vT (tT f n p) (.slice (some (own ((qs s).n + 1) 0)) 1 1) (.slice (some (own ((qs s).n + 2) 0)) 1 1), s1) := by
    rw [go31 hK _ _ rfl, hs1]
    simp (disch := first | omega | assumption | exact S_wf (by assumption) _ | (simp; done) | (simp; omega)) [c31, decide_eq_true, decide_eq_false, if_pos, if_neg, hq, hh, rep, tT]
  obtain ⟨s'', q1, q2, q3⟩ := callq_own (pr := pr) h1 hx hs
  refine ⟨_, _, s'', q1, q2, q3 _ (fun hc => ?_) _ _ o1, q3 _ (fun hc => ?_) _ _ o2⟩
  · simp only [clean, clean1, List.all_cons, Bool.and_eq_true] at hc
    exact hc.2.2.2.2.2.2.2.2.2.2.2.2.2.2.2.2.2.2.2.1
  · simp only [clean, clean1, List.all_cons, Bool.and_eq_true] at hc
    exact hc.2.2.2.2.2.2.2.2.2.2.2.2.2.2.2.2.2.2.2.2.1
abbrev rich : Acct := ⟨0, ⟨0, 1, 0, 0⟩⟩
def bB (room : Int) : Bk := ⟨room, ⟨0, U0, 0⟩, List.replicate 8 rich, [], []⟩
theorem B_loop (room : Int) (k3 : Nat) (w2 : Value) (s1 : St) (hs1 : WF s1) (hk3 : k3 < s1.n) (hm : s1.may k3 = true) :
    ∀ (j i : Nat) (u : St) (v : Value), i + j = 8 → Exd (· = k3) s1 u → u.get k3 = some (bkC (bB room) v (.slice none 0 0) (.slice none 0 0)) → Ow shAcct ro (Fresh s1.n) u v (List.replicate i rich) →
    ∃ u' v', Exd (· = k3) s1 u' ∧ u'.get k3 = some (bkC (bB room) v' (.slice none 0 0) (.slice none 0 0)) ∧ Ow shAcct ro (Fresh s1.n) u' v' (List.replicate 8 rich) ∧ ∀ k : List Fm, M ro K (.lop b28_0) (.bk 0 :: k) [(2, w2), (3, .pointer (some (EV.own k3 0))), (4, vI i)] u = Rk ro K .nrm k [(2, w2), (3, .pointer (some (EV.own k3 0))), (4, vI 8), (8, .bool false)] u' := by
  intro j
  induction j with
  | zero =>
    intro i u v h he hg ho
    have : i = 8 := by omega
    subst this
    refine ⟨u, v, he, hg, ho, fun k => ?_⟩
    rw [M_lop]
    simp (disch := first | omega | assumption | exact S_wf (by assumption) _ | (simp; done) | (simp; omega)) [Mb _ _ b28_0.eq_1]
  | succ j ih =>
    intro i u v h he hg ho
    have hu := he.wf hs1
    have hun := he.n
    have hx := S_ex hu [some [vI 0, v64 0, v64 1, v64 0, v64 0]]
    have hdv : ∀ j, Dv v j → s1.n ≤ j := fun j ⟨n1, c1, hh⟩ => by
      rcases ho with ⟨hv, -⟩ | ⟨kk, cs, hv, hk, -⟩
      · rw [hv] at hh; cases hh
      · rw [hv] at hh; cases hh; exact hk
    obtain ⟨a, c, s', hv, e1, e2, e3, e4⟩ := Ow.appA (new := [vI 0, v64 0, v64 1, v64 0, v64 0]) (l' := [rich]) (hx.wf hu) (F := Fresh s1.n) (show s1.n ≤ (S u _).n by simp [S_n]; omega) (fun j hj => by rw [((hx.d (fun _ => False))).may, he.may]; exact hs1.may (hdv j hj)) (ho.mo (hx.mo _)) (.single rfl) (by simp) (by simp; omega) (by decide)
    have hs' := e2.wf (hx.wf hu)
    have g' : s'.get k3 = some (bkC (bB room) v (.slice none 0 0) (.slice none 0 0)) := by
      rw [e2.row k3 (by simp [S_n]; omega) (fun hd => by have := hdv _ hd; omega), S_old _ _ (by omega)]; exact hg
    have m' : s'.may k3 = true := by rw [e2.may, (hx.d (fun _ => False)).may, he.may]; exact hm
    have hex : Exd (· = k3) s1 s' := (he.trans (E := (· = k3)) (hx.d (fun _ => False)) (fun _ _ h => h) (fun _ _ h => h.elim)).trans (E := (· = k3)) e2 (fun _ _ h => h) (fun j hj hd => by have := hdv j hd; omega)
    obtain ⟨v', hv'⟩ : ∃ v', v' = Value.slice (some (own (S u [some [vI 0, v64 0, v64 1, v64 0, v64 0]]).n 0)) ((List.replicate i rich).length + [rich].length) shAcct.sz := ⟨_, rfl⟩
    rw [← hv'] at e1 e3
    have hrep : List.replicate i rich ++ [rich] = List.replicate (i + 1) rich := by rw [List.replicate_succ']
    rw [hrep] at e3
    have hp := Exd.put hs' g' (some (bkC (bB room) v' (.slice none 0 0) (.slice none 0 0)))
    obtain ⟨u', v'', f1, f2, f3, f4⟩ := ih (i + 1) _ v' (by omega) (hex.trans hp (fun _ _ h => h) (fun _ _ h => h)) (St.get_put_same g' _) (e3.mo (hp.mo fun j hj => by simp only [Fresh] at hj; omega))
    refine ⟨u', v'', f1, f2, f3, fun k => ?_⟩
    rw [← f4 k, M_lop]
    obtain ⟨cv, pv⟩ := e3.cells
    have hi8 : i < 8 := by omega
    subst hv
    simp only [List.length_replicate, List.length_cons, List.length_nil, Nat.zero_add, show shAcct.sz = 5 from rfl] at e1
    simp only [bkC] at g' hg
    simp (disch := first | omega | assumption | exact S_wf (by assumption) _ | (simp; done) | (simp; omega)) [Mb _ _ b28_0.eq_1, decide_eq_true, decide_eq_false, if_pos, if_neg, wI, hi8, hg, hu, rep, rdSl, e1, g', m', cv, pv]
theorem mkB_q (hK : Std ro K) (room : Int) {s : St} (hs : WF s) (pr : Option (List Nat)) : ∃ a s', callK K (.func (.func 28) #[] #[]) [vI room] true pr s = some (vB (bB room) a (.slice none 0 0) (.slice none 0 0), s') ∧ Ex s s' ∧ Ow shAcct ro (Fresh s.n) s' a (List.replicate 8 rich) := by
  have hq := hs.q
  obtain ⟨s1, hs1⟩ : ∃ s1, s1 = S (qs s) [some bz, some (bkC (bB room) (.slice none 0 0) (.slice none 0 0) (.slice none 0 0))] := ⟨_, rfl⟩
  have hx : Ex (qs s) s1 := by rw [hs1]; exact S_ex hq _
  have hw1 := hx.wf hq
  have hn1 : s1.n = (qs s).n + 2 := by rw [hs1, S_n]; rfl
  have g0 : s1.get (qs s).n = some bz := by rw [hs1]; exact S_get0 _ _
  have g1 : s1.get ((qs s).n + 1) = some (bkC (bB room) (.slice none 0 0) (.slice none 0 0) (.slice none 0 0)) := by rw [hs1]; exact S_get _ _ 1
  obtain ⟨u, v, e1, e2, e3, e4⟩ := B_loop (ro := ro) (K := K) room ((qs s).n + 1) (.pointer (some (EV.own (qs s).n 0))) s1 hw1 (by omega) (by rw [hs1]; exact S_may hq _ 1) 8 0 s1 (.slice none 0 0) (by omega) ((Ex.refl hw1).d _) g1 Ow.nil
  simp only [show ((0 : Nat) : Int) = 0 from rfl, EV.own] at e4
  have hu := e1.wf hw1
  have eu : Ex (qs s) u := Exd.ex hx e1 (fun j hj => by omega)
  have gu0 : u.get (qs s).n = some bz := (e1.row _ (by omega) (by omega)).trans g0
  have mu : u.may (qs s).n = true := eu.mayN hq (Nat.le_refl _)
  obtain ⟨u2, hu2⟩ : ∃ u2, u2 = u.put (qs s).n (some (bkC (bB room) v (.slice none 0 0) (.slice none 0 0))) := ⟨_, rfl⟩
  have eu2 : Ex (qs s) u2 := by rw [hu2]; exact put_ex hq eu gu0 (Nat.le_refl _) _
  have gu2 : u2.get (qs s).n = some (bkC (bB room) v (.slice none 0 0) (.slice none 0 0)) := by rw [hu2]; exact St.get_put_same gu0 _
  have o2 : Ow shAcct ro (Fresh (qs s).n) u2 v (List.replicate 8 rich) := by
    rw [hu2]
    exact (e3.put (by omega) (St.get_lt gu0) _).weak (by omega)
  obtain ⟨cv, pv⟩ := e3.cells
  have h1 : K (.func (.func 28) #[] #[]) [vI room] (qs s) = some (vB (bB room) v (.slice none 0 0) (.slice none 0 0), u2) := by
    rw [go28 hK _ _ rfl]
    simp only [bkC, bz, bB] at hs1 e2 hu2 gu2 gu0 ⊢
    simp (disch := first | omega | assumption | exact S_wf (by assumption) _ | (simp; done) | (simp; omega)) [c28, decide_eq_true, decide_eq_false, if_pos, if_neg, hq, ← hs1, e4, e2, cv, pv, mu, gu0, ← hu2, gu2]
  obtain ⟨s'', q1, q2, q3⟩ := callq_own (pr := pr) h1 eu2 hs
  exact ⟨v, s'', q1, q2, q3 v (fun hc => (bk_clean hc).1) _ _ o2⟩
end Go.Proofs.YtakdnpafdadblaaGreat.EV.W
namespace Go.Proofs.YtakdnpafdadblaaGreat.EV.W
open Go
set_option maxRecDepth 8000
set_option maxHeartbeats 1000000
variable {ro : Addr → Option Value} {K : H}
theorem putL_mem (t : T) : ∀ (L : List T) (b : Bool) (acc : List T) (x : T), x ∈ (putL t b acc L).2 → x ∈ acc ∨ x ∈ L ∨ x = t
  | [], b, acc, x, h => .inl h
  | o :: l, b, acc, x, h => by
    rw [putL] at h
    have key : ∀ (b' : Bool) (acc' : List T), x ∈ (putL t b' acc' l).2 → (∀ y ∈ acc', y ∈ acc ∨ y = t ∨ y = o) → x ∈ acc ∨ x ∈ o :: l ∨ x = t := fun b' acc' h1 h2 => by
      rcases putL_mem t l b' acc' x h1 with h3 | h3 | h3
      · rcases h2 x h3 with h4 | h4 | h4
        · exact .inl h4
        · exact .inr (.inr h4)
        · exact .inr (.inl (by rw [h4]; simp))
      · exact .inr (.inl (by simp [h3]))
      · exact .inr (.inr h3)
    split at h
    · split at h
      · exact key _ _ h (fun y hy => by simp at hy; rcases hy with hy | hy | hy <;> simp [hy])
      · exact key _ _ h (fun y hy => by simp at hy; rcases hy with hy | hy <;> simp [hy])
    · split at h
      · exact key _ _ h (fun y hy => by simp at hy; rcases hy with hy | hy <;> simp [hy])
      · exact key _ _ h (fun y hy => .inl hy)
theorem putT_mem {L : List T} {t x : T} (h : x ∈ putT L t) : x ∈ L ∨ x = t := by
  unfold putT at h
  split at h
  · rcases putL_mem t L false [] x h with h | h | h
    · cases h
    · exact .inl h
    · exact .inr h
  · rcases List.mem_append.1 h with h | h
    · rcases putL_mem t L false [] x h with h | h | h
      · cases h
      · exact .inl h
      · exact .inr h
    · exact .inr (by simpa using h)
theorem putL_len (t : T) : ∀ (L : List T) (b : Bool) (acc : List T), (putL t b acc L).2.length + (if (putL t b acc L).1 = true then 0 else 1) ≤ acc.length + L.length + (if b = true then 0 else 1)
  | [], b, acc => Nat.le_refl _
  | o :: l, b, acc => by
    rw [putL]
    split
    · rename_i h
      have hb : (if b = true then 0 else 1 : Nat) = 1 := by rw [h.1]; rfl
      rw [hb]
      split
      · have := putL_len t l true (acc ++ [t] ++ [o]); simp at this ⊢; omega
      · have := putL_len t l true (acc ++ [t]); simp at this ⊢; omega
    · split
      · have := putL_len t l b (acc ++ [o]); simp at this ⊢; omega
      · have := putL_len t l b acc; simp at this ⊢; omega
theorem putT_len (L : List T) (t : T) : (putT L t).length ≤ L.length + 1 := by
  have := putL_len t L false []
  unfold putT
  split
  · rename_i h; rw [if_pos h] at this; simp at this; omega
  · rename_i h; rw [if_neg h] at this; simp at this ⊢; omega
structure Gb (b : Bk) (m : Nat) : Prop where
  z : BSz b
  n : b.txs.length ≤ m
theorem Sz_tT (f n : Int) (p : UInt64) : Sz (tT f n p) := ⟨fun b hb => by simp [tT] at hb; subst hb; simp, by simp [tT], by simp [tT]⟩
theorem Gb.put {b : Bk} {m : Nat} (h : Gb b m) (hm : m < 1000000) {t : T} (ht : Sz t) : Gb { b with txs := putT b.txs t } (m + 1) := by
  have hl := putT_len b.txs t
  have hn := h.n
  refine ⟨⟨fun x hx => ?_, h.z.lb, h.z.na, ?_, h.z.nl⟩, ?_⟩
  · rcases putT_mem hx with hx | rfl
    · exact h.z.tx x hx
    · exact ht
  · show (putT b.txs t).length < _; omega
  · show (putT b.txs t).length ≤ _; omega
theorem Gb.B (room : Int) : Gb (bB room) 0 := ⟨⟨fun x hx => (by cases hx), fun x hx => (by cases hx), by simp [bB], by simp [bB], by simp [bB]⟩, by simp [bB]⟩
def cA (x : Acct) : List Value := [vI x.nonce, v64 x.bal.a, v64 x.bal.b, v64 x.bal.c, v64 x.bal.d]
theorem rows_cA {F : Fp} {s : St} {cs : List Value} {l : List Acct} (r : Rows shAcct ro F s cs l) : cs = l.flatMap cA := by
  induction r with
  | nil => rfl
  | cons c cs x l hc hl ih => simp only [shAcct] at hc; rw [hc, ih]; rfl
theorem rows_of_cA (F : Fp) (s : St) : ∀ l : List Acct, Rows shAcct ro F s (l.flatMap cA) l
  | [] => .nil
  | x :: l => .cons _ _ _ _ rfl (rows_of_cA F s l)
def bB5 (room : Int) : Bk := { bB room with accts := (List.replicate 8 rich).set 2 ⟨5, ⟨0, 1, 0, 0⟩⟩ }
theorem Gb.B5 (room : Int) : Gb (bB5 room) 0 := ⟨⟨fun x hx => (by cases hx), fun x hx => (by cases hx), by simp [bB5], by simp [bB5, bB], by simp [bB5, bB]⟩, by simp [bB5, bB]⟩
theorem set5 {n : Nat} {s : St} {v : Value} (o : Ow shAcct ro (Fresh n) s v (List.replicate 8 rich)) : ∃ k cs, v = .slice (some (own k 0)) 8 5 ∧ n ≤ k ∧ s.get k = some cs ∧ cs.length = 40 ∧ Ow shAcct ro (Fresh n) (s.put k (some (cs.set 10 (vI 5)))) v ((List.replicate 8 rich).set 2 ⟨5, ⟨0, 1, 0, 0⟩⟩) := by
  rcases o with ⟨-, h⟩ | ⟨k, cs, h1, h2, h3, h4⟩
  · simp at h
  · have hc := rows_cA h4
    refine ⟨k, cs, by rw [h1]; rfl, h2, h3, by rw [h4.length]; rfl, .inr ⟨k, _, by rw [h1]; rfl, h2, St.get_put_same h3 _, ?_⟩⟩
    have : cs.set 10 (vI 5) = ((List.replicate 8 rich).set 2 ⟨5, ⟨0, 1, 0, 0⟩⟩).flatMap cA := by rw [hc]; rfl
    rw [this]
    exact rows_of_cA _ _ _
def fullB : Nat → UInt64 → Bk
  | 0, _ => bB5 1048576
  | n + 1, p => { fullB n p with txs := putT (fullB n p).txs (tT 2 (5 + n) p) }
theorem Gb.full (p : UInt64) : ∀ n, n ≤ 6 → Gb (fullB n p) n
  | 0, _ => Gb.B5 _
  | n + 1, h => (Gb.full p n (by omega)).put (by omega) (Sz_tT _ _ _)
structure BkW (ro : Addr → Option Value) (F : Fp) (s : St) (x : Bk) (a t l : Value) : Prop where
  a : Ow shAcct ro F s a x.accts
  t : Ow shTxO ro F s t x.txs
  l : Ow shHeldO ro F s l x.limbo
theorem BkW.r {F : Fp} {s : St} {x : Bk} {a t l : Value} (h : BkW ro F s x a t l) : BkR ro F s x a t l := ⟨h.a.sl, h.t.txs, h.l.helds⟩
theorem BkW.mo {F F' : Fp} {s s' : St} {x : Bk} {a t l : Value} (h : BkW ro F s x a t l) (m : Mo F s F' s') : BkW ro F' s' x a t l := ⟨h.a.mo m, h.t.mo m, h.l.mo m⟩
theorem BkW.o {F : Fp} {n : Nat} {s : St} {x : Bk} {a t l : Value} (h : BkW ro F s x a t l) (hF : ∀ j, F j → n ≤ j) : BkO ro n s x a t l := ⟨h.a.fp hF, h.t.fp hF, h.l.fp hF⟩
theorem BkW.cells {F : Fp} {s : St} {x : Bk} {a t l : Value} (h : BkW ro F s x a t l) : (EV.cells a = [a] ∧ plainT a = true) ∧ (EV.cells t = [t] ∧ plainT t = true) ∧ (EV.cells l = [l] ∧ plainT l = true) := ⟨h.a.cells, h.t.cells, h.l.cells⟩
theorem BkO.w {n : Nat} {F : Fp} {s : St} {x : Bk} {a t l : Value} (h : BkO ro n s x a t l) (hF : ∀ j, n ≤ j → F j) : BkW ro F s x a t l := ⟨h.a.fp hF, h.t.fp hF, h.l.fp hF⟩
end Go.Proofs.YtakdnpafdadblaaGreat.EV.W
namespace Go.Proofs.YtakdnpafdadblaaGreat.EV.W
open Go
set_option maxRecDepth 8000
set_option maxHeartbeats 1000000
variable {ro : Addr → Option Value} {K : H}
theorem wk17 : mayP (bB 1024) (tT 1 1 2) = 10 ∧ mayP (bB 1024) (tT 1 0 2) = 0 := by decide +kernel
theorem ask_may (hK : Std ro K) {b : Bk} {m : Nat} (hb : Gb b m) (f n : Int) (p : UInt64) {a t l : Value} {F : Fp} {s : St} (hs : WF s) (r : BkW ro F s b a t l) :
    ∃ h bb s', Ex s s' ∧ (∀ pr, callK K (.func (.func 31) #[] #[]) [vI f, vI n, v64 p] true pr s = some (vT (tT f n p) h bb, s')) ∧ (∀ pr, callK K (.func (.func 30) #[] #[]) [vB b a t l, vT (tT f n p) h bb] true pr s' = some (vI (mayP b (tT f n p)), s')) ∧ ∀ pr, callK K (.func (.func 29) #[] #[]) [vI (mayP b (tT f n p))] true pr s' = some (vI (mayP b (tT f n p)), s') := by
  obtain ⟨h, bb, s', c1, x1, o1, o2⟩ := mkT_q hK f n p hs (some [])
  have hs' := x1.wf hs
  have r' := (r.mo (x1.mo F)).r.mo (Mo.weak _ (fun j _ => trivial) : Mo F s' (fun _ => True) s')
  have rt : TR ro (fun _ => True) s' (tT f n p) h bb := ⟨o1.sl.mo (Mo.weak _ fun _ _ => trivial), o2.sl.mo (Mo.weak _ fun _ _ => trivial), (Sz_tT f n p).1⟩
  exact ⟨h, bb, s', x1, fun pr => c1, fun pr => may_q hK hs' r' hb.z r.t.cp rt pr, fun pr => num17_q hK _ hs' pr⟩
theorem mkB_w (hK : Std ro K) (room : Int) {s : St} (hs : WF s) : ∃ a s', (∀ pr, callK K (.func (.func 28) #[] #[]) [vI room] true pr s = some (vB (bB room) a (.slice none 0 0) (.slice none 0 0), s')) ∧ Ex s s' ∧ BkW ro (Fresh s.n) s' (bB room) a (.slice none 0 0) (.slice none 0 0) := by
  obtain ⟨a, s', h1, h2, h3⟩ := mkB_q hK room hs (some [])
  exact ⟨a, s', fun pr => h1, h2, h3, Ow.nil, Ow.nil⟩
theorem wakes17_q (hK : Std ro K) {s : St} (hs : WF s) (pr : Option (List Nat)) : callK K (.func (.func 36) #[] #[]) [] true pr s = some (.bool true, s) := by
  have hq := hs.q
  obtain ⟨a1, u1, c1, x1, w1⟩ := mkB_w hK 1024 hq
  have hu1 := x1.wf hq
  obtain ⟨h2, b2, u2, x2, c2, c3, c4⟩ := ask_may hK (Gb.B 1024) 1 1 2 hu1 w1
  have hu2 := x2.wf hu1
  obtain ⟨a3, u3, c5, x3, w3⟩ := mkB_w hK 1024 hu2
  have hu3 := x3.wf hu2
  obtain ⟨h4, b4, u4, x4, c6, c7, c8⟩ := ask_may hK (Gb.B 1024) 1 0 2 hu3 w3
  rw [wk17.1] at c3 c4
  rw [wk17.2] at c7 c8
  have h1 : K (.func (.func 36) #[] #[]) [] (qs s) = some (.bool true, u4) := by
    rw [go36 hK _ _ rfl]
    simp (disch := first | omega | assumption | exact S_wf (by assumption) _ | (simp; done) | (simp; omega)) [c36, decide_eq_true, decide_eq_false, if_pos, if_neg, c1, c2, c3, c4, c5, c6, c7, c8]
  exact callq h1 rfl
end Go.Proofs.YtakdnpafdadblaaGreat.EV.W
namespace Go.Proofs.YtakdnpafdadblaaGreat.EV.W
open Go
set_option maxRecDepth 8000
set_option maxHeartbeats 1000000
variable {ro : Addr → Option Value} {K : H}
def cP (p : UInt64) : U := (costT (tT 2 5 p)).getD U0
def spU (i : Nat) (p : UInt64) : U := U.of (i * (cP p).val)
def poorB (p : UInt64) : Bk := { fullB 6 p with accts := (fullB 6 p).accts.set 2 ⟨5, spU 6 p⟩ }
theorem errD : ∀ r < 50, ∀ i : Nat, i < 6 → mayP (fullB i (UInt64.ofNat (2 + r))) (tT 2 (5 + i) (UInt64.ofNat (2 + r))) = 0 ∧ mayP (fullB i (UInt64.ofNat (2 + r))) (tT 2 (6 + i) (UInt64.ofNat (2 + r))) = 10 := by decide +kernel
theorem errT : ∀ r < 50, (fullB 6 (UInt64.ofNat (2 + r))).txs = (List.range 6).map (fun (i : Nat) => tT 2 (5 + i) (UInt64.ofNat (2 + r))) := by decide +kernel
theorem errC : ∀ r < 50, ∀ i : Nat, i < 6 → costT (tT 2 (5 + (i : Nat)) (UInt64.ofNat (2 + r))) = some (cP (UInt64.ofNat (2 + r))) ∧ (spU i (UInt64.ofNat (2 + r))).val + (cP (UInt64.ofNat (2 + r))).val < 2 ^ 256 ∧ U.of ((spU i (UInt64.ofNat (2 + r))).val + (cP (UInt64.ofNat (2 + r))).val) = spU (i + 1) (UInt64.ofNat (2 + r)) := by decide +kernel
theorem errF : ∀ r < 50, mayP (fullB 6 (UInt64.ofNat (2 + r))) (tT 2 4 (UInt64.ofNat (2 + r))) = 9 ∧ mayP (fullB 6 (UInt64.ofNat (2 + r))) (tT 2 11 (UInt64.ofNat (2 + r))) = 2 ∧
    mayP (fullB 6 (UInt64.ofNat (2 + r))) (tT 2 7 (2 * UInt64.ofNat (2 + r) - 1)) = 11 ∧ mayP (fullB 6 (UInt64.ofNat (2 + r))) (tT 2 7 (2 * UInt64.ofNat (2 + r))) = 0 ∧ mayP (fullB 6 (UInt64.ofNat (2 + r))) (tT 2 7 (UInt64.ofNat (2 + r))) = 4 ∧
    mayP (poorB (UInt64.ofNat (2 + r))) (tT 2 7 (2 * UInt64.ofNat (2 + r))) = 12 := by decide +kernel
theorem rem50 (n : Nat) (hn : n < 1000000000) : binV .rem (v64 (UInt64.ofNat n)) (v64 50) = some (v64 (UInt64.ofNat (n % 50))) := by
  have h1 : (UInt64.ofNat n).toNat = n := by rw [UInt64.toNat_ofNat']; omega
  have h2 : (UInt64.ofNat (n % 50)).toNat = n % 50 := by rw [UInt64.toNat_ofNat']; omega
  simp only [v64, binV, if_true, intBin, h1, h2, show (50 : UInt64).toNat = 50 from rfl]
  rw [if_neg (by decide)]
  congr 2
theorem within_q (hK : Std ro K) (n : Nat) (hn : n < 1000000000) {s : St} (hs : WF s) (pr : Option (List Nat)) : callK K (.func (.func 27) #[] #[]) [vI n, vI 50] true pr s = some (vI (n % 50 : Nat), s) := by
  have e1 : ((n : Int) % 18446744073709551616).toNat = n := by omega
  have e2 := rem50 n hn
  have e3 : (UInt64.ofNat (n % 50)).toNat = n % 50 := by rw [UInt64.toNat_ofNat']; omega
  refine Fv.q (v := vI (n % 50 : Nat)) (fun s hs => ?_) (fun _ => rfl) hs
  rw [go27 hK _ _ rfl]
  have e4 : cvO .i64 (some (v64 (UInt64.ofNat (n % 50)))) = some (vI (n % 50 : Nat)) := by rw [cv_64_I _ (by omega), e3]
  simp (disch := first | omega | assumption | exact S_wf (by assumption) _ | (simp; done) | (simp; omega)) [c27, wI, e1, e2, e4]
  omega
end Go.Proofs.YtakdnpafdadblaaGreat.EV.W
namespace Go.Proofs.YtakdnpafdadblaaGreat.EV.W
open Go
set_option maxRecDepth 8000
set_option maxHeartbeats 1000000
variable {ro : Addr → Option Value} {K : H}
theorem err_loop (hK : Std ro K) (r : Nat) (hr : r < 50) (p : UInt64) (hp : p = UInt64.ofNat (2 + r)) (k4 : Nat) (n0 : Nat) (s1 : St) (hs1 : WF s1) (hn0 : n0 ≤ s1.n) (hk4 : k4 < s1.n) (hm : s1.may k4 = true) :
    ∀ (j i : Nat) (n : Int) (u : St) (a t l : Value), i + j = 6 → n = 5 + (i : Int) → Exd (· = k4) s1 u → u.get k4 = some (bkC (fullB i p) a t l) → BkW ro (fun j => n0 ≤ j ∧ j ≠ k4) u (fullB i p) a t l →
    ∃ u' a' t' l', Exd (· = k4) s1 u' ∧ u'.get k4 = some (bkC (fullB 6 p) a' t' l') ∧ BkW ro (fun j => n0 ≤ j ∧ j ≠ k4) u' (fullB 6 p) a' t' l' ∧ ∀ k : List Fm, M ro K (.lop b3_0) (.bk 0 :: k) [(3, v64 p), (4, .pointer (some (EV.own k4 0))), (5, vI n)] u = Rk ro K .nrm k [(3, v64 p), (4, .pointer (some (EV.own k4 0))), (5, vI 11), (23, .bool false)] u' := by
  intro j
  induction j with
  | zero =>
    intro i n u a t l h hn he hg ho
    have : i = 6 := by omega
    subst this
    have hn : n = 11 := by omega
    subst hn
    refine ⟨u, a, t, l, he, hg, ho, fun k => ?_⟩
    rw [M_lop]
    simp (disch := first | omega | assumption | exact S_wf (by assumption) _ | (simp; done) | (simp; omega)) [Mb _ _ b3_0.eq_1]
  | succ j ih =>
    intro i n u a t l h hn he hg ho
    have hu := he.wf hs1
    have hun := he.n
    have hgb := Gb.full p i (by omega)
    obtain ⟨d1, d2⟩ := errD r hr i (by omega)
    rw [← hp, ← hn] at d1
    rw [← hp, show (6 : Int) + i = n + 1 by omega] at d2
    obtain ⟨h1, b1, u1, x1, c1, c2, c3⟩ := ask_may hK hgb 2 n p hu ho
    have hu1 := x1.wf hu
    obtain ⟨h2, b2, u2, x2, c4, c5, c6⟩ := ask_may hK hgb 2 (n + 1) p hu1 (ho.mo (x1.mo _))
    have hu2 := x2.wf hu1
    rw [d1] at c2 c3
    rw [d2] at c5 c6
    have x12 := x1.trans x2
    obtain ⟨h', b', u3, c7, x3, o1, o2⟩ := mkT_q hK 2 n p hu2 (some [])
    have hu3 := x3.wf hu2
    have x13 := x12.trans x3
    have hn2 := x12.n
    have r1 := (ho.mo (x13.mo _)).r
    obtain ⟨a2, t2, l2, u4, c8, x4, o3⟩ := rput_q hK hu3 (F := fun j => n0 ≤ j ∧ j ≠ k4) r1 hgb.z ⟨o1.sl.mo (Mo.weak _ fun j hj => by simp only [Fresh] at hj; omega), o2.sl.mo (Mo.weak _ fun j hj => by simp only [Fresh] at hj; omega), (Sz_tT _ _ _).1⟩ (Sz_tT _ _ _) (by have := hgb.n; omega) (some [])
    have x14 := x13.trans x4
    have hu4 := x14.wf hu
    have hun1 := x13.n
    have g1 := (x1.row k4 (by omega)).trans hg
    have g2 := (x12.row k4 (by omega)).trans hg
    have g4 := (x14.row k4 (by omega)).trans hg
    have m4 : u4.may k4 = true := by rw [(x14.d (fun _ => False)).may, he.may]; exact hm
    have hf : ({ fullB i p with txs := putT (fullB i p).txs (tT 2 n p) } : Bk) = fullB (i + 1) p := by rw [hn]; rfl
    rw [hf] at o3 c8
    have hpu := Exd.put hu4 g4 (some (bkC (fullB (i + 1) p) a2 t2 l2))
    obtain ⟨u', a', t', l', f1, f2, f3, f4⟩ := ih (i + 1) (n + 1) _ a2 t2 l2 (by omega) (by omega) ((he.trans (E := (· = k4)) (x14.d (fun _ => False)) (fun _ _ h => h) (fun _ _ h => h.elim)).trans (E := (· = k4)) hpu (fun _ _ h => h) (fun _ _ h => h)) (St.get_put_same g4 _) ((o3.w (F := fun j => n0 ≤ j ∧ j ≠ k4) (fun j hj => by omega)).mo (hpu.mo fun j hj => hj.2))
    refine ⟨u', a', t', l', f1, f2, f3, fun k => ?_⟩
    rw [← f4 k, M_lop]
    have hiN : n < 11 := by omega
    have c7' : ∀ pr, callK K (.func (.func 31) #[] #[]) [vI 2, vI n, v64 p] true pr u2 = some (vT (tT 2 n p) h' b', u3) := fun pr => c7
    have c8' : ∀ pr, callK K (.func (.func 32) #[] #[]) [vB (fullB i p) a t l, vT (tT 2 n p) h' b'] true pr u3 = some (vB (fullB (i + 1) p) a2 t2 l2, u4) := fun pr => c8
    obtain ⟨⟨ca, pa⟩, ⟨ct, pt⟩, ⟨cl, pl⟩⟩ := o3.cells
    simp only [bkC] at hg g1 g2 g4
    simp (disch := first | omega | assumption | exact S_wf (by assumption) _ | (simp; done) | (simp; omega)) [Mb _ _ b3_0.eq_1, decide_eq_true, decide_eq_false, if_pos, if_neg, wI, hiN, hg, c1, c2, c3, g1, c4, c5, c6, g2, c7', c8', g4, m4, ca, pa, ct, pt, cl, pl]
end Go.Proofs.YtakdnpafdadblaaGreat.EV.W
namespace Go.Proofs.YtakdnpafdadblaaGreat.EV.W
open Go
set_option maxRecDepth 8000
set_option maxHeartbeats 1000000
variable {ro : Addr → Option Value} {K : H}
theorem addO_sp {x y z : U} (h1 : x.val + y.val < 2 ^ 256) (h2 : U.of (x.val + y.val) = z) : addO x y = vUB z true := by
  unfold addO; rw [if_pos h1, h2]
theorem sp_loop (hK : Std ro K) (r : Nat) (hr : r < 50) (p : UInt64) (hp : p = UInt64.ofNat (2 + r)) (k4 k6 k7 : Nat) (G : Fp) (s1 : St) (hs1 : WF s1) (hk7 : k7 < s1.n) (hk4 : k4 < s1.n) (hm : s1.may k7 = true) (h47 : k4 ≠ k7) (a t l : Value)
    (g4 : s1.get k4 = some (bkC (fullB 6 p) a t l)) (hc : EV.cells t = [t] ∧ plainT t = true) (rt : Sl shTx ro G s1 t (fullB 6 p).txs) (hG : ∀ j, G j → j ≠ k7) :
    ∀ (j i : Nat) (u : St), i + j = 6 → Exd (· = k7) s1 u → u.get k7 = some (cU (spU i p)) →
    ∃ u', Exd (· = k7) s1 u' ∧ u'.get k7 = some (cU (spU 6 p)) ∧ ∀ k : List Fm, M ro K (.lop b3_1) (.bk 2 :: k) [(3, v64 p), (4, .pointer (some (EV.own k4 0))), (6, .pointer (some (EV.own k6 0))), (7, .pointer (some (EV.own k7 0))), (8, vI i)] u =
      Rk ro K .nrm k [(3, v64 p), (4, .pointer (some (EV.own k4 0))), (6, .pointer (some (EV.own k6 0))), (7, .pointer (some (EV.own k7 0))), (8, vI 6), (55, .bool false)] u' := by
  have hT := errT r hr
  rw [← hp] at hT
  have hlen : (fullB 6 p).txs.length = 6 := by rw [hT]; rfl
  have rt0 := rt
  obtain ⟨ta, tc, cs0, rfl, -⟩ := rt
  intro j
  induction j with
  | zero =>
    intro i u h he hg
    have : i = 6 := by omega
    subst this
    have g4u := (he.row k4 hk4 h47).trans g4
    simp only [bkC, hlen] at g4u
    refine ⟨u, he, hg, fun k => ?_⟩
    rw [M_lop]
    simp (disch := first | omega | assumption | exact S_wf (by assumption) _ | (simp; done) | (simp; omega)) [Mb _ _ b3_1.eq_1, decide_eq_true, decide_eq_false, if_pos, if_neg, g4u]
  | succ j ih =>
    intro i u h he hg
    have hu := he.wf hs1
    have g4u := (he.row k4 hk4 h47).trans g4
    simp only [bkC, hlen] at g4u
    have hun := he.n
    have ru := rt0.mo (he.mo hG)
    have hLi : (fullB 6 p).txs[i]'(by omega) = tT 2 (5 + (i : Int)) p := by simp only [hT, List.getElem_map, List.getElem_range]
    obtain ⟨b, h', bb, rfl, rd, tr⟩ := Sl.atT ru (fun x hx => by
      rw [hT] at hx
      obtain ⟨q, -, rfl⟩ := List.mem_map.1 hx
      exact (Sz_tT _ _ _).1) i (by omega)
    rw [hLi] at rd tr
    obtain ⟨e1, e2, e3⟩ := errC r hr i (by omega)
    rw [← hp] at e1 e2 e3
    have c1 := fun pr => rcost_q hK hu tr (by simp [tT]) (by simp [tT]) pr
    rw [e1] at c1
    have c2 : ∀ s, WF s → ∀ pr, callK K (.func (.func 35) #[] #[]) [vU (spU i p), vU (cP p)] true pr s = some (vUB (spU (i + 1) p) true, s) := fun s hs pr => by
      rw [← addO_sp e2 e3]; exact radd_q hK _ _ _ _ _ _ _ _ hs pr
    obtain ⟨s2, hs2⟩ : ∃ s2, s2 = S u [some (cU (cP p))] := ⟨_, rfl⟩
    have x2 : Ex u s2 := by rw [hs2]; exact S_ex hu _
    have hw2 := x2.wf hu
    have g7 := (x2.row k7 (by omega)).trans hg
    have g72 : s2.get u.n = some (cU (cP p)) := by rw [hs2]; exact S_get0 _ _
    have m7 : s2.may k7 = true := by rw [(x2.d (fun _ => False)).may, he.may]; exact hm
    have hpu := Exd.put hw2 g7 (some (cU (spU (i + 1) p)))
    obtain ⟨u', f1, f2, f3⟩ := ih (i + 1) _ (by omega) ((he.trans (E := (· = k7)) (x2.d (fun _ => False)) (fun _ _ h => h) (fun _ _ h => h.elim)).trans (E := (· = k7)) hpu (fun _ _ h => h) (fun _ _ h => h)) (St.get_put_same g7 _)
    refine ⟨u', f1, f2, fun k => ?_⟩
    rw [← f3 k, M_lop]
    have hi6 : i < 6 := by omega
    have c2' := fun pr => c2 s2 hw2 pr
    simp (disch := first | omega | assumption | exact S_wf (by assumption) _ | (simp; done) | (simp; omega)) [Mb _ _ b3_1.eq_1, decide_eq_true, decide_eq_false, if_pos, if_neg, wI, hi6, g4u, rd, c1, costV, ← hs2, g7, g72, c2', m7]
end Go.Proofs.YtakdnpafdadblaaGreat.EV.W
namespace Go.Proofs.YtakdnpafdadblaaGreat.EV.W
open Go
set_option maxRecDepth 8000
set_option maxHeartbeats 2000000
variable {ro : Addr → Option Value} {K : H}
theorem spU0 (p : UInt64) : spU 0 p = U0 := by unfold spU; rw [Nat.zero_mul]; rfl
theorem setBal {n : Nat} {s : St} {v : Value} (x : U) (o : Ow shAcct ro (Fresh n) s v (fullB 6 0).accts) : ∃ k cs, v = .slice (some (own k 0)) 8 5 ∧ n ≤ k ∧ s.get k = some cs ∧ cs.length = 40 ∧ Ow shAcct ro (Fresh n) (s.put k (some (splice cs 11 (cU x)))) v ((fullB 6 0).accts.set 2 ⟨5, x⟩) := by
  rcases o with ⟨-, h⟩ | ⟨k, cs, h1, h2, h3, h4⟩
  · simp [fullB, bB5] at h
  · have hc := rows_cA h4
    refine ⟨k, cs, by rw [h1]; rfl, h2, h3, by rw [h4.length]; rfl, .inr ⟨k, _, by rw [h1]; rfl, h2, St.get_put_same h3 _, ?_⟩⟩
    have : splice cs 11 (cU x) = ((fullB 6 0).accts.set 2 ⟨5, x⟩).flatMap cA := by rw [hc]; rfl
    rw [this]
    exact rows_of_cA _ _ _
theorem full_accts (p : UInt64) : (fullB 6 p).accts = (fullB 6 0).accts := rfl
theorem Gb.poor (p : UInt64) : Gb (poorB p) 6 := ⟨⟨(Gb.full p 6 (by omega)).z.tx, (Gb.full p 6 (by omega)).z.lb, by simp [poorB, fullB, bB5, bB], (Gb.full p 6 (by omega)).z.nt, (Gb.full p 6 (by omega)).z.nl⟩, (Gb.full p 6 (by omega)).n⟩
theorem err_law (hK : Std ro K) (cs : List Value) (av : Option Addr) (n c : Nat) (hn : n < 1000000000) (hcs : (cs.drop 11).take 1 = [.slice av n c]) (hl : cs.length = 12) (s : St) (hs : WF s) : ∃ s', K (.func (.func 3) #[] #[]) [.agg cs.toArray] s = some (.bool true, s') := by
  obtain ⟨s1, hs1⟩ : ∃ s1, s1 = S s [some cs] := ⟨_, rfl⟩
  have x01 : Ex s s1 := by rw [hs1]; exact S_ex hs _
  have hw1 := x01.wf hs
  have g0 : s1.get s.n = some cs := by rw [hs1]; exact S_get0 _ _
  obtain ⟨r, hr⟩ : ∃ r, r = n % 50 := ⟨_, rfl⟩
  have hr50 : r < 50 := by omega
  obtain ⟨p, hp⟩ : ∃ p, p = UInt64.ofNat (2 + r) := ⟨_, rfl⟩
  have cw := fun pr => within_q hK n hn hw1 pr
  rw [← hr] at cw
  have e2 : ((2 + (r : Int)) % 18446744073709551616).toNat = 2 + r := by omega
  obtain ⟨a1, u1, c1, x1, o1⟩ := mkB_w hK 1048576 hw1
  have hu1 := x1.wf hw1
  have hn01 : s1.n = s.n + 1 := by rw [hs1, S_n]; rfl
  have hn1 := x1.n
  obtain ⟨k, cs1, rfl, k1, k2, k3, k4⟩ := set5 o1.a
  obtain ⟨s2, hs2⟩ : ∃ s2, s2 = S u1 [some (bkC (bB 1048576) (.slice (some (own k 0)) 8 5) (.slice none 0 0) (.slice none 0 0))] := ⟨_, rfl⟩
  have x2 : Ex u1 s2 := by rw [hs2]; exact S_ex hu1 _
  have hw2 := x2.wf hu1
  have hn2 : s2.n = u1.n + 1 := by rw [hs2, S_n]; rfl
  have xs2 : Ex s s2 := x01.trans (x1.trans x2)
  have gk2 : s2.get k = some cs1 := (x2.row _ (St.get_lt k2)).trans k2
  have mk2 : s2.may k = true := xs2.mayN hs (by omega)
  obtain ⟨s3, hs3⟩ : ∃ s3, s3 = s2.put k (some (cs1.set 10 (vI 5))) := ⟨_, rfl⟩
  have xs3 : Ex s s3 := by rw [hs3]; exact put_ex hs xs2 gk2 (by omega) _
  have hw3 := xs3.wf hs
  have hn3 : s3.n = s2.n := by rw [hs3]; rfl
  have hkn := St.get_lt k2
  have g3 : s3.get u1.n = some (bkC (fullB 0 p) (.slice (some (own k 0)) 8 5) (.slice none 0 0) (.slice none 0 0)) := by rw [hs3, St.get_put_other _ _ (by omega) (St.get_lt gk2), hs2, S_get0]; rfl
  have g2 : s2.get u1.n = some (bkC (fullB 0 p) (.slice (some (own k 0)) 8 5) (.slice none 0 0) (.slice none 0 0)) := by rw [hs2, S_get0]; rfl
  have o3 : BkW ro (fun j => s1.n ≤ j ∧ j ≠ u1.n) s3 (fullB 0 p) (.slice (some (own k 0)) 8 5) (.slice none 0 0) (.slice none 0 0) := by
    refine ⟨k4.mo ⟨by simp; omega, fun j hj hf => ⟨?_, hf, by simp at hj; omega⟩⟩, Ow.nil, Ow.nil⟩
    by_cases hjk : j = k
    · subst hjk; rw [hs3, St.get_put_same gk2, St.get_put_same k2]
    · rw [hs3, St.get_put_other _ _ hjk (St.get_lt gk2), St.get_put_other _ _ hjk hkn]; exact x2.row j hj
  have m3 : s3.may u1.n = true := xs3.mayN hs (by omega)
  obtain ⟨u4, a4, t4, l4, f1, f2, f3, f4⟩ := err_loop hK r hr50 p hp u1.n s1.n s3 hw3 (by omega) (by omega) m3 6 0 5 s3 _ _ _ (by omega) (by omega) ((Ex.refl hw3).d _) g3 o3
  have hu4 := f1.wf hw3
  have eu4 : Ex s u4 := Exd.ex xs3 f1 (fun j hj => by omega)
  have hn4 := f1.n
  obtain ⟨a5, t5, l5, u5, c5, x5, o5, m, p1, p2, p3, p4⟩ := copybook_s hK hu4 f3.r (Gb.full p 6 (by omega)).z (by simp [fullB, bB5]) (some [])
  have hu5 := x5.wf hu4
  have hn5 := x5.n
  obtain ⟨s6, hs6⟩ : ∃ s6, s6 = S u5 [some (bkC (fullB 6 p) a5 t5 l5)] := ⟨_, rfl⟩
  have x6 : Ex u5 s6 := by rw [hs6]; exact S_ex hu5 _
  have hw6 := x6.wf hu5
  have hn6 : s6.n = u5.n + 1 := by rw [hs6, S_n]; rfl
  obtain ⟨s7, hs7⟩ : ∃ s7, s7 = S s6 [some [v64 0, v64 0, v64 0, v64 0]] := ⟨_, rfl⟩
  have x7 : Ex s6 s7 := by rw [hs7]; exact S_ex hw6 _
  have hw7 := x7.wf hw6
  have hn7 : s7.n = s6.n + 1 := by rw [hs7, S_n]; rfl
  have x47 : Ex u4 s7 := x5.trans (x6.trans x7)
  have e7 : Ex s s7 := eu4.trans x47
  have hn13 : s1.n ≤ u1.n := hn1
  have g47 : s7.get u1.n = some (bkC (fullB 6 p) a4 t4 l4) := (x47.row _ (by omega)).trans f2
  have g67 : s7.get u5.n = some (bkC (fullB 6 p) a5 t5 l5) := by rw [x7.row _ (by omega), hs6, S_get0]; rfl
  have g77 : s7.get s6.n = some (cU (spU 0 p)) := by rw [hs7, S_get0, spU0]; rfl
  have g7z : s7.get s6.n = some [v64 0, v64 0, v64 0, v64 0] := by rw [hs7, S_get0]; rfl
  have hps : s7.put s6.n (some [v64 0, v64 0, v64 0, v64 0]) = s7 := put_self hw7 g7z
  have m77 : s7.may s6.n = true := e7.mayN hs (by omega)
  obtain ⟨u8, q1, q2, q3⟩ := sp_loop hK r hr50 p hp u1.n u5.n s6.n (fun j => (s1.n ≤ j ∧ j ≠ u1.n) ∧ j < u4.n) s7 hw7 (by omega) (by omega) m77 (by omega) a4 t4 l4 g47 f3.t.cells (f3.t.txs.mo ⟨x47.n, fun j hj hF => ⟨x47.row j hj, hF, hj⟩⟩) (fun j hj => by omega) 6 0 s7 (by omega) ((Ex.refl hw7).d _) g77
  have hu8 := q1.wf hw7
  have hn8 := q1.n
  have e8 : Ex s u8 := Exd.ex e7 q1 (fun j hj => by omega)
  have row8 : ∀ j, j < s6.n → u8.get j = s7.get j := fun j hj => q1.row j (by omega) (by omega)
  have o8a : Ow shAcct ro (Fresh u4.n) u8 a5 (fullB 6 0).accts := by
    rw [← full_accts p]
    exact o5.a.mo ⟨by omega, fun j hj hF => ⟨(row8 j (by omega)).trans ((x6.trans x7).row j hj), hF⟩⟩
  obtain ⟨ka, cs8, rfl, ka1, ka2, ka3, ka4⟩ := setBal (spU 6 p) o8a
  have kam := p4 ka (by simp [Dv, EV.own])
  have mka : u8.may ka = true := e8.mayN hs (by omega)
  obtain ⟨s9, hs9⟩ : ∃ s9, s9 = u8.put ka (some (splice cs8 11 (cU (spU 6 p)))) := ⟨_, rfl⟩
  have e9 : Ex s s9 := by rw [hs9]; exact put_ex hs e8 ka2 (by omega) _
  have hw9 := e9.wf hs
  have hn9 : s9.n = u8.n := by rw [hs9]; rfl
  have row9 : ∀ j, j < s6.n → j ≠ ka → s9.get j = s7.get j := fun j hj hk => by rw [hs9, St.get_put_other _ _ hk (St.get_lt ka2)]; exact row8 j hj
  have ga9 : s9.get u1.n = some (bkC (fullB 6 p) a4 t4 l4) := (row9 _ (by omega) (by omega)).trans g47
  have gb9 : s9.get u5.n = some (bkC (fullB 6 p) (.slice (some (own ka 0)) 8 5) t5 l5) := by
    have hlt : ka < u5.n := by
      rcases o5.a with ⟨h0, -⟩ | ⟨k', cs', h0, h1, h2, -⟩
      · cases h0
      · cases h0; exact St.get_lt h2
    exact (row9 _ (by omega) (by omega)).trans g67
  have b9 : BkW ro (fun _ => True) s9 (fullB 6 p) a4 t4 l4 := f3.mo ⟨by omega, fun j hj hF => ⟨(row9 j (by omega) (by omega)).trans (x47.row j hj), trivial⟩⟩
  have r9 : BkW ro (fun _ => True) s9 (poorB p) (.slice (some (own ka 0)) 8 5) t5 l5 := by
    refine ⟨?_, ?_, ?_⟩
    · exact hs9 ▸ (ka4.mo (Mo.weak _ fun _ _ => trivial))
    · exact p1.mo ⟨by omega, fun j hj hF => ⟨(row9 j (by omega) (by simp only [Fresh] at hF; omega)).trans ((x6.trans x7).row j hj), trivial⟩⟩
    · exact p2.mo ⟨by omega, fun j hj hF => ⟨(row9 j (by omega) (by simp only [Fresh] at hF; omega)).trans ((x6.trans x7).row j hj), trivial⟩⟩
  have hgb := Gb.full p 6 (by omega)
  obtain ⟨d1, d2, d3, d4, d5, d6⟩ := errF r hr50
  rw [← hp] at d1 d2 d3 d4 d5 d6
  have y9 := Ex.refl hw9
  obtain ⟨h1, b1, v1, y1, c11, c12, c13⟩ := ask_may hK hgb 2 4 p hw9 b9
  have hv1 := y1.wf hw9
  obtain ⟨h2, b2, v2, y2, c21, c22, c23⟩ := ask_may hK hgb 2 11 p hv1 (b9.mo (y1.mo _))
  have y12 := y1.trans y2
  have hv2 := y12.wf hw9
  obtain ⟨h3, b3, v3, y3, c31, c32, c33⟩ := ask_may hK hgb 2 7 (2 * p - 1) hv2 (b9.mo (y12.mo _))
  have y13 := y12.trans y3
  have hv3 := y13.wf hw9
  obtain ⟨h4, b4, v4, y4, c41, c42, c43⟩ := ask_may hK hgb 2 7 (2 * p) hv3 (b9.mo (y13.mo _))
  have y14 := y13.trans y4
  have hv4 := y14.wf hw9
  obtain ⟨h5, b5, v5, y5, c51, c52, c53⟩ := ask_may hK hgb 2 7 p hv4 (b9.mo (y14.mo _))
  have y15 := y14.trans y5
  have hv5 := y15.wf hw9
  obtain ⟨h6, b6, v6, y6, c61, c62, c63⟩ := ask_may hK (Gb.poor p) 2 7 (2 * p) hv5 (r9.mo (y15.mo _))
  have y16 := y15.trans y6
  have hv6 := y16.wf hw9
  rw [d1] at c12 c13
  rw [d2] at c22 c23
  rw [d3] at c32 c33
  rw [d4] at c42 c43
  rw [d5] at c52 c53
  rw [d6] at c62 c63
  have hwk := fun pr => wakes17_q hK hv6 pr
  have ga : ∀ {v}, Ex s9 v → v.get u1.n = some (bkC (fullB 6 p) a4 t4 l4) := fun y => (y.row _ (by omega)).trans ga9
  have gb5 := (y15.row _ (by omega)).trans gb9
  have ga1 := ga y1
  have ga2 := ga y12
  have ga3 := ga y13
  have ga4 := ga y14
  have c5' : ∀ pr, callK K (.func (.func 33) #[] #[]) [vB (fullB 6 p) a4 t4 l4] true pr u4 = some (vB (fullB 6 p) (.slice (some (own ka 0)) 8 5) t5 l5, u5) := fun pr => c5
  obtain ⟨⟨ca4, pa4⟩, ⟨ct4, pt4⟩, ⟨cl4, pl4⟩⟩ := b9.cells
  obtain ⟨-, ⟨ct5, pt5⟩, ⟨cl5, pl5⟩⟩ := r9.cells
  have c62' : ∀ pr, callK K (.func (.func 30) #[] #[]) [vB (fullB 6 p) (.slice (some (own ka 0)) 8 5) t5 l5, vT (tT 2 7 (2 * p)) h6 b6] true pr v6 = some (vI 12, v6) := c62
  have g68 : u8.get u5.n = some (bkC (fullB 6 p) (.slice (some (own ka 0)) 8 5) t5 l5) := (row8 _ (by omega)).trans g67
  simp only [bkC, EV.own] at *
  simp only [show ((0 : Nat) : Int) = 0 from rfl] at q3
  rw [go3 hK _ _ rfl]
  simp (disch := first | omega | assumption | exact S_wf (by assumption) _ | (simp; done) | (simp; omega)) [c3, decide_eq_true, decide_eq_false, if_pos, if_neg, ← hs1, g0, hl, hcs, cw, wI, e2, ← hp, c1, hu1, ← hs2, g2, gk2, k3, mk2, ← hs3, f4, f2, c5', hu5, ← hs6, ← hs7, g7z, m77, hps, q3, g68, q2, ka2, ka3, mka, ← hs9, ga9, ca4, pa4, ct4, pt4, cl4, pl4, ct5, pt5, cl5, pl5, c11, c12, c13, ga1, c21, c22, c23, ga2, c31, c32, c33, ga3, c41, c42, c43, ga4, c51, c52, c53, gb5, c61, c62', c63, hwk]
end Go.Proofs.YtakdnpafdadblaaGreat.EV.W
