/-
  PROVED: 'tarnlaw17.AdmitErrors' returns true and leaves its argument as it was, where the argument is of bulk at most 1048576 (Rows.AdmitErrorsUptoSaid). Part 7 of 7.
-/
import Derived.Test.YtakdnpafdadblaaGreatErr6
import Derived.Test.YtakdnpafdadblaaGreatRows
import Derived.Laws.Externs
import Derived.KernelRfl
import Derived.WalkKit
import Derived.ProofKit
import Derived.OpenShut
import Derived.JoinedCond
import Derived.Below
set_option linter.unusedSimpArgs false
set_option linter.unusedVariables false
set_option linter.unusedSectionVars false
namespace Go.Proofs.YtakdnpafdadblaaGreat.EV
open Go
noncomputable def cf : Cfg := { G := Tryz.prog, eqT := fun t => if t = 24 then some 4 else if t = 38 then some 5 else if t = 26 then some 6 else none, fAdd := 237, fSub := 240 }
theorem equalInt {G : Program} {t d : Nat} {k0 k : IntKind} (h : G.underlying t = some (.int k0)) (a b : Int) (w : World) : (Op.equalIn (d + 1) t (.int k a) (.int k b)).run G w = .ok (a == b) w := by
  simp [Op.equalIn, run_underlying' h]
theorem guard_none {G : Program} {t : Nat} (h : G.eqGuardType G.depth t = false) (op : BinOp) (y z : Operand) (xs ys : Array Value) (w : World) : (eqGuard op t y z (.agg xs) (.agg ys)).run G w = .ok () w := by
  cases op <;> simp [eqGuard, program, Sem.run, h]
theorem size22 (w : World) : (sizeOf 22).run Tryz.prog w = .ok 1 w := run_sizeOf' (show szOf Tryz.prog 22 = some 1 by kernel_rfl) w
theorem size24 (w : World) : (sizeOf 24).run Tryz.prog w = .ok 4 w := run_sizeOf' (show szOf Tryz.prog 24 = some 4 by kernel_rfl) w
theorem isAgg22 (w : World) : (isAgg 22).run Tryz.prog w = .ok false w := by simp [isAgg, run_underlying' Tryz.underlying22]
theorem isAgg3 (w : World) : (isAgg 3).run Tryz.prog w = .ok false w := by simp [isAgg, run_underlying' Tryz.underlying3]
theorem isAgg24 (w : World) : (isAgg 24).run Tryz.prog w = .ok true w := by simp [isAgg, run_underlying' Tryz.underlying24]
theorem eq24 (d : Nat) (k0 k1 k2 k3 : IntKind) (a0 a1 a2 a3 b0 b1 b2 b3 : Int) (w : World) :
    (Op.equalIn (d + 2) 24 (.agg #[.int k0 a0, .int k1 a1, .int k2 a2, .int k3 a3]) (.agg #[.int k0 b0, .int k1 b1, .int k2 b2, .int k3 b3])).run Tryz.prog w = .ok (a0 == b0 && (a1 == b1 && (a2 == b2 && (a3 == b3 && true)))) w := by
  rw [show d + 2 = (d + 1) + 1 from rfl, Op.equalIn]
  simp only [Sem.run_bind, run_underlying' Tryz.underlying24, Result.andThen, size22]
  cases h0 : a0 == b0 <;> cases h1 : a1 == b1 <;> cases h2 : a2 == b2 <;> cases h3 : a3 == b3 <;> simp [part, isAgg22, equalInt Tryz.underlying22, h0, h1, h2, h3, Std.Legacy.Range.forIn_eq_forIn_range', List.range']
theorem eq38 (d : Nat) (k0 k1 k2 k3 k4 : IntKind) (a0 a1 a2 a3 a4 b0 b1 b2 b3 b4 : Int) (w : World) :
    (Op.equalIn (d + 3) 38 (.agg #[.int k0 a0, .int k1 a1, .int k2 a2, .int k3 a3, .int k4 a4]) (.agg #[.int k0 b0, .int k1 b1, .int k2 b2, .int k3 b3, .int k4 b4])).run Tryz.prog w = .ok (a0 == b0 && (a1 == b1 && (a2 == b2 && (a3 == b3 && (a4 == b4 && true))))) w := by
  have hs : Tryz.prog.stoodInHeld 38 = false := by kernel_rfl
  have e24 := eq24 d k1 k2 k3 k4 a1 a2 a3 a4 b1 b2 b3 b4 w
  rw [show d + 3 = (d + 2) + 1 from rfl, Op.equalIn]
  simp only [Sem.run_bind, run_underlying' Tryz.underlying38, Result.andThen]
  cases h0 : a0 == b0 <;> cases h1 : (a1 == b1 && (a2 == b2 && (a3 == b3 && (a4 == b4 && true)))) <;> rw [h1] at e24 <;> simp [program, Sem.run, hs, part, isAgg3, isAgg24, size24, equalInt Tryz.underlying3, h0, e24]
theorem eq26 (d : Nat) (k0 k1 k2 k3 k4 k5 : IntKind) (a0 a1 a2 a3 a4 a5 b0 b1 b2 b3 b4 b5 : Int) (w : World) :
    (Op.equalIn (d + 3) 26 (.agg #[.int k0 a0, .int k1 a1, .int k2 a2, .int k3 a3, .int k4 a4, .int k5 a5]) (.agg #[.int k0 b0, .int k1 b1, .int k2 b2, .int k3 b3, .int k4 b4, .int k5 b5])).run Tryz.prog w = .ok (a0 == b0 && (a1 == b1 && (a2 == b2 && (a3 == b3 && (a4 == b4 && (a5 == b5 && true)))))) w := by
  have hs : Tryz.prog.stoodInHeld 26 = false := by kernel_rfl
  have e24 := eq24 d k1 k2 k3 k4 a1 a2 a3 a4 b1 b2 b3 b4 w
  have hand : (a0 == b0 && (a1 == b1 && (a2 == b2 && (a3 == b3 && (a4 == b4 && (a5 == b5 && true)))))) = (a0 == b0 && ((a1 == b1 && (a2 == b2 && (a3 == b3 && (a4 == b4 && true)))) && a5 == b5)) := by
    simp [Bool.and_assoc]
  rw [hand]
  rw [show d + 3 = (d + 2) + 1 from rfl, Op.equalIn]
  simp only [Sem.run_bind, run_underlying' Tryz.underlying26, Result.andThen]
  cases h0 : a0 == b0 <;> cases h1 : (a1 == b1 && (a2 == b2 && (a3 == b3 && (a4 == b4 && true)))) <;> cases h5 : a5 == b5 <;> rw [h1] at e24 <;> simp [program, Sem.run, hs, part, isAgg3, isAgg24, size24, equalInt Tryz.underlying3, h0, h5, e24]
theorem eqCells_cons {v u : Value} {l m : List Value} {r : Bool} (h : eqCells (v :: l) (u :: m) = some r) : ∃ k a b r', v = .int k a ∧ u = .int k b ∧ eqCells l m = some r' ∧ r = (a == b && r') := by
  unfold eqCells at h
  split at h
  · rename_i h1 _; cases h1
  · rename_i k a l1 k' b m1 e1 e2
    cases e1; cases e2
    split at h
    · rename_i hk; subst hk
      split at h
      · rename_i r' hr; cases h; exact ⟨k, a, b, r', rfl, rfl, hr, rfl⟩
      · cases h
    · cases h
  · cases h
theorem eqCells_nil {r : Bool} (h : eqCells [] [] = some r) : r = true := by simp [eqCells] at h; exact h
theorem list4 {xs : Array Value} (h : xs.size = 4) : ∃ a b c d, xs = #[a, b, c, d] := by
  obtain ⟨l⟩ := xs
  match l, h with
  | [a, b, c, d], _ => exact ⟨a, b, c, d, rfl⟩
theorem list5 {xs : Array Value} (h : xs.size = 5) : ∃ a b c d e, xs = #[a, b, c, d, e] := by
  obtain ⟨l⟩ := xs
  match l, h with
  | [a, b, c, d, e], _ => exact ⟨a, b, c, d, e, rfl⟩
theorem list6 {xs : Array Value} (h : xs.size = 6) : ∃ a b c d e f, xs = #[a, b, c, d, e, f] := by
  obtain ⟨l⟩ := xs
  match l, h with
  | [a, b, c, d, e, f], _ => exact ⟨a, b, c, d, e, f, rfl⟩
theorem eqF24 : EqF Tryz.prog 24 4 := by
  intro xs ys r hx hy h y z w
  have hg : Tryz.prog.eqGuardType Tryz.prog.depth 24 = false := by kernel_rfl
  refine ⟨guard_none hg _ _ _ _ _ _, guard_none hg _ _ _ _ _ _, ?_⟩
  obtain ⟨x0, x1, x2, x3, rfl⟩ := list4 hx
  obtain ⟨y0, y1, y2, y3, rfl⟩ := list4 hy
  obtain ⟨k0, a0, b0, r0, rfl, rfl, h0, rfl⟩ := eqCells_cons h
  obtain ⟨k1, a1, b1, r1, rfl, rfl, h1, rfl⟩ := eqCells_cons h0
  obtain ⟨k2, a2, b2, r2, rfl, rfl, h2, rfl⟩ := eqCells_cons h1
  obtain ⟨k3, a3, b3, r3, rfl, rfl, h3, rfl⟩ := eqCells_cons h2
  obtain rfl := eqCells_nil h3
  exact eq24 9998 _ _ _ _ _ _ _ _ _ _ _ _ w
theorem eqF38 : EqF Tryz.prog 38 5 := by
  intro xs ys r hx hy h y z w
  have hg : Tryz.prog.eqGuardType Tryz.prog.depth 38 = false := by kernel_rfl
  refine ⟨guard_none hg _ _ _ _ _ _, guard_none hg _ _ _ _ _ _, ?_⟩
  obtain ⟨x0, x1, x2, x3, x4, rfl⟩ := list5 hx
  obtain ⟨y0, y1, y2, y3, y4, rfl⟩ := list5 hy
  obtain ⟨k0, a0, b0, r0, rfl, rfl, h0, rfl⟩ := eqCells_cons h
  obtain ⟨k1, a1, b1, r1, rfl, rfl, h1, rfl⟩ := eqCells_cons h0
  obtain ⟨k2, a2, b2, r2, rfl, rfl, h2, rfl⟩ := eqCells_cons h1
  obtain ⟨k3, a3, b3, r3, rfl, rfl, h3, rfl⟩ := eqCells_cons h2
  obtain ⟨k4, a4, b4, r4, rfl, rfl, h4, rfl⟩ := eqCells_cons h3
  obtain rfl := eqCells_nil h4
  exact eq38 9997 _ _ _ _ _ _ _ _ _ _ _ _ _ _ _ w
theorem eqF26 : EqF Tryz.prog 26 6 := by
  intro xs ys r hx hy h y z w
  have hg : Tryz.prog.eqGuardType Tryz.prog.depth 26 = false := by kernel_rfl
  refine ⟨guard_none hg _ _ _ _ _ _, guard_none hg _ _ _ _ _ _, ?_⟩
  obtain ⟨x0, x1, x2, x3, x4, x5, rfl⟩ := list6 hx
  obtain ⟨y0, y1, y2, y3, y4, y5, rfl⟩ := list6 hy
  obtain ⟨k0, a0, b0, r0, rfl, rfl, h0, rfl⟩ := eqCells_cons h
  obtain ⟨k1, a1, b1, r1, rfl, rfl, h1, rfl⟩ := eqCells_cons h0
  obtain ⟨k2, a2, b2, r2, rfl, rfl, h2, rfl⟩ := eqCells_cons h1
  obtain ⟨k3, a3, b3, r3, rfl, rfl, h3, rfl⟩ := eqCells_cons h2
  obtain ⟨k4, a4, b4, r4, rfl, rfl, h4, rfl⟩ := eqCells_cons h3
  obtain ⟨k5, a5, b5, r5, rfl, rfl, h5, rfl⟩ := eqCells_cons h4
  obtain rfl := eqCells_nil h5
  exact eq26 9997 _ _ _ _ _ _ _ _ _ _ _ _ _ _ _ _ _ _ w
def sub64Entry : Array Value → Sem Value := fun args => do
  let (x, y, b) ← Extern.MathBitsCarry.three "Sub64" args
  pure (Extern.MathBitsCarry.pair ((x + Extern.MathBitsCarry.m64 - y - b) % Extern.MathBitsCarry.m64) (if x < y + b then 1 else 0))
theorem carry_cases {c : Int} (h : c.toNat ≤ 1) : c = (0 : Nat) ∨ c = (1 : Nat) ∨ ∃ n, c = .negSucc n := by
  cases c with
  | ofNat k =>
    have h1 : k ≤ 1 := h
    have h2 : k = 0 ∨ k = 1 := by omega
    rcases h2 with rfl | rfl
    · exact .inl rfl
    · exact .inr (.inl rfl)
  | negSucc n => exact .inr (.inr ⟨n, rfl⟩)
theorem add_run {G : Program} {vs : List Value} {v : Value} (h : add64 vs = some v) (w : World) : (add64Entry vs.toArray).run G w = .ok v w := by
  unfold add64 at h
  split at h
  · rename_i x y c
    split at h
    · rename_i hc
      cases h
      rcases carry_cases hc with rfl | rfl | ⟨n, rfl⟩ <;> rfl
    · cases h
  · cases h
theorem sub_run {G : Program} {vs : List Value} {v : Value} (h : sub64 vs = some v) (w : World) : (sub64Entry vs.toArray).run G w = .ok v w := by
  unfold sub64 at h
  split at h
  · rename_i x y c
    split at h
    · rename_i hc
      cases h
      rcases carry_cases hc with rfl | rfl | ⟨n, rfl⟩ <;> (simp only [two]; rfl)
    · cases h
  · cases h
theorem cfOk : cf.Ok where
  mixed := by kernel_rfl
  eq := by
    intro t n h
    simp only [cf] at h
    split at h
    · rename_i ht; subst ht; cases h; exact eqF24
    · split at h
      · rename_i ht; subst ht; cases h; exact eqF38
      · split at h
        · rename_i ht; subst ht; cases h; exact eqF26
        · cases h
  add := by
    intro vs v w h
    have := run_callFunc_extern (P := Tryz.prog) (f := 237) (e := add64Entry) Tryz.func237 (by kernel_rfl) (by kernel_rfl) (by kernel_rfl) (by kernel_rfl) vs.toArray w
    show (callFunc 237 vs.toArray).run Tryz.prog w = _
    rw [this, add_run h]; rfl
  sub := by
    intro vs v w h
    have := run_callFunc_extern (P := Tryz.prog) (f := 240) (e := sub64Entry) Tryz.func240 (by kernel_rfl) (by kernel_rfl) (by kernel_rfl) (by kernel_rfl) vs.toArray w
    show (callFunc 240 vs.toArray).run Tryz.prog w = _
    rw [this, sub_run h]; rfl
end Go.Proofs.YtakdnpafdadblaaGreat.EV
namespace Go.Proofs.YtakdnpafdadblaaGreat.EV
open Go
theorem k3 : FOk cf 3 fd3 := fok_of (by kernel_rfl)
theorem k27 : FOk cf 27 fd27 := fok_of (by kernel_rfl)
theorem k28 : FOk cf 28 fd28 := fok_of (by kernel_rfl)
theorem k29 : FOk cf 29 fd29 := fok_of (by kernel_rfl)
theorem k30 : FOk cf 30 fd30 := fok_of (by kernel_rfl)
theorem k31 : FOk cf 31 fd31 := fok_of (by kernel_rfl)
theorem k32 : FOk cf 32 fd32 := fok_of (by kernel_rfl)
theorem k33 : FOk cf 33 fd33 := fok_of (by kernel_rfl)
theorem k34 : FOk cf 34 fd34 := fok_of (by kernel_rfl)
theorem k35 : FOk cf 35 fd35 := fok_of (by kernel_rfl)
theorem k36 : FOk cf 36 fd36 := fok_of (by kernel_rfl)
theorem k58 : FOk cf 58 fd58 := fok_of (by kernel_rfl)
theorem k60 : FOk cf 60 fd60 := fok_of (by kernel_rfl)
theorem k62 : FOk cf 62 fd62 := fok_of (by kernel_rfl)
theorem k63 : FOk cf 63 fd63 := fok_of (by kernel_rfl)
theorem k89 : FOk cf 89 fd89 := fok_of (by kernel_rfl)
theorem k90 : FOk cf 90 fd90 := fok_of (by kernel_rfl)
theorem k91 : FOk cf 91 fd91 := fok_of (by kernel_rfl)
theorem k92 : FOk cf 92 fd92 := fok_of (by kernel_rfl)
theorem k93 : FOk cf 93 fd93 := fok_of (by kernel_rfl)
theorem k94 : FOk cf 94 fd94 := fok_of (by kernel_rfl)
theorem k95 : FOk cf 95 fd95 := fok_of (by kernel_rfl)
theorem k96 : FOk cf 96 fd96 := fok_of (by kernel_rfl)
theorem k97 : FOk cf 97 fd97 := fok_of (by kernel_rfl)
theorem k98 : FOk cf 98 fd98 := fok_of (by kernel_rfl)
theorem k102 : FOk cf 102 fd102 := fok_of (by kernel_rfl)
theorem k103 : FOk cf 103 fd103 := fok_of (by kernel_rfl)
theorem k114 : FOk cf 114 fd114 := fok_of (by kernel_rfl)
theorem k116 : FOk cf 116 fd116 := fok_of (by kernel_rfl)
theorem k122 : FOk cf 122 fd122 := fok_of (by kernel_rfl)
theorem k124 : FOk cf 124 fd124 := fok_of (by kernel_rfl)
theorem k125 : FOk cf 125 fd125 := fok_of (by kernel_rfl)
theorem k126 : FOk cf 126 fd126 := fok_of (by kernel_rfl)
theorem k127 : FOk cf 127 fd127 := fok_of (by kernel_rfl)
theorem k130 : FOk cf 130 fd130 := fok_of (by kernel_rfl)
theorem k131 : FOk cf 131 fd131 := fok_of (by kernel_rfl)
theorem k132 : FOk cf 132 fd132 := fok_of (by kernel_rfl)
theorem k133 : FOk cf 133 fd133 := fok_of (by kernel_rfl)
theorem k136 : FOk cf 136 fd136 := fok_of (by kernel_rfl)
theorem k137 : FOk cf 137 fd137 := fok_of (by kernel_rfl)
theorem k138 : FOk cf 138 fd138 := fok_of (by kernel_rfl)
theorem k149 : FOk cf 149 fd149 := fok_of (by kernel_rfl)
theorem k158 : FOk cf 158 fd158 := fok_of (by kernel_rfl)
theorem k169 : FOk cf 169 fd169 := fok_of (by kernel_rfl)
theorem k170 : FOk cf 170 fd170 := fok_of (by kernel_rfl)
theorem k171 : FOk cf 171 fd171 := fok_of (by kernel_rfl)
theorem k172 : FOk cf 172 fd172 := fok_of (by kernel_rfl)
theorem k173 : FOk cf 173 fd173 := fok_of (by kernel_rfl)
theorem k174 : FOk cf 174 fd174 := fok_of (by kernel_rfl)
theorem k175 : FOk cf 175 fd175 := fok_of (by kernel_rfl)
theorem k176 : FOk cf 176 fd176 := fok_of (by kernel_rfl)
theorem k177 : FOk cf 177 fd177 := fok_of (by kernel_rfl)
theorem k178 : FOk cf 178 fd178 := fok_of (by kernel_rfl)
theorem k179 : FOk cf 179 fd179 := fok_of (by kernel_rfl)
theorem k180 : FOk cf 180 fd180 := fok_of (by kernel_rfl)
theorem k190 : FOk cf 190 fd190 := fok_of (by kernel_rfl)
theorem k191 : FOk cf 191 fd191 := fok_of (by kernel_rfl)
theorem k194 : FOk cf 194 fd194 := fok_of (by kernel_rfl)
theorem k195 : FOk cf 195 fd195 := fok_of (by kernel_rfl)
theorem k198 : FOk cf 198 fd198 := fok_of (by kernel_rfl)
theorem k199 : FOk cf 199 fd199 := fok_of (by kernel_rfl)
theorem k200 : FOk cf 200 fd200 := fok_of (by kernel_rfl)
theorem k201 : FOk cf 201 fd201 := fok_of (by kernel_rfl)
theorem k202 : FOk cf 202 fd202 := fok_of (by kernel_rfl)
theorem k203 : FOk cf 203 fd203 := fok_of (by kernel_rfl)
theorem k204 : FOk cf 204 fd204 := fok_of (by kernel_rfl)
theorem k205 : FOk cf 205 fd205 := fok_of (by kernel_rfl)
theorem k211 : FOk cf 211 fd211 := fok_of (by kernel_rfl)
theorem k231 : FOk cf 231 fd231 := fok_of (by kernel_rfl)
theorem k232 : FOk cf 232 fd232 := fok_of (by kernel_rfl)
theorem k233 : FOk cf 233 fd233 := fok_of (by kernel_rfl)
theorem k234 : FOk cf 234 fd234 := fok_of (by kernel_rfl)
theorem k235 : FOk cf 235 fd235 := fok_of (by kernel_rfl)
theorem k236 : FOk cf 236 fd236 := fok_of (by kernel_rfl)
theorem k241 : FOk cf 241 fd241 := fok_of (by kernel_rfl)
theorem k242 : FOk cf 242 fd242 := fok_of (by kernel_rfl)
theorem k244 : FOk cf 244 fd244 := fok_of (by kernel_rfl)
theorem k245 : FOk cf 245 fd245 := fok_of (by kernel_rfl)
theorem k246 : FOk cf 246 fd246 := fok_of (by kernel_rfl)
theorem k247 : FOk cf 247 fd247 := fok_of (by kernel_rfl)
theorem k260 : FOk cf 260 fd260 := fok_of (by kernel_rfl)
theorem k264 : FOk cf 264 fd264 := fok_of (by kernel_rfl)
theorem k265 : FOk cf 265 fd265 := fok_of (by kernel_rfl)
theorem k266 : FOk cf 266 fd266 := fok_of (by kernel_rfl)
theorem k267 : FOk cf 267 fd267 := fok_of (by kernel_rfl)
theorem k269 : FOk cf 269 fd269 := fok_of (by kernel_rfl)
theorem k270 : FOk cf 270 fd270 := fok_of (by kernel_rfl)
theorem k271 : FOk cf 271 fd271 := fok_of (by kernel_rfl)
theorem k272 : FOk cf 272 fd272 := fok_of (by kernel_rfl)
theorem k273 : FOk cf 273 fd273 := fok_of (by kernel_rfl)
theorem k274 : FOk cf 274 fd274 := fok_of (by kernel_rfl)
theorem k275 : FOk cf 275 fd275 := fok_of (by kernel_rfl)
theorem k276 : FOk cf 276 fd276 := fok_of (by kernel_rfl)
theorem k277 : FOk cf 277 fd277 := fok_of (by kernel_rfl)
theorem k278 : FOk cf 278 fd278 := fok_of (by kernel_rfl)
theorem k279 : FOk cf 279 fd279 := fok_of (by kernel_rfl)
theorem k285 : FOk cf 285 fd285 := fok_of (by kernel_rfl)
theorem k286 : FOk cf 286 fd286 := fok_of (by kernel_rfl)
theorem k287 : FOk cf 287 fd287 := fok_of (by kernel_rfl)
theorem k288 : FOk cf 288 fd288 := fok_of (by kernel_rfl)
theorem k289 : FOk cf 289 fd289 := fok_of (by kernel_rfl)
theorem k290 : FOk cf 290 fd290 := fok_of (by kernel_rfl)
theorem k291 : FOk cf 291 fd291 := fok_of (by kernel_rfl)
theorem k292 : FOk cf 292 fd292 := fok_of (by kernel_rfl)
theorem k293 : FOk cf 293 fd293 := fok_of (by kernel_rfl)
theorem k294 : FOk cf 294 fd294 := fok_of (by kernel_rfl)
theorem k295 : FOk cf 295 fd295 := fok_of (by kernel_rfl)
theorem k296 : FOk cf 296 fd296 := fok_of (by kernel_rfl)
theorem k301 : FOk cf 301 fd301 := fok_of (by kernel_rfl)
theorem k302 : FOk cf 302 fd302 := fok_of (by kernel_rfl)
theorem k303 : FOk cf 303 fd303 := fok_of (by kernel_rfl)
theorem k304 : FOk cf 304 fd304 := fok_of (by kernel_rfl)
theorem k305 : FOk cf 305 fd305 := fok_of (by kernel_rfl)
end Go.Proofs.YtakdnpafdadblaaGreat.EV
namespace Go.Proofs.YtakdnpafdadblaaGreat.EV
open Go
theorem tbOk : TabOk cf tb.get := tabOk_of (show tb.All (FOk cf) from ⟨⟨⟨⟨⟨⟨k3, ⟨k27, k28⟩⟩, ⟨⟨k29, k30⟩, ⟨k31, k32⟩⟩⟩, ⟨⟨k33, ⟨k34, k35⟩⟩, ⟨⟨k36, k58⟩, ⟨k60, k62⟩⟩⟩⟩, ⟨⟨⟨k63, ⟨k89, k90⟩⟩, ⟨⟨k91, k92⟩, ⟨k93, k94⟩⟩⟩, ⟨⟨k95, ⟨k96, k97⟩⟩, ⟨⟨k98, k102⟩, ⟨k103, k114⟩⟩⟩⟩⟩, ⟨⟨⟨⟨k116, ⟨k122, k124⟩⟩, ⟨⟨k125, k126⟩, ⟨k127, k130⟩⟩⟩, ⟨⟨k131, ⟨k132, k133⟩⟩, ⟨⟨k136, k137⟩, ⟨k138, k149⟩⟩⟩⟩, ⟨⟨⟨k158, ⟨k169, k170⟩⟩, ⟨⟨k171, k172⟩, ⟨k173, k174⟩⟩⟩, ⟨⟨k175, ⟨k176, k177⟩⟩, ⟨⟨k178, k179⟩, ⟨k180, k190⟩⟩⟩⟩⟩⟩, ⟨⟨⟨⟨⟨k191, ⟨k194, k195⟩⟩, ⟨⟨k198, k199⟩, ⟨k200, k201⟩⟩⟩, ⟨⟨k202, ⟨k203, k204⟩⟩, ⟨⟨k205, k211⟩, ⟨k231, k232⟩⟩⟩⟩, ⟨⟨⟨k233, ⟨k234, k235⟩⟩, ⟨⟨k236, k241⟩, ⟨k242, k244⟩⟩⟩, ⟨⟨k245, ⟨k246, k247⟩⟩, ⟨⟨k260, k264⟩, ⟨k265, k266⟩⟩⟩⟩⟩, ⟨⟨⟨⟨k267, ⟨k269, k270⟩⟩, ⟨⟨k271, k272⟩, ⟨k273, k274⟩⟩⟩, ⟨⟨k275, ⟨k276, k277⟩⟩, ⟨⟨k278, k279⟩, ⟨k285, k286⟩⟩⟩⟩, ⟨⟨⟨k287, ⟨k288, k289⟩⟩, ⟨⟨k290, k291⟩, ⟨k292, k293⟩⟩⟩, ⟨⟨⟨k294, k295⟩, ⟨k296, k301⟩⟩, ⟨⟨k302, k303⟩, ⟨k304, k305⟩⟩⟩⟩⟩⟩⟩)
end Go.Proofs.YtakdnpafdadblaaGreat.EV
namespace Go.Proofs.YtakdnpafdadblaaGreat.EV
open Go EV.W Go.ChangeShapes Go.WideShapes Go.ChangeAt Go.RowKit
def roW (W : World) : Addr → Option Value := fun a => if a.spot = none then (match W.cell? a with | some v => if roV v = true then some v else none | none => none) else none
theorem roW_ok (W : World) : RoOk (roW W) W := by
  intro a v h
  unfold roW at h
  split at h
  · rename_i hs
    split at h
    · rename_i u hu
      split at h
      · rename_i hr; cases h; exact ⟨hs, hu, hr⟩
      · cases h
    · cases h
  · cases h
def st0 : St := ⟨0, [], 0, [], 0, [], 0⟩
def mp0 : Mp := ⟨fun _ => none, fun _ => none⟩
theorem rc0 (W : World) : RC cf W mp0 st0 W where
  size := Nat.le_refl _
  old := fun _ _ => rfl
  dom := ⟨fun _ _ h => by simp [mp0] at h, fun _ _ h => by simp [mp0] at h⟩
  row := fun _ _ _ _ h => by simp [mp0] at h
  inj := fun _ _ _ _ _ _ _ h => by simp [mp0] at h
  lp := fun _ _ h => by simp [mp0] at h
  linj := fun _ _ _ h => by simp [mp0] at h
noncomputable def KW (W : World) : H := KL (roW W) tb.get (fun _ => none)
theorem stdW (W : World) : Std (roW W) (KW W) where
  fn := fun h a c l s => KL_fn (ro := roW W) (tab := tb.get) (orc := fun _ => none) rfl h a c l s
  yl := fun l a c q s => KL_yield (ro := roW W) (tab := tb.get) (orc := fun _ => none) l a c q s
theorem run_law {f : Nat} {fd : FD} (hf : tb.get f = some fd) {W : World} {v : Value} (hv : VR mp0 v v) {s' : St} (h : KW W (.func (.func f) #[] #[]) [v] st0 = some (.bool true, s')) :
    Calls Tryz.prog f #[v] W fun e W' => e = .returned (.bool true) ∧ Below W.heap.size W W' := by
  obtain ⟨d, hd⟩ := KL_run (roW W) tb.get (fun _ => none) h
  cases d with
  | zero => simp [run] at hd
  | succ d =>
    have hog : ∀ (f : Nat) (o : List Value → St → Option (Value × St)) (q : List Value) (s : St) (r : Value) (s' : St), (fun _ => none : Orc) f = some o → o q s = some (r, s') → Gr s s' := fun _ _ _ _ _ _ h => by cases h
    have ih := run_sim cfOk (roW_ok W) tbOk (orc := fun _ => none) (fun _ _ h => by cases h) hog d
    have hG := run_gr (ro := roW W) (tab := tb.get) hog d
    simp only [run, hf] at hd
    obtain ⟨fn, code, y, t1, t2, t3, t4, t5, t6⟩ := tbOk f fd hf
    have hd' : body (roW W) (run (roW W) tb.get (fun _ => none) d) d fd [v] st0 = some (.bool true, s') := by simpa using hd
    have hc := fun_sim cfOk (roW_ok W) ih hG t1 t3 t4 t5 t6 hd' (rc0 W) (VRs.cons hv (VRs.nil _)) 0
    have hc' := callsIn_wide.1 hc
    refine hc'.mono fun e W' hp => ?_
    cases e with
    | returned r' =>
      obtain ⟨m', p1, p2, p3⟩ := hp
      cases p3
      exact ⟨rfl, p2.os, p2.tape, p2.output, p1.size, p1.old⟩
    | _ => exact hp.elim
section
variable {H : Type} {enc : TypeId × Value → H} {P : Program} {w : World} {base : Nat} {spare : Nat → Bool} {held : Bool}
theorem post_same {f : Func} {s : ChangeSpec} {apart fresh handsOn again : Bool} {W W' : World} {args : Array Value} {v : Value} {ds gs : List (DataW H)} {before pa pv : List MemPlace}
    (hW : DataW.Whole enc P f.params.toList s.vars apart W args.toList ds gs before)
    (hres : ∀ (b : Nat) (sp : Nat → Bool) (hd : Bool), DataW.TrodAll enc P W' b sp hd f.resultTypes.toList (v.resultList f.resultTypes.size) (s.fn H (ds ++ gs)).results [])
    (hargs : ∀ sp : Nat → Bool, (∀ p ∈ before, sp p.block = true) → DataW.TrodAll enc P W' 0 sp true f.params.toList args.toList (s.fn H (ds ++ gs)).args pa)
    (hvars : ∀ sp : Nat → Bool, (∀ p ∈ before, sp p.block = true) → DataW.TrodVars enc P W' sp s.vars (s.fn H (ds ++ gs)).vars pv)
    (hps : before = pa ++ pv) (hB : Below W.heap.size W W')
    (hok : ∀ (j : Nat) (t : TypeId) (r : Value), f.resultTypes[j]? = some t → (v.resultList f.resultTypes.size)[j]? = some r → Value.okWide P W' .any 0 t r) :
    s.post enc P f apart fresh handsOn again W args v W' := by
  have hold : ∀ p ∈ before, (fun b => decide (b < W.heap.size)) p.block = true := fun p hp => by simpa using hW.lt p hp
  have hlt := hW.lt
  refine ⟨ds, gs, before, [], pa, pv, hW, hres _ _ _, hargs _ hold, hvars _ hold, World.keptBut_mono (fun p hp => ⟨hp, ?_⟩) (hB.frame _), fun _ => ?_⟩
  · rw [hps, List.mem_append] at hp
    exact Or.inr hp
  · obtain ⟨_, _, _, _, _, hz, hn⟩ := hW
    refine ⟨hok, _, _, ([] ++ pa) ++ pv, ⟨[] ++ pa, pv, trodAll_append (hargs _ (fun _ _ => rfl)) (hres _ _ _), hvars _ (fun _ _ => rfl), rfl, ?_, ?_⟩, ?_⟩
    · intro b off hp
      have hm : MemPlace.cell b off ∈ before := by rw [hps]; simpa using hp
      have hb := hlt _ hm
      rw [hB.frozen hb]
      exact hz b off hm
    · intro ha
      have := hn ha
      rw [hps] at this
      simpa using this
    · intro p hp _
      rw [hps]
      simpa using hp
end
end Go.Proofs.YtakdnpafdadblaaGreat.EV
namespace Go.Proofs.YtakdnpafdadblaaGreat.EV
open Go EV.W Go.ChangeShapes Go.WideShapes Go.ChangeAt Go.RowKit
theorem bulk1 {H : Type} (d : DataW H) : 1 ≤ Rows.uptoBulk d := by
  cases d with
  | lit l => cases l <;> simp [Rows.uptoBulk]
  | nil => simp [Rows.uptoBulk]
  | ptr d => simp [Rows.uptoBulk]
  | slice elems spare => simp [Rows.uptoBulk]
  | agg parts => simp [Rows.uptoBulk]
  | iface t d => simp [Rows.uptoBulk]
  | map entries => simp [Rows.uptoBulk]
  | held h => simp [Rows.uptoBulk]
theorem bulk_mem {H : Type} {d : DataW H} {l : List (DataW H)} (h : d ∈ l) : Rows.uptoBulk d ≤ Rows.uptoBulkAll l := by
  induction l with
  | nil => cases h
  | cons x r ih =>
    simp only [Rows.uptoBulkAll]
    cases List.mem_cons.1 h with
    | inl e => subst e; omega
    | inr e => have := ih e; omega
theorem bulk_len {H : Type} (l : List (DataW H)) : l.length ≤ Rows.uptoBulkAll l := by
  induction l with
  | nil => simp [Rows.uptoBulkAll]
  | cons x r ih => have := bulk1 x; simp only [Rows.uptoBulkAll, List.length_cons]; omega
theorem bulk_small {H : Type} {ds : List (DataW H)} (hk : Rows.uptoSmall H ds = true) : Rows.uptoBulkAll ds ≤ 1048576 := of_decide_eq_true hk
def flatT (P : Program) (t : TypeId) : Bool := match P.underlying t with
  | some .bool => true
  | some (.int _) => true
  | some .string => true
  | some (.slice _) => true
  | some (.pointer _) => true
  | _ => false
theorem flat_roV {P : Program} {w : World} {base : Nat} {t : TypeId} {v : Value} (hf : flatT P t = true) (h : Cell.okWide P w .any base t v) : roV v = true := by
  unfold flatT at hf
  unfold Cell.okWide Cell.ok at h
  split at hf
  · rename_i hu; rw [hu] at h; cases v <;> first | rfl | simp_all
  · rename_i k hu; rw [hu] at h; cases v <;> first | rfl | simp_all
  · rename_i hu; rw [hu] at h; cases v <;> first | rfl | simp_all
  · rename_i e hu; rw [hu] at h
    cases v with
    | slice a n c =>
      cases a with
      | none =>
        cases n <;> cases c <;> first | rfl | simp_all
      | some a => simp only at h; simp [roV, h.2.2.2.1]
    | _ => simp_all
  · rename_i e hu; rw [hu] at h
    cases v with
    | pointer a =>
      cases a with
      | none => rfl
      | some a => simp only at h; simp [roV, h.2.1]
    | _ => simp_all
  · cases hf
theorem flat_row {P : Program} {w : World} {base : Nat} {t : TypeId} {cs : Array Value} {ts : List TypeId} (ht : P.cellTypes P.depth t = some ts) (hf : ts.all (flatT P) = true) (h : Row.okWide P w .any base t cs) : ∀ v ∈ cs.toList, roV v = true := by
  obtain ⟨ts', h1, _, h2⟩ := h
  rw [ht] at h1; cases h1
  intro v hv
  obtain ⟨i, hi⟩ := List.getElem?_of_mem hv
  obtain ⟨u, hu, hc⟩ := h2 i v (by simpa using hi)
  exact flat_roV ((List.all_eq_true.1 hf) u (List.mem_of_getElem? hu)) hc
theorem flat_vr {cs : Array Value} (h : ∀ v ∈ cs.toList, roV v = true) (m : Mp) : VR m (.agg cs) (.agg cs) :=
  .agg _ _ rfl (fun i v v' hv hv' => by rw [hv] at hv'; cases hv'; exact VR.rdo m (h v (List.mem_of_getElem? hv))) (fun v hv => roV_one (h v hv))
section
variable {H : Type} {enc : TypeId × Value → H}
theorem field_trod {P : Program} {w : World} {base : Nat} {sp : Nat → Bool} {held : Bool} {t : TypeId} {fs : Array Field} {i : Nat} {f : Field} {fuel : Nat} {cs : List Value} {x : DataW H × List MemPlace} (ht : P.underlying t = some (.struct fs)) (hf : fs[i]? = some f)
    (h : DataW.trod enc P w base sp held fuel t cs = some x) : ∃ n y, DataW.trod enc P w base sp held n f.type ((cs.drop f.offset).take (P.cellsOf f.type)) = some y ∧ Rows.uptoBulk y.1 ≤ Rows.uptoBulk x.1 ∧ cs.length = P.cellsOf t := by
  obtain ⟨xs, n, _, rfl, hl, hx, hg⟩ := DataW.trod_struct ht h
  have hi : i < xs.length := by rw [hx]; exact (Array.getElem?_eq_some_iff.1 hf).1
  refine ⟨n, xs[i], (hg i f hf).trans (List.getElem?_eq_getElem hi), ?_, hl⟩
  have := bulk_mem (d := xs[i].1) (l := xs.map (·.1)) (List.mem_map.2 ⟨_, List.getElem_mem hi, rfl⟩)
  simp only [Rows.uptoBulk]
  omega
theorem slice_trod {P : Program} {w : World} {base : Nat} {held : Bool} {t e : TypeId} {fuel : Nat} {cs : List Value} {x : DataW H × List MemPlace} (ht : P.underlying t = some (.slice e))
    (h : DataW.trod enc P w base (fun _ => true) held fuel t cs = some x) : ∃ av n c, cs = [.slice av n c] ∧ n ≤ c ∧ c ≤ Rows.uptoBulk x.1 := by
  rcases DataW.trod_slice ht h with ⟨rfl, rfl⟩ | ⟨a, len, cap, elems, rest, n, _, rfl, rfl, _, h1, _, h2, _, h3, _⟩
  · exact ⟨none, 0, 0, rfl, Nat.le_refl _, Nat.zero_le _⟩
  · refine ⟨some a, len, cap, rfl, h1, ?_⟩
    have h4 := (h3 rfl).1
    have e1 := bulk_len (elems.map (·.1))
    have e2 := bulk_len (rest.map (·.1))
    simp only [List.length_map] at e1 e2
    simp only [Rows.uptoBulk]
    omega
end
theorem contract1 {P : Program} {f : Nat} {fn : Func} {t tb0 : TypeId} {sp : ChangeSpec} (hp : fn.params = #[t]) (hr : fn.resultTypes = #[tb0]) (htb : P.underlying tb0 = some .bool)
    (hlo : laidOutB P = true) (hrr : P.readableRec t = true) (hrow : t < P.types.size)
    (hv0 : sp.vars = []) (hsp : ∀ (H : Type) (d : DataW H), sp.fn H [d] = { results := [.lit (.bool true)], args := [d] })
    (H : Type) (enc : TypeId × Value → H) (W : World) (base : Nat) (args : Array Value) (ds gs : List (DataW H)) (before : List MemPlace)
    (law : ∀ (v : Value) (d : DataW H) (p : List MemPlace), Value.okWide P W .any base t v → DataW.Trod enc P W 0 (fun _ => true) true t v d p → Rows.uptoBulk d ≤ 1048576 →
      Calls P f #[v] W fun e W' => e = .returned (.bool true) ∧ Below W.heap.size W W')
    (hval : ∀ (j : Nat) t v, fn.params[j]? = some t → args[j]? = some v → Value.okWide P W .any base t v)
    (hW : DataW.Whole enc P fn.params.toList sp.vars false W args.toList ds gs before) (hk : Rows.uptoSmall H (ds ++ gs) = true) :
    Calls P f args W fun e W' => ∃ v, e = .returned v ∧ sp.post enc P fn false true false false W args v W' := by
  have hW' := hW
  obtain ⟨p, q, hA, hV, rfl, hfz, hnd⟩ := hW
  rw [hp] at hA hval
  obtain ⟨v0, vs0, d0, ds0, p0, q0, hargs, rfl, rfl, h0, r0⟩ := trodAll_cons hA
  obtain ⟨rfl, rfl, rfl⟩ := trodAll_nil r0
  obtain rfl : args = #[v0] := by cases args; simp_all
  rw [hv0] at hV
  obtain ⟨rfl, rfl⟩ := trodVars_none hV
  have hb := bulk_small hk
  simp only [List.append_nil, Rows.uptoBulkAll, Nat.add_zero] at hb
  have hrun := law v0 d0 p0 (hval 0 t v0 rfl rfl) h0 hb
  simp only [List.append_nil] at hW'
  refine hrun.mono fun e W' ⟨he, hB⟩ => ?_
  subst he
  have hlt : ∀ x ∈ p0, x.block < W.heap.size := fun x hx => by simpa using hW'.lt x (by simpa using hx)
  refine ⟨_, rfl, post_same (pa := p0) (pv := []) hW' (fun _ _ _ => ?_) (fun s hs => ?_) (fun s hs => ?_) (by simp) hB (ok_one hr rfl (okWide_bool_mk htb _))⟩
  · rw [hr, List.append_nil, hsp]; exact (trodAll_cons_mk (shut_bool htb _) trodAll_mk0)
  · rw [hp, List.append_nil, hsp]
    have h1 : DataW.Trod enc P W' 0 s true t v0 d0 p0 := WideElems.Trod_stays hlo hrr hrow h0 (fun x hx => hB.same (hlt x hx)) (fun x hx => hs x (by simpa using hx))
    simpa using trodAll_cons_mk h1 trodAll_mk0
  · rw [hv0, List.append_nil, hsp]; exact rfl
end Go.Proofs.YtakdnpafdadblaaGreat.EV
namespace Go.Proofs.YtakdnpafdadblaaGreat.EV
open Go EV.W Go.ChangeShapes Go.WideShapes Go.ChangeAt Go.RowKit
theorem ownK : ownKnob Tryz.prog.godebug = none := by kernel_rfl
theorem wf0 : WF st0 := by constructor <;> simp [st0]
def wit34 : Value := .agg #[.int .i64 0, .int .i64 0, .int .u64 0, .int .u64 0, .int .u64 0, .int .u64 0, .int .i64 0, .slice none 0 0, .slice none 0 0, .slice none 0 0, .slice none 0 0, .slice none 0 0]
end Go.Proofs.YtakdnpafdadblaaGreat.EV
namespace Go.Proofs.YtakdnpafdadblaaGreat.EV
open Go
theorem band {a b : Bool} (h : a = true) (k : b = true) : (a && b) = true := by rw [h, k]; rfl
theorem jf_of {P : Program} {f : FuncId} {fn : Func} {s : ChangeSpec} {c : OpenClaim}
    (h0 : (c.wf (OpenSpec.ofChange s)) = true)
    (h1 : (laidOutB P) = true)
    (h2 : (mapsRowed P) = true)
    (h3 : (fn.params.all (P.readableRec ·)) = true)
    (h4 : (namedTie P c.named s.vars) = true)
    (h5 : ((c.stops == [])) = true)
    (h6 : ((P.stops == [])) = true)
    (h7 : ((c.knobs == [])) = true)
    (h8 : ((P.stopKnobs == [])) = true)
    (h9 : ((c.inPlace == P.inPlace f)) = true)
    (h10 : ((c.unfollowed == P.unfollowed f)) = true)
    (h11 : ((c.recurses == P.recurses f)) = true)
    (h12 : ((c.named == P.varsNamed f)) = true)
    (h13 : ((c.maps == (fn.params.toList ++ s.plain.varTypes P).any (P.mapsRec ·))) = true)
    (h14 : ((c.ifaces == (fn.params.toList ++ s.plain.varTypes P).any (P.ifacesRec ·))) = true)
    (h15 : ((c.mapsOut == P.mapsAmong fn.resultTypes.toList)) = true)
    (h16 : ((c.loops == (fn.params.toList ++ s.plain.varTypes P).any (P.loopsFrom ·))) = true)
    (h17 : ((c.wideKeys == (fn.params.toList ++ s.plain.varTypes P ++ fn.resultTypes.toList).any (P.wideKeysFrom ·))) = true)
    (h18 : (s.vars.all (P.varReadable ·)) = true)
    (h19 : (fn.resultTypes.all (fun t => P.readableRec t && decide (t < P.types.size))) = true)
    (h20 : ((c.ifacesOut == fn.resultTypes.toList.any (P.ifacesRec ·))) = true)
    (h21 : ((c.loopsOut == fn.resultTypes.toList.any (P.loopsFrom ·))) = true)
    (h22 : ((c.plainKeys == P.plainKeys)) = true)
    (h23 : (c.shortTexts.isNone) = true)
    (h24 : (P.stopsHeard) = true)
    (h25 : (P.mayEnter) = true)
    (h26 : ((c.lifted == P.liftsFinal)) = true)
    (h27 : ((P.make == some c.make)) = true)
    (h28 : ((c.kinds == (if c.domain.isEmpty then [] else fn.params.toList.map fun t => match P.underlying t with | some (.int k) => some k | _ => none))) = true)
    (h29 : ((c.pinned == c.pinnedBy)) = true)
    (h30 : ((c.veiled == (fn.params.toList ++ s.plain.varTypes P ++ fn.resultTypes.toList).any (P.veiledRec ·))) = true)
    (h31 : (c.veiledFits P fn.params.toList (fn.params.toList ++ s.plain.varTypes P ++ fn.resultTypes.toList)) = true) : joinedFacts P f fn s c = true := by
  unfold joinedFacts
  exact band (band (band (band (band (band (band (band (band (band (band (band (band (band (band (band (band (band (band (band (band (band (band (band (band (band (band (band (band (band (band (h0) h1) h2) h3) h4) h5) h6) h7) h8) h9) h10) h11) h12) h13) h14) h15) h16) h17) h18) h19) h20) h21) h22) h23) h24) h25) h26) h27) h28) h29) h30) h31
def jfS : List Char := ([104, 97, 114, 110, 101, 115, 115, 32, 100, 54, 53, 100, 53, 98, 56, 49, 101, 52, 101, 57, 51, 98, 49, 102, 57, 99, 99, 48, 50, 101, 48, 101, 51, 101, 97, 98, 53, 49, 100, 52, 53, 101, 97, 97, 49, 54, 55, 56, 56, 102, 52, 53, 49, 52, 56, 97, 50, 54, 100, 56, 48, 51, 56, 55, 53, 102, 98, 51, 56, 99, 50, 100, 32, 99, 117, 116, 32, 97, 116, 32, 116, 97, 114, 110, 47, 116, 97, 114, 110, 108, 97, 119, 49, 55, 46, 65, 100, 109, 105, 116, 69, 114, 114, 111, 114, 115, 32, 116, 97, 114, 110, 47, 116, 97, 114, 110, 108, 97, 119, 49, 55, 46, 65, 100, 109, 105, 116, 71, 97, 112, 32, 116, 97, 114, 110, 47, 116, 97, 114, 110, 108, 97, 119, 50, 52, 46, 66, 117, 105, 108, 100, 84, 101, 108, 108, 115, 32, 116, 97, 114, 110, 47, 116, 97, 114, 110, 108, 97, 119, 50, 52, 46, 66, 117, 105, 108, 100, 70, 114, 111, 110, 116, 115, 32, 116, 97, 114, 110, 47, 116, 97, 114, 110, 108, 97, 119, 50, 52, 46, 66, 117, 105, 108, 100, 79, 114, 100, 101, 114, 115, 32, 116, 97, 114, 110, 47, 116, 97, 114, 110, 108, 97, 119, 50, 52, 46, 66, 117, 105, 108, 100, 83, 107, 105, 112, 115, 32, 116, 97, 114, 110, 47, 116, 97, 114, 110, 108, 97, 119, 49, 54, 46, 80, 111, 111, 108, 66, 121, 116, 101, 115, 32, 116, 97, 114, 110, 47, 116, 97, 114, 110, 108, 97, 119, 49, 54, 46, 80, 111, 111, 108, 87, 114, 111, 110, 103, 115, 32, 116, 97, 114, 110, 47, 116, 97, 114, 110, 108, 97, 119, 49, 54, 46, 80, 111, 111, 108, 78, 101, 119, 115, 32, 116, 97, 114, 110, 47, 116, 97, 114, 110, 108, 97, 119, 49, 54, 46, 80, 111, 111, 108, 67, 104, 97, 105, 110, 115, 32, 116, 97, 114, 110, 47, 116, 97, 114, 110, 108, 97, 119, 49, 54, 46, 80, 111, 111, 108, 80, 117, 116, 115, 32, 116, 97, 114, 110, 47, 116, 97, 114, 110, 108, 97, 119, 49, 54, 46, 80, 111, 111, 108, 84, 101, 108, 108, 115, 32, 116, 97, 114, 110, 47, 116, 97, 114, 110, 108, 97, 119, 49, 54, 46, 80, 111, 111, 108, 70, 105, 110, 100, 115, 32, 116, 97, 114, 110, 47, 116, 97, 114, 110, 108, 97, 119, 49, 56, 46, 69, 118, 105, 99, 116, 78, 101, 120, 116, 115, 32, 116, 97, 114, 110, 47, 116, 97, 114, 110, 108, 97, 119, 49, 56, 46, 69, 118, 105, 99, 116, 68, 111, 119, 110, 115, 32, 116, 97, 114, 110, 47, 116, 97, 114, 110, 108, 97, 119, 49, 56, 46, 69, 118, 105, 99, 116, 76, 101, 97, 115, 116, 32, 116, 97, 114, 110, 47, 116, 97, 114, 110, 108, 97, 119, 49, 56, 46, 69, 118, 105, 99, 116, 84, 97, 105, 108, 115, 32, 116, 97, 114, 110, 47, 116, 97, 114, 110, 108, 97, 119, 49, 56, 46, 69, 118, 105, 99, 116, 68, 101, 97, 114, 32, 116, 97, 114, 110, 47, 116, 97, 114, 110, 108, 97, 119, 49, 57, 46, 65, 100, 100, 69, 120, 97, 99, 116, 32, 116, 97, 114, 110, 47, 116, 97, 114, 110, 108, 97, 119, 49, 57, 46, 65, 100, 100, 75, 101, 101, 112, 115, 32, 116, 97, 114, 110, 47, 116, 97, 114, 110, 108, 97, 119, 49, 57, 46, 65, 100, 100, 70, 117, 108, 108, 32, 116, 97, 114, 110, 47, 116, 97, 114, 110, 108, 97, 119, 49, 57, 46, 65, 100, 100, 82, 97, 119, 32, 116, 97, 114, 110, 47, 116, 97, 114, 110, 108, 97, 119, 49, 57, 46, 65, 100, 100, 82, 101, 112, 108, 97, 99, 101, 115, 32, 116, 97, 114, 110, 47, 116, 97, 114, 110, 108, 97, 119, 49, 57, 46, 65, 100, 100, 79, 114, 100, 101, 114, 115] : List Nat).map Char.ofNat
theorem jf_io : Tryz.prog.initOrder = String.ofList jfS := by kernel_rfl
theorem jf_ws : behindMainWord (wordsSigns Tryz.prog.initOrder.toList) = "cut".toList :: (wordsSigns jfS).drop 3 := by
  rw [jf_io, String.toList_ofList]
  kernel_rfl
theorem jf_bm : ∃ r, behindMainWord (wordsSigns Tryz.prog.initOrder.toList) = "cut".toList :: r := ⟨_, jf_ws⟩
theorem jf_lifts {P : Program} {r : List (List Char)} (h : behindMainWord (wordsSigns P.initOrder.toList) = "cut".toList :: r) : P.headLifts = [] ∧ P.liftsFinal = false ∧ P.make = some .cut := by
  have h1 : P.headLifts = [] := by
    unfold Program.headLifts
    rw [h]
    rfl
  refine ⟨h1, ?_, ?_⟩
  · unfold Program.liftsFinal
    simp only [h1, h]
    rfl
  · unfold Program.make
    rw [h]
    rfl
theorem jf_enter {P : Program} {r : List (List Char)} (h : behindMainWord (wordsSigns P.initOrder.toList) = "cut".toList :: r) (h1 : P.laysLater = false) (h2 : P.bearsReflect = false) (h3 : P.doorFits [] = true) : P.mayEnter = true := by
  unfold Program.mayEnter
  rw [h]
  have e1 : (stripLifts liftWords ("cut".toList :: r)).1 = [] := rfl
  have e2 : (stripLifts liftWords ("cut".toList :: r)).2 = "cut".toList :: r := rfl
  simp only [e1, e2, h1, h2, h3]
  rfl
theorem jf_lays : Tryz.prog.laysLater = false := by kernel_rfl
theorem jf_bears : Tryz.prog.bearsReflect = false := by kernel_rfl
theorem jf_door : Tryz.prog.doorFits [] = true := by kernel_rfl
theorem jf_heard : Tryz.prog.stopsHeard = true := by kernel_rfl
theorem jf_laid : laidOutB Tryz.prog = true := by kernel_rfl
theorem jf_mapsRowed : mapsRowed Tryz.prog = true := by kernel_rfl
theorem jf_plain : Tryz.prog.plainKeys = true := by kernel_rfl
end Go.Proofs.YtakdnpafdadblaaGreat.EV
namespace Go.Proofs.YtakdnpafdadblaaGreat.EV
open Go EV.W Go.ChangeShapes Go.WideShapes Go.ChangeAt Go.RowKit
set_option maxRecDepth 100000 in
theorem read34N {H : Type} {enc : TypeId × Value → H} {W : World} {base : Nat} {v : Value} {d : DataW H} {p : List MemPlace} (hv : Value.okWide Tryz.prog W .any base 34 v) (h : DataW.Trod enc Tryz.prog W 0 (fun _ => true) true 34 v d p) (hk : Rows.uptoBulk d ≤ 1048576) :
    ∃ cs : List Value, v = .agg cs.toArray ∧ cs.length = 12 ∧ VR mp0 v v ∧ ∃ av n c, (cs.drop 11).take 1 = [.slice av n c] ∧ n ≤ c ∧ c ≤ 1048576 := by
  have hv2 := hv
  unfold Value.okWide at hv2
  rw [Tryz.underlying34] at hv2
  obtain ⟨cs, rfl, hl, hrow⟩ := hv2
  have h12 : Tryz.prog.cellsOf 34 = 12 := by kernel_rfl
  have h1 : Tryz.prog.cellsOf 32 = 1 := by kernel_rfl
  have hts : Tryz.prog.cellTypes Tryz.prog.depth 34 = some [3, 3, 22, 22, 22, 22, 3, 27, 28, 29, 28, 32] := by kernel_rfl
  have hro := flat_row hts (by kernel_rfl) hrow
  obtain ⟨fuel, hf⟩ := h
  obtain ⟨n, y, hy, hb, hlen⟩ := field_trod (i := 2) Tryz.underlying34 rfl hf
  obtain ⟨av, n, c, e1, e2, e3⟩ := slice_trod Tryz.underlying32 hy
  have e1' : (cs.toList.drop 11).take (Tryz.prog.cellsOf 32) = [.slice av n c] := e1
  rw [h1] at e1'
  refine ⟨cs.toList, by simp, by rw [h12] at hlen; exact hlen, flat_vr hro _, av, n, c, e1', e2, Nat.le_trans e3 (Nat.le_trans hb hk)⟩
set_option maxRecDepth 100000 in
theorem err_contract (H : Type) (enc : TypeId × Value → H) (W : World) (base : Nat) (args : Array Value) (ds gs : List (DataW H)) (before : List MemPlace)
    (hval : ∀ (j : Nat) t v, Tryz.f3.params[j]? = some t → args[j]? = some v → Value.okWide Tryz.prog W .any base t v)
    (hW : DataW.Whole enc Tryz.prog Tryz.f3.params.toList Rows.admitErrorsSpec.vars false W args.toList ds gs before) (hk : Rows.uptoSmall H (ds ++ gs) = true) :
    Calls Tryz.prog 3 args W fun e W' => ∃ v, e = .returned v ∧ Rows.admitErrorsSpec.post enc Tryz.prog Tryz.f3 false true false false W args v W' := by
  refine contract1 (t := 34) (tb0 := 4) Tryz.params3 rfl Tryz.underlying4 jf_laid (by kernel_rfl) (of_decide_eq_true (by kernel_rfl)) rfl (fun _ _ => rfl) H enc W base args ds gs before (fun v d p hv h hb => ?_) hval hW hk
  obtain ⟨cs, rfl, hl, hvr, av, n, c, e1, e2, e3⟩ := read34N hv h hb
  obtain ⟨s', hs'⟩ := err_law (stdW W) cs av n c (by omega) e1 hl st0 wf0
  exact run_law (f := 3) rfl hvr hs'
set_option maxRecDepth 100000 in
theorem err_lifted (os : Os) (started : os.Started) (H : Type) (enc : TypeId × Value → H) (F : Stop.Interp) :
    ReturnsInHanded {} Tryz.checked os 3 .any ((Rows.OpenSpec.upto Rows.admitErrorsSpec).pre6 enc Tryz.prog Tryz.f3 Rows.admitErrorsUptoRow.domain false) (((Rows.OpenSpec.upto Rows.admitErrorsSpec).at F).post enc Tryz.prog Tryz.f3 false true false false) := by
  refine returnsInHanded_of_cond (C := Tryz.checked) (s := Rows.OpenSpec.upto Rows.admitErrorsSpec) (k := Rows.uptoSmall) rfl ownK started (by kernel_rfl) Tryz.func3
    (OpenSpec.witness (enc := enc) (C := Tryz.checked) (s := Rows.OpenSpec.upto Rows.admitErrorsSpec) (k := Rows.uptoSmall) rfl false ⟨#[], #[wit34], []⟩ 8 (by kernel_rfl) (by kernel_rfl) (by kernel_rfl)
      (x := ([.agg [.agg [.lit (.int .i64 0), .agg [.lit (.int .i64 0), .agg [.lit (.int .u64 0), .lit (.int .u64 0), .lit (.int .u64 0), .lit (.int .u64 0)], .lit (.int .i64 0)], .nil, .nil, .nil], .nil, .nil]], [], [])) (by kernel_rfl) rfl (by kernel_rfl)) ?_
  intro W base args ds gs before hval hW _ hk _
  exact err_contract H enc W base args ds gs before hval hW hk
theorem jf_rec3 {P : Program} {f : Nat} (h : P.unfollowed f = true) : P.recurses f = true := by
  unfold Program.recurses
  rw [h]
  rfl
theorem err_in : (Rows.admitErrorsUptoRow.inPlace == Tryz.prog.inPlace 3) = true := by kernel_rfl
theorem err_un : Tryz.prog.unfollowed 3 = true := by kernel_rfl
theorem err_vars : (Rows.admitErrorsUptoRow.named == Tryz.prog.varsNamed 3) = true := by kernel_rfl
theorem err_facts : joinedFacts Tryz.prog 3 Tryz.f3 (Rows.OpenSpec.upto Rows.admitErrorsSpec).bare Rows.admitErrorsUptoRow = true := by
  obtain ⟨r, hr⟩ := jf_bm
  obtain ⟨_, hl, hm⟩ := jf_lifts hr
  exact jf_of (by as_aux_lemma => kernel_rfl) jf_laid jf_mapsRowed (by as_aux_lemma => kernel_rfl) (by as_aux_lemma => kernel_rfl) (by as_aux_lemma => kernel_rfl) (by as_aux_lemma => kernel_rfl) (by as_aux_lemma => kernel_rfl) (by as_aux_lemma => kernel_rfl)
    err_in (by rw [err_un]; rfl) (by rw [jf_rec3 err_un]; rfl) err_vars (by as_aux_lemma => kernel_rfl) (by as_aux_lemma => kernel_rfl) (by as_aux_lemma => kernel_rfl)
    (by as_aux_lemma => kernel_rfl) (by as_aux_lemma => kernel_rfl) (by as_aux_lemma => kernel_rfl) (by as_aux_lemma => kernel_rfl) (by as_aux_lemma => kernel_rfl) (by as_aux_lemma => kernel_rfl)
    (by rw [jf_plain]; rfl) rfl jf_heard (jf_enter hr jf_lays jf_bears jf_door) (by rw [hl]; rfl) (by rw [hm]; rfl) (by as_aux_lemma => kernel_rfl) (by as_aux_lemma => kernel_rfl) (by as_aux_lemma => kernel_rfl) (by as_aux_lemma => kernel_rfl)
theorem err_over : Rows.admitErrorsUptoRow.holds Tryz.pinned (Rows.OpenSpec.upto Rows.admitErrorsSpec) :=
  OpenClaim.holds_of_cond 3 Tryz.f3 rfl rfl rfl rfl rfl rfl rfl ⟨rfl, rfl, rfl, rfl, rfl⟩ rfl rfl rfl rfl rfl (by as_aux_lemma => kernel_rfl) Tryz.func3 err_facts
    (of_decide_eq_true (by kernel_rfl)) (by unfold Func.isWrapper; first | (rw [if_pos (by decide +kernel)]; kernel_rfl) | (rw [if_neg (by decide +kernel)]; exact ⟨rfl, rfl⟩))
    (fun os started H enc _ F => err_lifted os started H enc F)
theorem admiterrors_upto : Rows.AdmitErrorsUptoSaid := err_over
end Go.Proofs.YtakdnpafdadblaaGreat.EV
