/-
  PROVED: 'tarnlaw17.AdmitErrors' returns true and leaves its argument as it was, where the argument is of bulk at most 1048576 (Rows.AdmitErrorsUptoSaid). Part 1 of 7.
-/
import GoSem.Dispatch
import Derived.RangeFuncRecord
import Derived.Deep.AppendSrc
import Derived.Laws.CopyRow
import Derived.Laws.MakeOwn
import Derived.Laws.BytesString
import Derived.OrdersIn
set_option linter.unusedSimpArgs false
set_option linter.unusedVariables false
set_option linter.unusedSectionVars false
namespace Go.Proofs.YtakdnpafdadblaaGreat.EV
open Go
abbrev Env := List (Nat × Value)
def lk : Env → Nat → Option Value
  | [], _ => none
  | (s, v) :: r, t => if s = t then some v else lk r t
def opd (e : Env) : Operand → Option Value
  | .tmp t => lk e t
  | .const v => some v
  | .func f => some (.func (.func f) #[] #[])
  | .global _ => none
def opds (e : Env) : List Operand → Option (List Value)
  | [] => some []
  | x :: r => match opd e x, opds e r with
    | some v, some vs => some (v :: vs)
    | _, _ => none
inductive P where
  | mv (x : Operand)
  | pick (c a b : Operand)
  | new (z : List Value)
  | box (x : Operand)
  | bld (z : List Value) (ps : List (Nat × Nat × Operand))
  | bldS (esz : Nat) (z : List Value) (len : Nat) (ps : List (Nat × Operand))
  | ld (n : Option Nat) (a : Operand) (ap : List Operand)
  | st (n : Nat) (a x : Operand) (ap : List Operand)
  | bin (op : BinOp) (x y : Operand)
  | eqa (neg : Bool) (n : Nat) (x y : Operand)
  | eqn (fk neg : Bool) (x y : Operand)
  | not (x : Operand)
  | inv (x : Operand)
  | cvi (k : IntKind) (x : Operand)
  | cvs (x : Operand)
  | nck (x : Operand)
  | mkf (fn : Nat) (caps : List Operand)
  | mks (esz : Nat) (z : List Value) (len cap : Operand)
  | sli (esz : Nat) (x : Operand) (lo hi mx : Option Operand)
  | sls (x : Operand) (lo hi : Option Operand)
  | sla (n esz : Nat) (x : Operand) (lo hi : Option Operand)
  | fa (off : Nat) (x : Operand)
  | fld (off : Nat) (n : Option Nat) (x : Operand)
  | ia (esz : Nat) (x i : Operand)
  | iaa (n esz : Nat) (x i : Operand)
  | ix (m esz : Nat) (n : Option Nat) (x i : Operand)
  | ixs (x i : Operand)
  | ex (x : Operand) (i : Nat)
  | cal (f : Nat) (as : List Operand) (q : Bool) (pr : List Operand)
  | clv (f : Operand) (as : List Operand) (q : Bool) (pr : List Operand)
  | ext (nm : Nat) (as : List Operand)
  | len (x : Operand)
  | lens (x : Operand)
  | lena (n : Nat)
  | app (esz : Nat) (x y : Operand) (ap : List Operand)
  | apps (x y : Operand)
  | cpy (esz : Nat) (x y : Operand)
  | mnx (mx : Bool) (as : List Operand)
  | clr (esz : Nat) (z : List Value) (x : Operand)
  | bad
structure I where
  d : Option Nat
  p : P
  g : Option (Nat × Bool)
inductive C where
  | nop
  | reg (ops : List I) (live : List Nat)
  | seq (a b : C)
  | cnd (c : Operand) (a b : C)
  | blk (id : Nat) (b : C)
  | lop (b : C)
  | rf (f : Operand) (ps : List Nat) (asg body : C)
  | exi (id : Nat)
  | ret
inductive Out where
  | nrm
  | exi (id : Nat)
  | ret
def Out.isNrm : Out → Bool
  | .nrm => true
  | _ => false
inductive LS where
  | ready | busy | done
structure Rec where
  env : Env
  ps : List Nat
  asg : C
  body : C
  st : LS
  pend : Out
structure St where
  n : Nat
  rows : List (Option (List Value))
  fl : Nat
  pr : List Nat
  nl : Nat
  lps : List (Nat × Rec)
  lf : Nat
def own (k o : Nat) : Addr := ⟨k, o, some 0⟩
def St.get (s : St) (k : Nat) : Option (List Value) := if k < s.n then (s.rows[s.n - 1 - k]?).bind id else none
def St.put (s : St) (k : Nat) (r : Option (List Value)) : St := { s with rows := s.rows.set (s.n - 1 - k) r }
def St.push (s : St) (r : List Value) : St := { s with n := s.n + 1, rows := some r :: s.rows }
def St.may (s : St) (k : Nat) : Bool := s.fl ≤ k && !s.pr.contains k
def cells : Value → List Value
  | .agg cs => cs.toList
  | v => [v]
def cut (r : List Value) (o n : Nat) : Option (List Value) := if o + n ≤ r.length then some ((r.drop o).take n) else none
def splice (r : List Value) (o : Nat) (x : List Value) : List Value := r.take o ++ (x ++ r.drop (o + x.length))
def mkAgg (n : Option Nat) (l : List Value) : Option Value :=
  match n, l with
  | some _, l => some (.agg l.toArray)
  | none, [v] => some v
  | none, _ => none
def plainT : Value → Bool
  | .tuple _ => false
  | _ => true
def shift (a : Addr) (n : Nat) : Addr := { a with off := a.off + n }
def rowOf (e : Env) (x : Operand) : Option (List Nat) :=
  match opd e x with
  | some (.pointer (some b)) => some (if b.spot.isSome then [b.block] else [])
  | some (.slice (some b) _ _) => some (if b.spot.isSome then [b.block] else [])
  | some (.slice none _ _) => some []
  | _ => none
def rowsOf (e : Env) : List Operand → Option (List Nat)
  | [] => some []
  | x :: r => match rowOf e x, rowsOf e r with
    | some a, some l => some (a ++ l)
    | _, _ => none
def apart (e : Env) (x : Operand) (ap : List Operand) : Bool :=
  match ap with
  | [] => true
  | _ => match rowOf e x, rowsOf e ap with
    | some a, some l => a.all fun k => !l.contains k
    | _, _ => false
def wr (s : St) (a : Addr) (x : List Value) : Option St :=
  match x with
  | [] => some s
  | _ :: _ => match a.spot with
    | none => none
    | some _ => if s.may a.block then
        match s.get a.block with
        | some r => if a.off + x.length ≤ r.length then some (s.put a.block (some (splice r a.off x))) else none
        | none => none
      else none
def intBin (op : BinOp) (k : IntKind) (x y : Int) : Option Value :=
  match op with
  | .add => some (.int k (k.wrap (x + y)))
  | .sub => some (.int k (k.wrap (x - y)))
  | .mul => some (.int k (k.wrap (x * y)))
  | .quo => if y = 0 then none else some (.int k (k.wrap (x.tdiv y)))
  | .rem => if y = 0 then none else some (.int k (x.tmod y))
  | .and => some (.int k (k.wrap (BitVec.ofInt k.bits x &&& BitVec.ofInt k.bits y).toNat))
  | .or => some (.int k (k.wrap (BitVec.ofInt k.bits x ||| BitVec.ofInt k.bits y).toNat))
  | .xor => some (.int k (k.wrap (BitVec.ofInt k.bits x ^^^ BitVec.ofInt k.bits y).toNat))
  | .eql => some (.bool (x == y))
  | .neq => some (.bool (x != y))
  | .lss => some (.bool (decide (x < y)))
  | .leq => some (.bool (decide (x ≤ y)))
  | .gtr => some (.bool (decide (x > y)))
  | .geq => some (.bool (decide (x ≥ y)))
  | _ => none
def strBin (op : BinOp) (a b : ByteArray) : Option Value :=
  match op with
  | .add => if a.size + b.size ≤ 4611686018427387904 then some (.string (a ++ b)) else none
  | .eql => some (.bool (a.toList == b.toList))
  | .neq => some (.bool !(a.toList == b.toList))
  | .lss => some (.bool (Op.bytesLess a.toList b.toList))
  | .leq => some (.bool (Op.bytesLess a.toList b.toList || a.toList == b.toList))
  | .gtr => some (.bool !(Op.bytesLess a.toList b.toList || a.toList == b.toList))
  | .geq => some (.bool !(Op.bytesLess a.toList b.toList))
  | _ => none
def binV (op : BinOp) (x y : Value) : Option Value :=
  match x, y with
  | .int k a, .int k' b =>
    match op with
    | .shl => if b < 0 then none else some (.int k (k.wrap (a * 2 ^ (min b.toNat k.bits))))
    | .shr => if b < 0 then none else some (.int k (a.fdiv (2 ^ (min b.toNat k.bits))))
    | _ => if k = k' then intBin op k a b else none
  | .string a, .string b => strBin op a b
  | _, _ => none
def eqCells : List Value → List Value → Option Bool
  | [], [] => some true
  | .int k a :: l, .int k' b :: m => if k = k' then (match eqCells l m with | some r => some (a == b && r) | none => none) else none
  | _, _ => none
def isNil (fk : Bool) : Value → Option Bool
  | .slice a _ _ => if fk then none else some a.isNone
  | .nilFunc => if fk then some true else none
  | .func .. => if fk then some false else none
  | _ => none
def nt (neg b : Bool) : Bool := if neg then !b else b
def idx (v : Option Value) (d : Nat) : Option Nat :=
  match v with
  | none => some d
  | some (.int _ n) => if 0 ≤ n then some n.toNat else none
  | some _ => none
def optOpd (e : Env) : Option Operand → Option (Option Value)
  | none => some none
  | some x => match opd e x with
    | some v => some (some v)
    | none => none
def roS (a : Option Addr) : Bool :=
  match a with
  | some b => b.spot.isNone
  | none => true
def sliOk (a : Option Addr) (h c esz : Nat) : Bool := if roS a then decide (h ≤ c) else c == esz || c == 0
def sliAdr (c l esz : Nat) (b : Addr) : Addr := if b.spot.isNone ∧ c = l then b else shift b (l * esz)
def sliCap (a : Option Addr) (c l : Nat) : Nat := if roS a then c - l else c
def fillP (e : Env) : List Value → List (Nat × Nat × Operand) → Option (List Value)
  | z, [] => some z
  | z, (off, sz, x) :: r => match opd e x with
    | some v => if (cells v).length = sz ∧ plainT v = true ∧ off + sz ≤ z.length then fillP e (splice z off (cells v)) r else none
    | none => none
def rep (z : List Value) : Nat → List Value
  | 0 => []
  | n + 1 => z ++ rep z n
def bytesOf : List Value → Option (List UInt8)
  | [] => some []
  | .int .u8 n :: r => match bytesOf r with
    | some l => some (UInt8.ofNat n.toNat :: l)
    | none => none
  | _ :: _ => none
def cleanA (n : Nat) : Option Addr → Bool
  | some a => match a.spot with
    | some _ => decide (a.block < n)
    | none => true
  | none => true
def clean0 (n : Nat) : Value → Bool
  | .pointer a => cleanA n a
  | .slice a _ _ => cleanA n a
  | .func .. => false
  | .agg _ => false
  | .tuple _ => false
  | _ => true
def clean1 (n : Nat) : Value → Bool
  | .agg cs => cs.toList.all (clean0 n)
  | v => clean0 n v
def clean (n : Nat) : Value → Bool
  | .tuple vs => vs.toList.all (clean1 n)
  | v => clean1 n v
def two (a b : Value) : Value := .tuple #[a, b]
def add64 : List Value → Option Value
  | [.int .u64 x, .int .u64 y, .int .u64 c] =>
    if c.toNat ≤ 1 then some (two (.int .u64 (Int.ofNat ((x.toNat + y.toNat + c.toNat) % 2 ^ 64))) (.int .u64 (Int.ofNat ((x.toNat + y.toNat + c.toNat) / 2 ^ 64)))) else none
  | _ => none
def sub64 : List Value → Option Value
  | [.int .u64 x, .int .u64 y, .int .u64 c] =>
    if c.toNat ≤ 1 then some (two (.int .u64 (Int.ofNat ((x.toNat + 2 ^ 64 - y.toNat - c.toNat) % 2 ^ 64))) (.int .u64 (Int.ofNat (if x.toNat < y.toNat + c.toNat then 1 else 0)))) else none
  | _ => none
def minmax (mx : Bool) : Int → List Value → Option Int
  | x, [] => some x
  | x, .int _ y :: r => minmax mx (if mx then (if y > x then y else x) else (if y < x then y else x)) r
  | _, _ => none
abbrev H := Value → List Value → St → Option (Value × St)
def quiet (K : H) (f : Value) (as : List Value) (s : St) : Option (Value × St) :=
  match K f as { s with fl := s.n, lf := s.nl } with
  | some (v, s') => if clean s.n v then some (v, s) else some (v, { s' with fl := s.fl, lf := s.lf })
  | none => none
def prot (K : H) (f : Value) (as : List Value) (pr : Option (List Nat)) (s : St) : Option (Value × St) :=
  match pr with
  | none => none
  | some [] => K f as s
  | some l => match K f as { s with pr := l ++ s.pr } with
    | some (v, s') => some (v, { s' with pr := s.pr })
    | none => none
def callK (K : H) (f : Value) (as : List Value) (q : Bool) (pr : Option (List Nat)) (s : St) : Option (Value × St) :=
  if q then quiet K f as s else prot K f as pr s
def appendTo (s : St) (esz : Nat) (a : Option Addr) (n c : Nat) (new : List Value) (k : Nat) : Option (Value × St) :=
  if 4294967296 < n + k ∨ 1024 < esz then none else
  if k = 0 then (if roS a = true ∧ c < n then none else some (.slice a n c, s)) else
  if n = 0 ∧ c = 0 then some (.slice (some (own s.n 0)) k esz, s.push new) else
  match a with
  | none => none
  | some b => match b.spot with
    | none => none
    | some _ => if s.may b.block ∧ c = esz then
        match s.get b.block with
        | some r => match cut r b.off (n * esz) with
          | some old => some (.slice (some (own s.n 0)) (n + k) esz, (s.put b.block none).push (old ++ new))
          | none => none
        | none => none
      else none
section
variable (ro : Addr → Option Value)
def roCells (a : Addr) : Nat → Nat → Option (List Value)
  | 0, _ => some []
  | n + 1, i => match ro (a.add i), roCells a n (i + 1) with
    | some v, some vs => some (v :: vs)
    | _, _ => none
def rdAt (s : St) (a : Addr) (n : Nat) : Option (List Value) :=
  match a.spot with
  | some _ => match s.get a.block with
    | some r => cut r a.off n
    | none => none
  | none => roCells ro a n 0
def rdSl (s : St) (a : Option Addr) (n : Nat) : Option (List Value) :=
  match a with
  | none => if n = 0 then some [] else none
  | some b => rdAt ro s b n
def ret (v : Value) (s : St) : Option (Value × St) := some (v, s)
def op1 (K : H) (p : P) (e : Env) (s : St) : Option (Value × St) :=
  match p with
  | .mv x => match opd e x with
    | some v => ret v s
    | none => none
  | .pick c a b => match opd e c with
    | some (.bool t) => match opd e (if t then a else b) with
      | some v => ret v s
      | none => none
    | _ => none
  | .new z => ret (.pointer (some (own s.n 0))) (s.push z)
  | .box x => match opd e x with
    | some v => if plainT v then ret (.pointer (some (own s.n 0))) (s.push (cells v)) else none
    | none => none
  | .bld z ps => match fillP e z ps with
    | some cs => ret (.agg cs.toArray) s
    | none => none
  | .bldS esz z len ps => match fillP e (rep z len) (ps.map fun x => (x.1 * esz, esz, x.2)) with
    | some cs => ret (.slice (some (own s.n 0)) len esz) (s.push cs)
    | none => none
  | .ld n a ap => match opd e a with
    | some (.pointer (some b)) => if apart e a ap then (match rdAt ro s b (n.getD 1) with
      | some l => match mkAgg n l with
        | some v => ret v s
        | none => none
      | none => none) else none
    | _ => none
  | .st n a x ap => match opd e a, opd e x with
    | some (.pointer (some b)), some v => if (cells v).length = n ∧ plainT v = true ∧ apart e a ap = true then (match wr s b (cells v) with
      | some s' => ret (.tuple #[]) s'
      | none => none) else none
    | _, _ => none
  | .bin op x y => match opd e x, opd e y with
    | some a, some b => match binV op a b with
      | some v => ret v s
      | none => none
    | _, _ => none
  | .eqa neg n x y => match opd e x, opd e y with
    | some (.agg a), some (.agg b) => if a.size = n ∧ b.size = n then (match eqCells a.toList b.toList with
      | some r => ret (.bool (nt neg r)) s
      | none => none) else none
    | _, _ => none
  | .eqn fk neg x y => match opd e x, opd e y with
    | some a, some b => match isNil fk a, isNil fk b with
      | some p, some q => if p || q then ret (.bool (nt neg (p && q))) s else none
      | _, _ => none
    | _, _ => none
  | .not x => match opd e x with
    | some (.bool b) => ret (.bool (!b)) s
    | _ => none
  | .inv x => match opd e x with
    | some (.int k n) => match intBin .xor k (if k.signed then -1 else k.max) n with
      | some v => ret v s
      | none => none
    | _ => none
  | .cvi k x => match opd e x with
    | some (.int _ n) => ret (.int k (k.wrap n)) s
    | _ => none
  | .cvs x => match opd e x with
    | some (.slice a n _) => match rdSl ro s a n with
      | some l => match bytesOf l with
        | some bs => ret (.string ⟨bs.toArray⟩) s
        | none => none
      | none => none
    | _ => none
  | .nck x => match opd e x with
    | some (.pointer (some a)) => ret (.pointer (some a)) s
    | some (.func (.func f) a b) => ret (.func (.func f) a b) s
    | some (.func (.yield f) a b) => ret (.func (.yield f) a b) s
    | _ => none
  | .mkf f caps => match opds e caps with
    | some vs => ret (.func (.func f) #[] vs.toArray) s
    | none => none
  | .mks esz z len cap => match opd e len, opd e cap with
    | some (.int _ n), some (.int _ c) => if 0 ≤ n ∧ n = c ∧ n ≤ 4294967296 ∧ esz ≤ 1024 then ret (.slice (some (own s.n 0)) n.toNat esz) (s.push (rep z n.toNat)) else none
    | _, _ => none
  | .sli esz x lo hi mx => match opd e x, optOpd e lo, optOpd e hi, optOpd e mx with
    | some (.slice a n c), some l, some h, some m =>
      match idx h n, idx l 0 with
      | some h', some l' => match m with
        | none => if l' ≤ h' ∧ h' ≤ n ∧ sliOk a h' c esz = true then ret (.slice (a.map (sliAdr c l' esz)) (h' - l') (sliCap a c l')) s else none
        | some (.int _ m') => if l' = 0 ∧ h' = 0 ∧ m' = 0 ∧ h.isSome then ret (.slice a 0 0) s else none
        | some _ => none
      | _, _ => none
    | _, _, _, _ => none
  | .sls x lo hi => match opd e x, optOpd e lo, optOpd e hi with
    | some (.string b), some l, some h => match idx h b.size, idx l 0 with
      | some h', some l' => if l' ≤ h' ∧ h' ≤ b.size then ret (.string (b.extract l' h')) s else none
      | _, _ => none
    | _, _, _ => none
  | .sla n esz x lo hi => match opd e x, optOpd e lo, optOpd e hi with
    | some (.pointer (some a)), some l, some h => match idx h n, idx l 0 with
      | some h', some l' => if l' ≤ h' ∧ h' ≤ n then (match a.spot, s.get a.block with
        | some _, some r => if a.off + n * esz ≤ r.length then ret (.slice (some (shift a (l' * esz))) (h' - l') esz) s else none
        | _, _ => none) else none
      | _, _ => none
    | _, _, _ => none
  | .fa off x => match opd e x with
    | some (.pointer (some a)) => ret (.pointer (some (shift a off))) s
    | _ => none
  | .fld off n x => match opd e x with
    | some (.agg cs) => match cut cs.toList off (n.getD 1) with
      | some l => match mkAgg n l with
        | some v => ret v s
        | none => none
      | none => none
    | _ => none
  | .ia esz x i => match opd e x, opd e i with
    | some (.slice (some a) n _), some (.int _ k) => if 0 ≤ k ∧ k < n then ret (.pointer (some (shift a (k.toNat * esz)))) s else none
    | _, _ => none
  | .iaa n esz x i => match opd e x, opd e i with
    | some (.pointer (some a)), some (.int _ k) => if 0 ≤ k ∧ k < n then ret (.pointer (some (shift a (k.toNat * esz)))) s else none
    | _, _ => none
  | .ix m esz n x i => match opd e x, opd e i with
    | some (.agg cs), some (.int _ k) => if 0 ≤ k ∧ k < m then (match cut cs.toList (k.toNat * esz) (n.getD 1) with
      | some l => match mkAgg n l with
        | some v => ret v s
        | none => none
      | none => none) else none
    | _, _ => none
  | .ixs x i => match opd e x, opd e i with
    | some (.string b), some (.int _ k) => if 0 ≤ k then (match b[k.toNat]? with
      | some c => ret (.int .u8 c.toNat) s
      | none => none) else none
    | _, _ => none
  | .ex x i => match opd e x with
    | some (.tuple vs) => match vs.toList[i]? with
      | some v => ret v s
      | none => none
    | _ => none
  | .cal f as q pr => match opds e as with
    | some vs => callK K (.func (.func f) #[] #[]) vs q (rowsOf e pr) s
    | none => none
  | .clv f as q pr => match opd e f, opds e as with
    | some v, some vs => callK K v vs q (rowsOf e pr) s
    | _, _ => none
  | .ext nm as => match opds e as with
    | some vs => match (if nm = 0 then add64 vs else sub64 vs) with
      | some v => ret v s
      | none => none
    | none => none
  | .len x => match opd e x with
    | some (.slice _ n _) => ret (.int .i64 n) s
    | _ => none
  | .lens x => match opd e x with
    | some (.string b) => ret (.int .i64 b.size) s
    | _ => none
  | .lena n => ret (.int .i64 n) s
  | .app esz x y ap => match opd e x, opd e y with
    | some (.slice a n c), some (.slice b k _) => if apart e x ap then (match rdSl ro s b (k * esz) with
      | some new => appendTo s esz a n c new k
      | none => none) else none
    | _, _ => none
  | .apps x y => match opd e x, opd e y with
    | some (.slice a n c), some (.string b) => appendTo s 1 a n c (b.data.toList.map fun u => .int .u8 u.toNat) b.size
    | _, _ => none
  | .cpy esz x y => match opd e x, opd e y with
    | some (.slice (some a) n _), some (.slice b k _) => match rdSl ro s b (min k n * esz) with
      | some l => match wr s a l with
        | some s' => ret (.int .i64 (min k n : Nat)) s'
        | none => none
      | none => none
    | some (.slice none n _), some (.slice _ _ _) => if n = 0 then ret (.int .i64 0) s else none
    | _, _ => none
  | .mnx mx as => match opds e as with
    | some (.int k x :: r) => match minmax mx x r with
      | some m => ret (.int k m) s
      | none => none
    | _ => none
  | .clr _ z x => match opd e x with
    | some (.slice a n _) => if n = 0 then ret (.tuple #[]) s else
      match a with
      | none => none
      | some b => match wr s b (rep z n) with
        | some s' => ret (.tuple #[]) s'
        | none => none
    | _ => none
  | .bad => none
def guardOn (e : Env) : Option (Nat × Bool) → Option Bool
  | none => some true
  | some (j, b) => match lk e j with
    | some (.bool c) => some (c == b)
    | some _ => some false
    | none => none
def setD (d : Option Nat) (v : Value) (e : Env) : Env :=
  match d with
  | some d => (d, v) :: e
  | none => e
def step (K : H) (i : I) (e : Env) (s : St) : Option (Env × St) :=
  match guardOn e i.g with
  | some true => match op1 ro K i.p e s with
    | some (v, s') => some (setD i.d v e, s')
    | none => none
  | some false => some (setD i.d (.tuple #[]) e, s)
  | none => none
def ops (K : H) : List I → Env → St → Option (Env × St)
  | [], e, s => some (e, s)
  | i :: r, e, s => match step ro K i e s with
    | some (e', s') => ops K r e' s'
    | none => none
def keep (e : Env) : List Nat → Env
  | [] => []
  | t :: r => match lk e t with
    | some v => (t, v) :: keep e r
    | none => keep e r
def loopN (f : Env → St → Option (Out × Env × St)) : Nat → Env → St → Option (Out × Env × St)
  | 0, _, _ => none
  | m + 1, e, s => match f e s with
    | some (.nrm, e', s') => loopN f m e' s'
    | r => r
def newLoop (e : Env) (ps : List Nat) (asg body : C) (s : St) : St :=
  { s with nl := s.nl + 1, lps := (s.nl, { env := e, ps, asg, body, st := .ready, pend := .nrm }) :: s.lps }
def lget : List (Nat × Rec) → Nat → Option Rec
  | [], _ => none
  | (k, r) :: l, n => if k = n then some r else lget l n
def lset : List (Nat × Rec) → Nat → Rec → List (Nat × Rec)
  | [], _, _ => []
  | (k, r) :: l, n, x => if k = n then (k, x) :: l else (k, r) :: lset l n x
def ldel : List (Nat × Rec) → Nat → List (Nat × Rec)
  | [], _ => []
  | (k, r) :: l, n => if k = n then ldel l n else (k, r) :: ldel l n
def endLoop (l : Nat) (e : Env) (s : St) : Option (Out × Env × St) :=
  match lget s.lps l with
  | some r => match r.st with
    | .busy => none
    | _ => some (r.pend, e, { s with lps := ldel s.lps l })
  | none => none
def code (K : H) (m : Nat) : C → Env → St → Option (Out × Env × St)
  | .nop, e, s => some (.nrm, e, s)
  | .reg l live, e, s => match ops ro K l e s with
    | some (e', s') => some (.nrm, keep e' live, s')
    | none => none
  | .seq a b, e, s => match code K m a e s with
    | some (.nrm, e', s') => code K m b e' s'
    | r => r
  | .cnd c a b, e, s => match opd e c with
    | some (.bool true) => code K m a e s
    | some (.bool false) => code K m b e s
    | _ => none
  | .blk id b, e, s => match code K m b e s with
    | some (.exi i, e', s') => if i = id then some (.nrm, e', s') else some (.exi i, e', s')
    | r => r
  | .lop b, e, s => loopN (fun e s => code K m b e s) m e s
  | .rf f ps asg body, e, s => match opd e f with
    | some (.func (.func g) fs cs) => match K (.func (.func g) fs cs) [.func (.yield s.nl) #[] #[]] (newLoop e ps asg body s) with
      | some (_, s') => endLoop s.nl e s'
      | none => none
    | _ => none
  | .exi id, e, s => some (.exi id, e, s)
  | .ret, e, s => some (.ret, e, s)
inductive Res where
  | tmp (t : Nat)
  | cell (t : Nat) (n : Option Nat)
structure FD where
  np : Nat
  body : C
  res : List Res
def params : Nat → List Value → Env
  | _, [] => []
  | i, v :: r => (i, v) :: params (i + 1) r
def result (e : Env) (s : St) : Res → Option Value
  | .tmp t => lk e t
  | .cell t n => match lk e t with
    | some (.pointer (some a)) => match rdAt ro s a (n.getD 1) with
      | some l => mkAgg n l
      | none => none
    | _ => none
def results (e : Env) (s : St) : List Res → Option (List Value)
  | [] => some []
  | x :: r => match result ro e s x, results e s r with
    | some v, some vs => some (v :: vs)
    | _, _ => none
def pack : List Value → Value
  | [v] => v
  | vs => .tuple vs.toArray
def setAll (e : Env) : List Nat → List Value → Option Env
  | [], [] => some e
  | t :: ts, v :: vs => setAll ((t, v) :: e) ts vs
  | _, _ => none
def body (K : H) (m : Nat) (fd : FD) (as : List Value) (s : St) : Option (Value × St) :=
  if as.length = fd.np then
    match code ro K m fd.body (params 0 as) s with
    | some (.exi _, _, _) => none
    | some (_, e, s') => match results ro e s' fd.res with
      | some vs => some (pack vs, s')
      | none => none
    | none => none
  else none
def round2 (K : H) (m : Nat) (l : Nat) (r : Rec) (e : Env) (s : St) : Option (Value × St) :=
  match lget s.lps l with
  | some r1 => match r1.st with
    | .ready => match code ro K m r.body e { s with lps := lset s.lps l { r1 with st := .busy } } with
      | some (o, _, s2) => match lget s2.lps l with
        | some r2 => some (.bool o.isNrm, { s2 with lps := lset s2.lps l { r2 with st := if o.isNrm then .ready else .done, pend := o } })
        | none => none
      | none => none
    | _ => none
  | none => none
def round (K : H) (m : Nat) (l : Nat) (as : List Value) (s : St) : Option (Value × St) :=
  if l < s.lf then none else
  match lget s.lps l with
  | some r => match r.st with
    | .ready => match setAll r.env r.ps as with
      | some e0 => match code ro K m r.asg e0 s with
        | some (.nrm, e1, s1) => round2 ro K m l r e1 s1
        | _ => none
      | none => none
    | _ => none
  | none => none
abbrev Orc := Nat → Option (List Value → St → Option (Value × St))
def run (tab : Nat → Option FD) (orc : Orc) : Nat → H
  | 0, _, _, _ => none
  | d + 1, f, as, s => match f with
    | .func (.func f) first capt => match orc f with
      | some o => o (first.toList ++ as ++ capt.toList) s
      | none => match tab f with
        | some fd => body ro (run tab orc d) d fd (first.toList ++ as ++ capt.toList) s
        | none => none
    | .func (.yield l) _ _ => round ro (run tab orc d) d l as s
    | _ => none
end
end Go.Proofs.YtakdnpafdadblaaGreat.EV
namespace Go.Proofs.YtakdnpafdadblaaGreat.EV
open Go
structure Mp where
  r : Nat → Option (Nat × Nat × Nat)
  l : Nat → Option Nat
inductive VR (m : Mp) : Value → Value → Prop
  | bool (b : Bool) : VR m (.bool b) (.bool b)
  | int (k : IntKind) (n : Int) : VR m (.int k n) (.int k n)
  | str (s : ByteArray) : VR m (.string s) (.string s)
  | ptrN : VR m (.pointer none) (.pointer none)
  | ptrO (k o b f t : Nat) (h : m.r k = some (b, f, t)) : VR m (.pointer (some (own k o))) (.pointer (some ⟨b, f + o, none⟩))
  | ptrR (b o : Nat) : VR m (.pointer (some ⟨b, o, none⟩)) (.pointer (some ⟨b, o, none⟩))
  | slN : VR m (.slice none 0 0) (.slice none 0 0)
  | slR (b o n c : Nat) : VR m (.slice (some ⟨b, o, none⟩) n c) (.slice (some ⟨b, o, none⟩) n c)
  | slO (k o n c : Nat) (a' : Addr) (c' : Nat) (h1 : n ≤ c') (h2 : c = 0 → c' = 0)
      (b f t : Nat) (h3 : m.r k = some (b, f, t)) (h4 : 0 < c' → a' = ⟨b, f + o, none⟩ ∧ f + o + c' * c ≤ t) : VR m (.slice (some (own k o)) n c) (.slice (some a') n c')
  | fnN : VR m .nilFunc .nilFunc
  | yl (l l' : Nat) (h : m.l l = some l') : VR m (.func (.yield l) #[] #[]) (.func (.yield l') #[] #[])
  | fn (f : Nat) (c c' : Array Value) (h : c.toList.length = c'.toList.length) (h2 : ∀ (i : Nat) (v v' : Value), c.toList[i]? = some v → c'.toList[i]? = some v' → VR m v v') : VR m (.func (.func f) #[] c) (.func (.func f) #[] c')
  | agg (c c' : Array Value) (h : c.toList.length = c'.toList.length) (h2 : ∀ (i : Nat) (v v' : Value), c.toList[i]? = some v → c'.toList[i]? = some v' → VR m v v') (h3 : ∀ v ∈ c.toList, v.oneCell' = true) : VR m (.agg c) (.agg c')
  | tup (c c' : Array Value) (h : c.toList.length = c'.toList.length) (h2 : ∀ (i : Nat) (v v' : Value), c.toList[i]? = some v → c'.toList[i]? = some v' → VR m v v') : VR m (.tuple c) (.tuple c')
def VRs (m : Mp) (l l' : List Value) : Prop := l.length = l'.length ∧ ∀ (i : Nat) (v v' : Value), l[i]? = some v → l'[i]? = some v' → VR m v v'
theorem VRs.nil (m : Mp) : VRs m [] [] := ⟨rfl, fun i v v' h _ => by simp at h⟩
theorem VRs.cons {m : Mp} {a a' : Value} {l l' : List Value} (h : VR m a a') (hs : VRs m l l') : VRs m (a :: l) (a' :: l') := by
  refine ⟨by simp [hs.1], fun i v v' hv hv' => ?_⟩
  cases i with
  | zero => simp at hv hv'; subst hv; subst hv'; exact h
  | succ i => simp at hv hv'; exact hs.2 i v v' hv hv'
theorem VRs.head {m : Mp} {a a' : Value} {l l' : List Value} (h : VRs m (a :: l) (a' :: l')) : VR m a a' := h.2 0 a a' (by simp) (by simp)
theorem VRs.tail {m : Mp} {a a' : Value} {l l' : List Value} (h : VRs m (a :: l) (a' :: l')) : VRs m l l' :=
  ⟨by have := h.1; simpa using this, fun i v v' hv hv' => h.2 (i + 1) v v' (by simpa using hv) (by simpa using hv')⟩
theorem VRs.inv_nil {m : Mp} {l' : List Value} (h : VRs m [] l') : l' = [] := List.eq_nil_of_length_eq_zero h.1.symm
theorem VRs.inv_cons {m : Mp} {a : Value} {l l' : List Value} (h : VRs m (a :: l) l') : ∃ a' r', l' = a' :: r' ∧ VR m a a' ∧ VRs m l r' := by
  cases l' with
  | nil => have := h.1; simp at this
  | cons a' r' => exact ⟨a', r', rfl, h.head, h.tail⟩
theorem VRs.append {m : Mp} {a a' b b' : List Value} (h : VRs m a a') (k : VRs m b b') : VRs m (a ++ b) (a' ++ b') := by
  refine ⟨by simp [h.1, k.1], fun i v v' hv hv' => ?_⟩
  rw [List.getElem?_append] at hv hv'
  by_cases hi : i < a.length
  · rw [if_pos hi] at hv; rw [if_pos (by rw [← h.1]; exact hi)] at hv'
    exact h.2 i v v' hv hv'
  · rw [if_neg hi] at hv; rw [if_neg (by rw [← h.1]; exact hi)] at hv'
    rw [← h.1] at hv'
    exact k.2 _ v v' hv hv'
theorem VRs.take {m : Mp} {a a' : List Value} (h : VRs m a a') (n : Nat) : VRs m (a.take n) (a'.take n) := by
  refine ⟨by simp [h.1], fun i v v' hv hv' => ?_⟩
  rw [List.getElem?_take] at hv hv'
  by_cases hi : i < n
  · rw [if_pos hi] at hv hv'; exact h.2 i v v' hv hv'
  · rw [if_neg hi] at hv; cases hv
theorem VRs.drop {m : Mp} {a a' : List Value} (h : VRs m a a') (n : Nat) : VRs m (a.drop n) (a'.drop n) := by
  refine ⟨by simp [h.1], fun i v v' hv hv' => ?_⟩
  rw [List.getElem?_drop] at hv hv'
  exact h.2 _ v v' hv hv'
theorem VRs.get {m : Mp} {l l' : List Value} (h : VRs m l l') {i : Nat} {v : Value} (hv : l[i]? = some v) : ∃ v', l'[i]? = some v' ∧ VR m v v' := by
  have hlt : i < l.length := (List.getElem?_eq_some_iff.1 hv).1
  have hlt' : i < l'.length := by rw [← h.1]; exact hlt
  exact ⟨l'[i], List.getElem?_eq_getElem hlt', h.2 i v _ hv (List.getElem?_eq_getElem hlt')⟩
theorem VRs.of {m : Mp} {l l' : List Value} (h : l.length = l'.length) (k : ∀ (i : Nat) (v : Value), l[i]? = some v → ∃ v', l'[i]? = some v' ∧ VR m v v') : VRs m l l' :=
  ⟨h, fun i v v' hv hv' => by obtain ⟨u, hu, hr⟩ := k i v hv; rw [hv'] at hu; cases hu; exact hr⟩
def Ones (l : List Value) : Prop := ∀ v ∈ l, v.oneCell' = true
theorem VR.aggL {m : Mp} {c : Array Value} {v' : Value} (h : VR m (.agg c) v') : ∃ c', v' = .agg c' ∧ VRs m c.toList c'.toList ∧ Ones c.toList := by
  cases h with
  | agg _ c' h h2 h3 => exact ⟨c', rfl, ⟨h, h2⟩, h3⟩
theorem VR.tupL {m : Mp} {c : Array Value} {v' : Value} (h : VR m (.tuple c) v') : ∃ c', v' = .tuple c' ∧ VRs m c.toList c'.toList := by
  cases h with
  | tup _ c' h h2 => exact ⟨c', rfl, h, h2⟩
theorem VRs.agg {m : Mp} {c c' : List Value} (h : VRs m c c') (ho : Ones c) : VR m (.agg c.toArray) (.agg c'.toArray) := .agg _ _ (by simpa using h.1) (by simpa using h.2) (by simpa [Ones] using ho)
theorem VR.one {m : Mp} {v v' : Value} (h : VR m v v') : v'.oneCell' = v.oneCell' := by cases h <;> rfl
theorem VRs.ones {m : Mp} {l l' : List Value} (h : VRs m l l') (ho : Ones l) : Ones l' := by
  intro v' hv'
  obtain ⟨i, hi⟩ := List.getElem?_of_mem hv'
  have hlt : i < l.length := by rw [h.1]; exact (List.getElem?_eq_some_iff.1 hi).1
  have := h.2 i _ v' (List.getElem?_eq_getElem hlt) hi
  rw [this.one]
  exact ho _ (List.getElem_mem hlt)
theorem VRs.tup {m : Mp} {c c' : List Value} (h : VRs m c c') : VR m (.tuple c.toArray) (.tuple c'.toArray) := .tup _ _ (by simpa using h.1) (by simpa using h.2)
theorem VR.undef (m : Mp) : VR m (.tuple #[]) undef := .tup _ _ rfl (by simp)
theorem VR.cells {m : Mp} {v v' : Value} (h : VR m v v') : VRs m (cells v) v'.cells.toList := by
  cases h with
  | agg c c' h h2 _ => exact ⟨h, h2⟩
  | _ => exact .cons (by constructor <;> assumption) (.nil m)
def Ext (n nl : Nat) (m m' : Mp) : Prop := (∀ k, k < n → m'.r k = m.r k) ∧ (∀ l, l < nl → m'.l l = m.l l)
theorem Ext.refl (n nl : Nat) (m : Mp) : Ext n nl m m := ⟨fun _ _ => rfl, fun _ _ => rfl⟩
theorem Ext.trans {n nl n1 nl1 : Nat} {m m1 m2 : Mp} (h : Ext n nl m m1) (k : Ext n1 nl1 m1 m2) (hn : n ≤ n1) (hl : nl ≤ nl1) : Ext n nl m m2 :=
  ⟨fun i hi => (k.1 i (by omega)).trans (h.1 i hi), fun i hi => (k.2 i (by omega)).trans (h.2 i hi)⟩
def Dom (n nl : Nat) (m : Mp) : Prop := (∀ k x, m.r k = some x → k < n) ∧ (∀ l x, m.l l = some x → l < nl)
theorem VR.ext {n nl : Nat} {m m' : Mp} {v v' : Value} (hd : Dom n nl m) (he : Ext n nl m m') (h : VR m v v') : VR m' v v' := by
  induction h with
  | bool b => exact .bool b
  | int k n => exact .int k n
  | str s => exact .str s
  | ptrN => exact .ptrN
  | ptrO k o b f t h => exact .ptrO k o b f t ((he.1 k (hd.1 k _ h)).trans h)
  | ptrR b o => exact .ptrR b o
  | slN => exact .slN
  | slR b o n c => exact .slR b o n c
  | slO k o n c a' c' h1 h2 b f t h3 h4 => exact .slO k o n c a' c' h1 h2 b f t ((he.1 k (hd.1 k _ h3)).trans h3) h4
  | fnN => exact .fnN
  | yl l l' h => exact .yl l l' ((he.2 l (hd.2 l _ h)).trans h)
  | fn f c c' h h2 ih => exact .fn f c c' h ih
  | agg c c' h h2 h3 ih => exact .agg c c' h ih h3
  | tup c c' h h2 ih => exact .tup c c' h ih
theorem VR.onesC {m : Mp} {v v' : Value} (h : VR m v v') (hp : plainT v = true) : Ones (EV.cells v) := by
  cases h with
  | agg c c' h h2 h3 => exact h3
  | tup c c' h h2 => cases hp
  | _ => simp [EV.cells, Ones, Value.oneCell']
theorem VRs.ext {n nl : Nat} {m m' : Mp} {l l' : List Value} (hd : Dom n nl m) (he : Ext n nl m m') (h : VRs m l l') : VRs m' l l' :=
  ⟨h.1, fun i v v' hv hv' => (h.2 i v v' hv hv').ext hd he⟩
theorem VR.back {n nl : Nat} {m m' : Mp} {v v0 : Value} (hd : Dom n nl m) (he : Ext n nl m m') (h0 : VR m v v0) : ∀ {v' : Value}, VR m' v v' → VR m v v' := by
  induction h0 with
  | bool b => intro v' h; cases h; exact .bool b
  | int k n => intro v' h; cases h; exact .int k n
  | str s => intro v' h; cases h; exact .str s
  | ptrN => intro v' h; cases h; exact .ptrN
  | ptrO k o b f t hk =>
    intro v' h
    generalize hv : Value.pointer (some (own k o)) = u at h
    cases h with
    | ptrO k2 o2 b2 f2 t2 h2 =>
      simp only [own, Value.pointer.injEq, Option.some.injEq, Addr.mk.injEq] at hv
      obtain ⟨rfl, rfl, _⟩ := hv
      rw [he.1 _ (hd.1 _ _ hk)] at h2
      exact .ptrO _ _ _ _ _ h2
    | _ => simp [own] at hv
  | ptrR b o =>
    intro v' h
    generalize hv : Value.pointer (some ⟨b, o, none⟩) = u at h
    cases h with
    | ptrR b2 o2 => simp at hv; obtain ⟨rfl, rfl⟩ := hv; exact .ptrR _ _
    | _ => simp [own] at hv
  | slN => intro v' h; cases h; exact .slN
  | slR b o n c =>
    intro v' h
    generalize hv : Value.slice (some ⟨b, o, none⟩) n c = u at h
    cases h with
    | slR b2 o2 n2 c2 => simp at hv; obtain ⟨⟨rfl, rfl⟩, rfl, rfl⟩ := hv; exact .slR _ _ _ _
    | _ => simp [own] at hv
  | slO k o n c a0 c0 g1 g2 b0 f0 t0 g3 g4 =>
    intro v' h
    generalize hv : Value.slice (some (own k o)) n c = u at h
    cases h with
    | slO k2 o2 n2 c2 a' c' h1 h2 b f t h3 h4 =>
      simp only [own, Value.slice.injEq, Option.some.injEq, Addr.mk.injEq] at hv
      obtain ⟨⟨rfl, rfl, _⟩, rfl, rfl⟩ := hv
      rw [he.1 _ (hd.1 _ _ g3)] at h3
      exact .slO _ _ _ _ _ _ h1 h2 b f t h3 h4
    | _ => simp [own] at hv
  | fnN => intro v' h; cases h; exact .fnN
  | yl l l' hl =>
    intro v' h
    cases h with
    | yl _ l2 h2 => rw [he.2 _ (hd.2 _ _ hl)] at h2; exact .yl _ _ h2
  | fn f c c' hh h2 ih =>
    intro v' h
    cases h with
    | fn _ _ c2 k1 k2 => exact .fn f c c2 k1 (fun i v v' hv hv' => by
        have hlt : i < c.toList.length := (List.getElem?_eq_some_iff.1 hv).1
        exact ih i v _ hv (List.getElem?_eq_getElem (by rw [← hh]; exact hlt)) (k2 i v v' hv hv'))
  | agg c c' hh h2 h3 ih =>
    intro v' h
    cases h with
    | agg _ c2 k1 k2 k3 => exact .agg c c2 k1 (fun i v v' hv hv' => by
        have hlt : i < c.toList.length := (List.getElem?_eq_some_iff.1 hv).1
        exact ih i v _ hv (List.getElem?_eq_getElem (by rw [← hh]; exact hlt)) (k2 i v v' hv hv')) k3
  | tup c c' hh h2 ih =>
    intro v' h
    cases h with
    | tup _ c2 k1 k2 => exact .tup c c2 k1 (fun i v v' hv hv' => by
        have hlt : i < c.toList.length := (List.getElem?_eq_some_iff.1 hv).1
        exact ih i v _ hv (List.getElem?_eq_getElem (by rw [← hh]; exact hlt)) (k2 i v v' hv hv'))
theorem VRs.back {n nl : Nat} {m m' : Mp} {l l0 l' : List Value} (hd : Dom n nl m) (he : Ext n nl m m') (h0 : VRs m l l0) (h : VRs m' l l') : VRs m l l' :=
  .of h.1 (fun i v hv => by
    obtain ⟨v0, hv0, hr0⟩ := h0.get hv
    obtain ⟨v', hv', hr'⟩ := h.get hv
    exact ⟨v', hv', hr0.back hd he hr'⟩)
theorem VR.clean0 {n nl : Nat} {m m' : Mp} {v v' : Value} (hd : Dom n nl m) (he : Ext n nl m m') (h : VR m' v v') (hc : clean0 n v = true) : VR m v v' := by
  cases h with
  | bool b => exact .bool b
  | int k n => exact .int k n
  | str s => exact .str s
  | ptrN => exact .ptrN
  | ptrO k o b f t h =>
    simp [EV.clean0, cleanA, own] at hc
    exact .ptrO k o b f t ((he.1 k (of_decide_eq_true hc)).symm.trans h)
  | ptrR b o => exact .ptrR b o
  | slN => exact .slN
  | slR b o n c => exact .slR b o n c
  | slO k o nn c a' c' h1 h2 b f t h3 h4 =>
    simp [EV.clean0, cleanA, own] at hc
    exact .slO k o nn c a' c' h1 h2 b f t ((he.1 k (of_decide_eq_true hc)).symm.trans h3) h4
  | fnN => exact .fnN
  | yl l l' h => simp [EV.clean0] at hc
  | fn f c c' h h2 => simp [EV.clean0] at hc
  | agg c c' h h2 h3 => simp [EV.clean0] at hc
  | tup c c' h h2 => simp [EV.clean0] at hc
theorem VR.clean1 {n nl : Nat} {m m' : Mp} {v v' : Value} (hd : Dom n nl m) (he : Ext n nl m m') (h : VR m' v v') (hc : clean1 n v = true) : VR m v v' := by
  by_cases ha : ∃ c, v = .agg c
  · obtain ⟨c, rfl⟩ := ha
    obtain ⟨c', rfl, hs, ho⟩ := h.aggL
    simp only [EV.clean1, List.all_eq_true] at hc
    refine .agg _ _ hs.1 (fun i v v' hv hv' => (hs.2 i v v' hv hv').clean0 hd he (hc v (List.mem_of_getElem? hv))) ho
  · have : EV.clean1 n v = EV.clean0 n v := by cases v <;> first | rfl | exact absurd ⟨_, rfl⟩ ha
    rw [this] at hc
    exact h.clean0 hd he hc
theorem VR.clean {n nl : Nat} {m m' : Mp} {v v' : Value} (hd : Dom n nl m) (he : Ext n nl m m') (h : VR m' v v') (hc : clean n v = true) : VR m v v' := by
  by_cases ha : ∃ c, v = .tuple c
  · obtain ⟨c, rfl⟩ := ha
    obtain ⟨c', rfl, hs⟩ := h.tupL
    simp only [EV.clean, List.all_eq_true] at hc
    refine .tup _ _ hs.1 (fun i v v' hv hv' => (hs.2 i v v' hv hv').clean1 hd he (hc v (List.mem_of_getElem? hv)))
  · have : EV.clean n v = EV.clean1 n v := by cases v <;> first | rfl | exact absurd ⟨_, rfl⟩ ha
    rw [this] at hc
    exact h.clean1 hd he hc
theorem St.get_lt {s : St} {k : Nat} {r : List Value} (h : s.get k = some r) : k < s.n := by
  unfold St.get at h
  split at h
  · assumption
  · cases h
theorem St.get_push_new (s : St) (r : List Value) : (s.push r).get s.n = some r := by simp [St.get, St.push]
theorem St.get_push_old (s : St) (r : List Value) {k : Nat} (h : k < s.n) : (s.push r).get k = s.get k := by
  unfold St.get St.push
  simp only [h, show k < s.n + 1 by omega, if_true]
  rw [show s.n + 1 - 1 - k = (s.n - 1 - k) + 1 by omega, List.getElem?_cons_succ]
theorem St.get_put_same {s : St} {k : Nat} {r : List Value} (h : s.get k = some r) (x : Option (List Value)) : (s.put k x).get k = x := by
  have hk := St.get_lt h
  unfold St.get at h ⊢
  simp only [hk, if_true, St.put] at h ⊢
  have hl : s.n - 1 - k < s.rows.length := by
    rcases Nat.lt_or_ge (s.n - 1 - k) s.rows.length with hl | hl
    · exact hl
    · rw [List.getElem?_eq_none hl] at h; cases h
  rw [List.getElem?_set_self hl]
  rfl
theorem St.get_put_other (s : St) {k j : Nat} (x : Option (List Value)) (h : j ≠ k) (hk : k < s.n) : (s.put k x).get j = s.get j := by
  unfold St.get
  simp only [St.put]
  by_cases hj : j < s.n
  · simp only [hj, if_true]
    rw [List.getElem?_set_ne (by omega)]
  · simp [hj]
@[simp] theorem St.n_put (s : St) (k : Nat) (x : Option (List Value)) : (s.put k x).n = s.n := rfl
@[simp] theorem St.n_push (s : St) (x : List Value) : (s.push x).n = s.n + 1 := rfl
@[simp] theorem St.nl_put (s : St) (k : Nat) (x : Option (List Value)) : (s.put k x).nl = s.nl := rfl
@[simp] theorem St.nl_push (s : St) (x : List Value) : (s.push x).nl = s.nl := rfl
@[simp] theorem St.lps_put (s : St) (k : Nat) (x : Option (List Value)) : (s.put k x).lps = s.lps := rfl
@[simp] theorem St.lps_push (s : St) (x : List Value) : (s.push x).lps = s.lps := rfl
def RowR (m : Mp) (b f t : Nat) (row : List Value) (w : World) : Prop :=
  ∃ c e, w.heap[b]? = some (.cells c e (0, 0)) ∧ c.size = t ∧ f + row.length ≤ t ∧ (∀ (i : Nat) (v : Value), row[i]? = some v → ∃ v', c[f + i]? = some v' ∧ VR m v v') ∧ Ones row
def lsOf : LS → LoopState
  | .ready => .ready
  | .busy => .busy
  | .done => .done
def pendOf : Out → Option Code
  | .nrm => none
  | .exi i => some (.exit i)
  | .ret => some .ret
def EnvR (m : Mp) (e : Env) (tmps : Array Value) : Prop := ∀ t v, lk e t = some v → ∃ v', tmps[t]? = some v' ∧ VR m v v'
structure LoopR (CR : Nat → Code → C → Prop) (m : Mp) (r : Rec) (L : Loop) : Prop where
  ps : L.params = r.ps.toArray
  asg : CR L.tmps.size L.assign r.asg
  body : CR L.tmps.size L.body r.body
  env : EnvR m r.env L.tmps
  st : L.state = lsOf r.st
  pend : L.pending = pendOf r.pend
  lt : ∀ t ∈ r.ps, t < L.tmps.size
structure R (W0 : World) (CR : Nat → Code → C → Prop) (m : Mp) (s : St) (w : World) : Prop where
  size : W0.heap.size ≤ w.heap.size
  old : ∀ k, k < W0.heap.size → w.heap[k]? = W0.heap[k]?
  dom : Dom s.n s.nl m
  row : ∀ k b f t, m.r k = some (b, f, t) → ∀ row, s.get k = some row → W0.heap.size ≤ b ∧ RowR m b f t row w
  inj : ∀ k1 k2 b f1 t1 f2 t2, m.r k1 = some (b, f1, t1) → m.r k2 = some (b, f2, t2) → (s.get k1).isSome = true → (s.get k2).isSome = true → k1 = k2
  lp : ∀ l b, m.l l = some b → ∀ r, lget s.lps l = some r → W0.heap.size ≤ b ∧ ∃ L, w.heap[b]? = some (.loop L) ∧ LoopR CR m r L
  linj : ∀ l1 l2 b, m.l l1 = some b → m.l l2 = some b → (lget s.lps l1).isSome = true → (lget s.lps l2).isSome = true → l1 = l2
def Im (m : Mp) (s : St) (b : Nat) : Prop := (∃ k f t, m.r k = some (b, f, t) ∧ (s.get k).isSome = true) ∨ (∃ l, m.l l = some b ∧ (lget s.lps l).isSome = true)
structure Stp (m : Mp) (s : St) (w : World) (m' : Mp) (s' : St) (w' : World) : Prop where
  ext : Ext s.n s.nl m m'
  n : s.n ≤ s'.n
  nl : s.nl ≤ s'.nl
  sz : w.heap.size ≤ w'.heap.size
  os : w'.os = w.os
  tape : w'.tape = w.tape
  output : w'.output = w.output
  fr : ∀ b, b < w.heap.size → ¬ Im m s b → w'.heap[b]? = w.heap[b]?
  im : ∀ b, b < w.heap.size → Im m' s' b → Im m s b
theorem Stp.refl (m : Mp) (s : St) (w : World) : Stp m s w m s w := ⟨Ext.refl _ _ _, Nat.le_refl _, Nat.le_refl _, Nat.le_refl _, rfl, rfl, rfl, fun _ _ _ => rfl, fun _ _ h => h⟩
theorem Stp.trans {m m1 m2 : Mp} {s s1 s2 : St} {w w1 w2 : World} (h : Stp m s w m1 s1 w1) (k : Stp m1 s1 w1 m2 s2 w2) : Stp m s w m2 s2 w2 :=
  ⟨h.ext.trans k.ext h.n h.nl, Nat.le_trans h.n k.n, Nat.le_trans h.nl k.nl, Nat.le_trans h.sz k.sz, k.os.trans h.os, k.tape.trans h.tape, k.output.trans h.output,
   fun b hb hi => (k.fr b (Nat.lt_of_lt_of_le hb h.sz) (fun hj => hi (h.im b hb hj))).trans (h.fr b hb hi),
   fun b hb hi => h.im b hb (k.im b (Nat.lt_of_lt_of_le hb h.sz) hi)⟩
theorem EnvR.ext {n nl : Nat} {m m' : Mp} {e : Env} {t : Array Value} (hd : Dom n nl m) (he : Ext n nl m m') (h : EnvR m e t) : EnvR m' e t :=
  fun i v hv => by obtain ⟨v', h1, h2⟩ := h i v hv; exact ⟨v', h1, h2.ext hd he⟩
theorem LoopR.ext {CR : Nat → Code → C → Prop} {n nl : Nat} {m m' : Mp} {r : Rec} {L : Loop} (hd : Dom n nl m) (he : Ext n nl m m') (h : LoopR CR m r L) : LoopR CR m' r L :=
  { h with env := h.env.ext hd he }
theorem RowR.ext {n nl : Nat} {m m' : Mp} {b f t : Nat} {row : List Value} {w w' : World} (hd : Dom n nl m) (he : Ext n nl m m') (hb : w'.heap[b]? = w.heap[b]?) (h : RowR m b f t row w) : RowR m' b f t row w' := by
  obtain ⟨c, e, h1, h2, h3, h4, h5⟩ := h
  exact ⟨c, e, hb.trans h1, h2, h3, fun i v hv => by obtain ⟨v', h5, h6⟩ := h4 i v hv; exact ⟨v', h5, h6.ext hd he⟩, h5⟩
theorem RowR.lt {m : Mp} {b f t : Nat} {row : List Value} {w : World} (h : RowR m b f t row w) : b < w.heap.size := by
  obtain ⟨c, e, h1, _⟩ := h
  exact (Array.getElem?_eq_some_iff.1 h1).1
end Go.Proofs.YtakdnpafdadblaaGreat.EV
namespace Go.Proofs.YtakdnpafdadblaaGreat.EV
open Go
variable {W0 : World} {CR : Nat → Code → C → Prop} {m : Mp} {s : St} {w : World}
def Mp.add (m : Mp) (k : Nat) (x : Nat × Nat × Nat) : Mp := { m with r := fun j => if j = k then some x else m.r j }
theorem Mp.add_same (m : Mp) (k : Nat) (x : Nat × Nat × Nat) : (m.add k x).r k = some x := by simp [Mp.add]
theorem Mp.add_other (m : Mp) {k j : Nat} (x : Nat × Nat × Nat) (h : j ≠ k) : (m.add k x).r j = m.r j := by simp [Mp.add, h]
theorem Mp.add_ext (m : Mp) (n nl : Nat) (x : Nat × Nat × Nat) : Ext n nl m (m.add n x) := ⟨fun k hk => m.add_other x (by omega), fun _ _ => rfl⟩
theorem Mp.add_dom {n nl : Nat} (h : Dom n nl m) (x : Nat × Nat × Nat) : Dom (n + 1) nl (m.add n x) := by
  refine ⟨fun k y hk => ?_, fun l y hl => h.2 l y hl⟩
  by_cases e : k = n
  · omega
  · rw [m.add_other x e] at hk
    have := h.1 k y hk
    omega
theorem heap_alloc_lt (w : World) (o : Obj) {b : Nat} (h : b < w.heap.size) : (w.alloc o).heap[b]? = w.heap[b]? := by
  show (w.heap.push o)[b]? = _
  rw [Array.getElem?_push, if_neg (by omega)]
theorem heap_alloc_at (w : World) (o : Obj) : (w.alloc o).heap[w.heap.size]? = some o := by
  show (w.heap.push o)[w.heap.size]? = _
  simp
theorem R.drew (h : R W0 CR m s w) : R W0 CR m s w.drew := ⟨h.size, h.old, h.dom, h.row, h.inj, h.lp, h.linj⟩
theorem Stp.drew {m' : Mp} {s' : St} {w' : World} (h : Stp m s w m' s' w') : Stp m s w m' s' w'.drew := ⟨h.ext, h.n, h.nl, h.sz, h.os, h.tape, h.output, h.fr, h.im⟩
theorem Stp.of_drew {m' : Mp} {s' : St} {w' : World} (h : Stp m s w.drew m' s' w') : Stp m s w m' s' w' := ⟨h.ext, h.n, h.nl, h.sz, h.os, h.tape, h.output, h.fr, h.im⟩
theorem Im.lt (h : R W0 CR m s w) {b : Nat} (hi : Im m s b) : W0.heap.size ≤ b ∧ b < w.heap.size := by
  rcases hi with ⟨k, f, t, hk, hl⟩ | ⟨l, hl, hr⟩
  · obtain ⟨row, hrow⟩ := Option.isSome_iff_exists.1 hl
    obtain ⟨h1, h2⟩ := h.row k b f t hk row hrow
    exact ⟨h1, h2.lt⟩
  · obtain ⟨r, hr⟩ := Option.isSome_iff_exists.1 hr
    obtain ⟨h1, L, h2, _⟩ := h.lp l b hl r hr
    exact ⟨h1, (Array.getElem?_eq_some_iff.1 h2).1⟩
theorem R.push (h : R W0 CR m s w) (row : List Value) (c : Array Value) (e : TypeId) (hl : row.length ≤ c.size) (ho : Ones row)
    (hc : ∀ (i : Nat) (v : Value), row[i]? = some v → ∃ v', c[i]? = some v' ∧ VR m v v') :
    R W0 CR (m.add s.n (w.heap.size, 0, c.size)) (s.push row) (w.alloc (.cells c e)) ∧ Stp m s w (m.add s.n (w.heap.size, 0, c.size)) (s.push row) (w.alloc (.cells c e)) := by
  have hext := m.add_ext s.n s.nl (w.heap.size, 0, c.size)
  have hold : ∀ b, b < w.heap.size → (w.alloc (.cells c e)).heap[b]? = w.heap[b]? := fun b hb => heap_alloc_lt w _ hb
  constructor
  · refine ⟨by simpa using Nat.le_succ_of_le h.size, fun k hk => (hold k (Nat.lt_of_lt_of_le hk h.size)).trans (h.old k hk), Mp.add_dom h.dom _, ?_, ?_, ?_, ?_⟩
    · intro k b f t hk r hr
      by_cases e1 : k = s.n
      · subst e1
        rw [Mp.add_same] at hk
        simp only [Option.some.injEq, Prod.mk.injEq] at hk
        obtain ⟨rfl, rfl, rfl⟩ := hk
        rw [St.get_push_new] at hr
        cases hr
        refine ⟨h.size, c, e, heap_alloc_at w _, rfl, by omega, fun i v hv => ?_, ho⟩
        obtain ⟨v', h1, h2⟩ := hc i v hv
        exact ⟨v', by simpa using h1, h2.ext h.dom hext⟩
      · rw [Mp.add_other _ _ e1] at hk
        have hlt := h.dom.1 k _ hk
        rw [St.get_push_old _ _ hlt] at hr
        obtain ⟨h1, h2⟩ := h.row k b f t hk r hr
        exact ⟨h1, h2.ext h.dom hext (hold b h2.lt)⟩
    · intro k1 k2 b f1 t1 f2 t2 h1 h2 l1 l2
      have key : ∀ k b f t, (m.add s.n (w.heap.size, 0, c.size)).r k = some (b, f, t) → ((s.push row).get k).isSome = true → (k = s.n ∧ b = w.heap.size) ∨ (k ≠ s.n ∧ m.r k = some (b, f, t) ∧ (s.get k).isSome = true ∧ b < w.heap.size) := by
        intro k b f t hk hlk
        by_cases e1 : k = s.n
        · subst e1; rw [Mp.add_same] at hk; simp only [Option.some.injEq, Prod.mk.injEq] at hk; exact .inl ⟨rfl, hk.1.symm⟩
        · rw [Mp.add_other _ _ e1] at hk
          rw [St.get_push_old _ _ (h.dom.1 k _ hk)] at hlk
          obtain ⟨r, hr⟩ := Option.isSome_iff_exists.1 hlk
          exact .inr ⟨e1, hk, hlk, (h.row k b f t hk r hr).2.lt⟩
      rcases key k1 b f1 t1 h1 l1 with ⟨e1, e2⟩ | ⟨e1, m1, g1, b1⟩ <;> rcases key k2 b f2 t2 h2 l2 with ⟨e3, e4⟩ | ⟨e3, m2, g2, b2⟩
      · omega
      · omega
      · omega
      · exact h.inj k1 k2 b f1 t1 f2 t2 m1 m2 g1 g2
    · intro l b hl r hr
      obtain ⟨h1, L, h2, h3⟩ := h.lp l b hl r hr
      exact ⟨h1, L, (hold b (Array.getElem?_eq_some_iff.1 h2).1).trans h2, h3.ext h.dom hext⟩
    · exact fun l1 l2 b h1 h2 h3 h4 => h.linj l1 l2 b h1 h2 h3 h4
  · refine ⟨hext, Nat.le_succ _, Nat.le_refl _, by simp, rfl, rfl, rfl, fun b hb _ => hold b hb, ?_⟩
    rintro b hb (⟨k, f, t, hk, hlk⟩ | ⟨l, hl, hr⟩)
    · by_cases e1 : k = s.n
      · subst e1; rw [Mp.add_same] at hk; simp only [Option.some.injEq, Prod.mk.injEq] at hk; omega
      · rw [Mp.add_other _ _ e1] at hk
        rw [St.get_push_old _ _ (h.dom.1 k _ hk)] at hlk
        exact .inl ⟨k, f, t, hk, hlk⟩
    · exact .inr ⟨l, hl, hr⟩
theorem R.write (h : R W0 CR m s w) {k b f t : Nat} {row row' : List Value} {c : Array Value} {e : TypeId} (hk : m.r k = some (b, f, t)) (hr : s.get k = some row)
    (hsz : c.size = t) (hl : f + row'.length ≤ t) (ho : Ones row') (hc : ∀ (i : Nat) (v : Value), row'[i]? = some v → ∃ v', c[f + i]? = some v' ∧ VR m v v') :
    R W0 CR m (s.put k (some row')) (w.putObj b (.cells c e (0, 0))) ∧ Stp m s w m (s.put k (some row')) (w.putObj b (.cells c e (0, 0))) := by
  have hkn := St.get_lt hr
  obtain ⟨hB, hR⟩ := h.row k b f t hk row hr
  have hblt := hR.lt
  have hother : ∀ j, j ≠ k → (s.put k (some row')).get j = s.get j := fun j hj => St.get_put_other s _ hj hkn
  have hheap : ∀ j, j ≠ b → (w.putObj b (.cells c e (0, 0))).heap[j]? = w.heap[j]? := fun j hj => World.putObj_heap_other hj
  have hlive : ∀ j, ((s.put k (some row')).get j).isSome = (s.get j).isSome := by
    intro j
    by_cases ej : j = k
    · subst ej; rw [St.get_put_same hr, hr]; rfl
    · rw [hother j ej]
  constructor
  · refine ⟨by simpa using h.size, fun j hj => (hheap j (by omega)).trans (h.old j hj), h.dom, ?_, ?_, ?_, h.linj⟩
    · intro j b2 f2 t2 hj r2 hr2
      by_cases ej : j = k
      · subst ej
        rw [hk] at hj; cases hj
        rw [St.get_put_same hr] at hr2; cases hr2
        exact ⟨hB, c, e, World.putObj_heap_same hblt, hsz, hl, hc, ho⟩
      · rw [hother j ej] at hr2
        obtain ⟨h1, h2⟩ := h.row j b2 f2 t2 hj r2 hr2
        have hne : b2 ≠ b := fun eb => ej (h.inj j k b f2 t2 f t (eb ▸ hj) hk (by rw [hr2]; rfl) (by rw [hr]; rfl))
        exact ⟨h1, h2.ext h.dom (Ext.refl _ _ _) (hheap b2 hne)⟩
    · intro k1 k2 b2 f1 t1 f2 t2 h1 h2 l1 l2
      rw [hlive] at l1 l2
      exact h.inj k1 k2 b2 f1 t1 f2 t2 h1 h2 l1 l2
    · intro l b2 hl2 r2 hr2
      obtain ⟨h1, L, h2, h3⟩ := h.lp l b2 hl2 r2 hr2
      have hne : b2 ≠ b := by
        rintro rfl
        obtain ⟨c0, e0, h4, _⟩ := hR
        rw [h4] at h2; cases h2
      exact ⟨h1, L, (hheap b2 hne).trans h2, h3⟩
  · refine ⟨Ext.refl _ _ _, Nat.le_refl _, Nat.le_refl _, by simp, rfl, rfl, rfl, fun b2 hb2 hi => hheap b2 ?_, ?_⟩
    · rintro rfl
      exact hi (.inl ⟨k, f, t, hk, by rw [hr]; rfl⟩)
    · rintro b2 hb2 (⟨j, f2, t2, hj, hlj⟩ | ⟨l, hl2, hr2⟩)
      · rw [hlive] at hlj; exact .inl ⟨j, f2, t2, hj, hlj⟩
      · exact .inr ⟨l, hl2, hr2⟩
theorem R.kill (h : R W0 CR m s w) {k : Nat} {row : List Value} (hr : s.get k = some row) : R W0 CR m (s.put k none) w ∧ Stp m s w m (s.put k none) w := by
  have hkn := St.get_lt hr
  have hlive : ∀ j r, (s.put k none).get j = some r → s.get j = some r ∧ j ≠ k := by
    intro j r hj
    by_cases ej : j = k
    · subst ej; rw [St.get_put_same hr] at hj; cases hj
    · rw [St.get_put_other s _ ej hkn] at hj; exact ⟨hj, ej⟩
  have hlive' : ∀ j, ((s.put k none).get j).isSome = true → (s.get j).isSome = true := by
    intro j hj
    obtain ⟨r, hr⟩ := Option.isSome_iff_exists.1 hj
    rw [(hlive j r hr).1]; rfl
  constructor
  · exact ⟨h.size, h.old, h.dom, fun j b f t hj r hr2 => h.row j b f t hj r (hlive j r hr2).1, fun k1 k2 b f1 t1 f2 t2 h1 h2 l1 l2 => h.inj k1 k2 b f1 t1 f2 t2 h1 h2 (hlive' _ l1) (hlive' _ l2), h.lp, h.linj⟩
  · refine ⟨Ext.refl _ _ _, Nat.le_refl _, Nat.le_refl _, Nat.le_refl _, rfl, rfl, rfl, fun _ _ _ => rfl, ?_⟩
    rintro b hb (⟨j, f, t, hj, hlj⟩ | ⟨l, hl, hr⟩)
    · exact .inl ⟨j, f, t, hj, hlive' j hlj⟩
    · exact .inr ⟨l, hl, hr⟩
theorem R.take (h : R W0 CR m s w) {k b f t f' : Nat} {row row' : List Value} {c : Array Value} {e : TypeId} (hk : m.r k = some (b, f, t)) (hr : s.get k = some row)
    (hsz : c.size = t) (hl : f' + row'.length ≤ t) (ho : Ones row') (hc : ∀ (i : Nat) (v : Value), row'[i]? = some v → ∃ v', c[f' + i]? = some v' ∧ VR m v v') :
    R W0 CR (m.add s.n (b, f', t)) ((s.put k none).push row') (w.putObj b (.cells c e (0, 0))) ∧ Stp m s w (m.add s.n (b, f', t)) ((s.put k none).push row') (w.putObj b (.cells c e (0, 0))) := by
  have hkn := St.get_lt hr
  obtain ⟨hB, hR⟩ := h.row k b f t hk row hr
  have hblt := hR.lt
  have hext := m.add_ext s.n s.nl (b, f', t)
  have hheap : ∀ j, j ≠ b → (w.putObj b (.cells c e (0, 0))).heap[j]? = w.heap[j]? := fun j hj => World.putObj_heap_other hj
  have hold : ∀ j r, j < s.n → ((s.put k none).push row').get j = some r → s.get j = some r ∧ j ≠ k := by
    intro j r hj hg
    rw [St.get_push_old (s.put k none) _ (by simpa using hj)] at hg
    by_cases ej : j = k
    · subst ej; rw [St.get_put_same hr] at hg; cases hg
    · rw [St.get_put_other s _ ej hkn] at hg; exact ⟨hg, ej⟩
  have hne : ∀ j b2 f2 t2 r, m.r j = some (b2, f2, t2) → s.get j = some r → j ≠ k → b2 ≠ b :=
    fun j b2 f2 t2 r hj hg ej eb => ej (h.inj j k b f2 t2 f t (eb ▸ hj) hk (by rw [hg]; rfl) (by rw [hr]; rfl))
  constructor
  · refine ⟨by simpa using h.size, fun j hj => (hheap j (by omega)).trans (h.old j hj), Mp.add_dom h.dom _, ?_, ?_, ?_, h.linj⟩
    · intro j b2 f2 t2 hj r2 hr2
      by_cases ej : j = s.n
      · subst ej
        rw [Mp.add_same] at hj; cases hj
        have : ((s.put k none).push row').get s.n = some row' := St.get_push_new (s.put k none) row'
        rw [this] at hr2; cases hr2
        exact ⟨hB, c, e, World.putObj_heap_same hblt, hsz, hl, fun i v hv => by obtain ⟨v', h1, h2⟩ := hc i v hv; exact ⟨v', h1, h2.ext h.dom hext⟩, ho⟩
      · rw [Mp.add_other _ _ ej] at hj
        obtain ⟨hg, ejk⟩ := hold j r2 (h.dom.1 j _ hj) hr2
        obtain ⟨h1, h2⟩ := h.row j b2 f2 t2 hj r2 hg
        exact ⟨h1, h2.ext h.dom hext (hheap b2 (hne j b2 f2 t2 r2 hj hg ejk))⟩
    · intro k1 k2 b2 f1 t1 f2 t2 h1 h2 l1 l2
      obtain ⟨r1, g1⟩ := Option.isSome_iff_exists.1 l1
      obtain ⟨r2, g2⟩ := Option.isSome_iff_exists.1 l2
      by_cases e1 : k1 = s.n <;> by_cases e2 : k2 = s.n
      · omega
      · subst e1
        rw [Mp.add_same] at h1; cases h1
        rw [Mp.add_other _ _ e2] at h2
        obtain ⟨g, ejk⟩ := hold k2 r2 (h.dom.1 _ _ h2) g2
        exact absurd rfl (hne k2 _ _ _ r2 h2 g ejk)
      · subst e2
        rw [Mp.add_same] at h2; cases h2
        rw [Mp.add_other _ _ e1] at h1
        obtain ⟨g, ejk⟩ := hold k1 r1 (h.dom.1 _ _ h1) g1
        exact absurd rfl (hne k1 _ _ _ r1 h1 g ejk)
      · rw [Mp.add_other _ _ e1] at h1
        rw [Mp.add_other _ _ e2] at h2
        exact h.inj k1 k2 b2 f1 t1 f2 t2 h1 h2 (by rw [(hold k1 r1 (h.dom.1 _ _ h1) g1).1]; rfl) (by rw [(hold k2 r2 (h.dom.1 _ _ h2) g2).1]; rfl)
    · intro l b2 hl2 r2 hr2
      obtain ⟨h1, L, h2, h3⟩ := h.lp l b2 hl2 r2 hr2
      have hneb : b2 ≠ b := by
        rintro rfl
        obtain ⟨c0, e0, h4, _⟩ := hR
        rw [h4] at h2; cases h2
      exact ⟨h1, L, (hheap b2 hneb).trans h2, h3.ext h.dom hext⟩
  · refine ⟨hext, by simp, Nat.le_refl _, by simp, rfl, rfl, rfl, fun b2 hb2 hi => hheap b2 ?_, ?_⟩
    · rintro rfl
      exact hi (.inl ⟨k, f, t, hk, by rw [hr]; rfl⟩)
    · rintro b2 hb2 (⟨j, f2, t2, hj, hlj⟩ | ⟨l, hl2, hr2⟩)
      · by_cases ej : j = s.n
        · subst ej
          rw [Mp.add_same] at hj; cases hj
          exact .inl ⟨k, f, t, hk, by rw [hr]; rfl⟩
        · rw [Mp.add_other _ _ ej] at hj
          obtain ⟨r, hg⟩ := Option.isSome_iff_exists.1 hlj
          exact .inl ⟨j, f2, t2, hj, by rw [(hold j r (h.dom.1 j _ hj) hg).1]; rfl⟩
      · exact .inr ⟨l, hl2, hr2⟩
theorem lget_lset (l : List (Nat × Rec)) (k j : Nat) (x : Rec) : lget (lset l k x) j = if j = k then (lget l k).map (fun _ => x) else lget l j := by
  induction l with
  | nil => simp [lset, lget]
  | cons p l ih =>
    obtain ⟨i, r⟩ := p
    simp only [lset]
    by_cases e : i = k
    · subst e
      simp only [if_true, lget]
      by_cases e2 : j = i
      · subst e2; simp
      · simp [Ne.symm e2, e2]
    · simp only [e, if_false, lget, ih]
      by_cases e2 : i = j
      · subst e2; simp [e]
      · simp [e2]
theorem lget_ldel (l : List (Nat × Rec)) (k j : Nat) : lget (ldel l k) j = if j = k then none else lget l j := by
  induction l with
  | nil => simp [ldel, lget]
  | cons p l ih =>
    obtain ⟨i, r⟩ := p
    simp only [ldel]
    by_cases e : i = k
    · subst e
      simp only [if_true, ih, lget]
      by_cases e2 : j = i
      · simp [e2]
      · simp [e2, Ne.symm e2]
    · simp only [e, if_false, lget, ih]
      by_cases e2 : i = j
      · subst e2; simp [e]
      · simp [e2]
theorem R.same (h : R W0 CR m s w) {s' : St} (hn : s'.n = s.n) (hnl : s'.nl = s.nl) (hr : s'.rows = s.rows) (hlp : s'.lps = s.lps) : R W0 CR m s' w := by
  have hg : ∀ k, s'.get k = s.get k := fun k => by simp [St.get, hn, hr]
  exact ⟨h.size, h.old, by rw [hn, hnl]; exact h.dom, fun k b f t hk row hrow => h.row k b f t hk row (by rw [← hg]; exact hrow), fun k1 k2 b f1 t1 f2 t2 h1 h2 l1 l2 => h.inj k1 k2 b f1 t1 f2 t2 h1 h2 (by rw [← hg]; exact l1) (by rw [← hg]; exact l2),
    fun l b hl r hr2 => h.lp l b hl r (by rw [← hlp]; exact hr2), fun l1 l2 b h1 h2 h3 h4 => h.linj l1 l2 b h1 h2 (by rw [← hlp]; exact h3) (by rw [← hlp]; exact h4)⟩
theorem Stp.same {m' : Mp} {s1 s1' s2 s2' : St} {w' : World} (h : Stp m s1 w m' s2 w') (hn : s1'.n = s1.n) (hnl : s1'.nl = s1.nl) (hr : s1'.rows = s1.rows) (hlp : s1'.lps = s1.lps)
    (hn2 : s2'.n = s2.n) (hnl2 : s2'.nl = s2.nl) (hr2 : s2'.rows = s2.rows) (hlp2 : s2'.lps = s2.lps) : Stp m s1' w m' s2' w' := by
  have hg : ∀ k, s1'.get k = s1.get k := fun k => by simp [St.get, hn, hr]
  have hg2 : ∀ k, s2'.get k = s2.get k := fun k => by simp [St.get, hn2, hr2]
  have hi : ∀ b, Im m s1' b ↔ Im m s1 b := fun b => by simp only [Im, hg, hlp]
  have hi2 : ∀ b, Im m' s2' b ↔ Im m' s2 b := fun b => by simp only [Im, hg2, hlp2]
  exact ⟨by rw [hn, hnl]; exact h.ext, by rw [hn, hn2]; exact h.n, by rw [hnl, hnl2]; exact h.nl, h.sz, h.os, h.tape, h.output, fun b hb hb2 => h.fr b hb (fun x => hb2 ((hi b).2 x)), fun b hb hb2 => (hi b).2 (h.im b hb ((hi2 b).1 hb2))⟩
theorem R.loop (h : R W0 CR m s w) {l b : Nat} {r r' : Rec} {L' : Loop} (hl : m.l l = some b) (hr : lget s.lps l = some r) (hL : LoopR CR m r' L') :
    R W0 CR m { s with lps := lset s.lps l r' } (w.putObj b (.loop L')) ∧ Stp m s w m { s with lps := lset s.lps l r' } (w.putObj b (.loop L')) := by
  obtain ⟨hB, L, hb, _⟩ := h.lp l b hl r hr
  have hblt := (Array.getElem?_eq_some_iff.1 hb).1
  have hheap : ∀ j, j ≠ b → (w.putObj b (.loop L')).heap[j]? = w.heap[j]? := fun j hj => World.putObj_heap_other hj
  have hlv : ∀ j, (lget (lset s.lps l r') j).isSome = (lget s.lps j).isSome := by
    intro j; rw [lget_lset]
    by_cases e : j = l
    · subst e; simp [hr]
    · simp [e]
  constructor
  · refine ⟨by simpa using h.size, fun j hj => (hheap j (by omega)).trans (h.old j hj), h.dom, ?_, h.inj, ?_, ?_⟩
    · intro k b2 f2 t2 hk r2 hr2
      obtain ⟨h1, h2⟩ := h.row k b2 f2 t2 hk r2 hr2
      have hne : b2 ≠ b := by
        rintro rfl
        obtain ⟨c0, e0, h4, _⟩ := h2
        rw [h4] at hb; cases hb
      exact ⟨h1, h2.ext h.dom (Ext.refl _ _ _) (hheap b2 hne)⟩
    · intro j b2 hj r2 hr2
      simp only [lget_lset] at hr2
      by_cases e : j = l
      · subst e
        rw [hl] at hj; cases hj
        simp [hr] at hr2; subst hr2
        exact ⟨hB, L', World.putObj_heap_same hblt, hL⟩
      · simp [e] at hr2
        obtain ⟨h1, L2, h2, h3⟩ := h.lp j b2 hj r2 hr2
        have hne : b2 ≠ b := fun eb => e (h.linj j l b (eb ▸ hj) hl (by rw [hr2]; rfl) (by rw [hr]; rfl))
        exact ⟨h1, L2, (hheap b2 hne).trans h2, h3⟩
    · intro l1 l2 b2 h1 h2 h3 h4
      simp only [hlv] at h3 h4
      exact h.linj l1 l2 b2 h1 h2 h3 h4
  · refine ⟨Ext.refl _ _ _, Nat.le_refl _, Nat.le_refl _, by simp, rfl, rfl, rfl, fun b2 hb2 hi => hheap b2 ?_, ?_⟩
    · rintro rfl
      exact hi (.inr ⟨l, hl, by rw [hr]; rfl⟩)
    · rintro b2 hb2 (⟨j, f2, t2, hj, hlj⟩ | ⟨j, hj, hrj⟩)
      · exact .inl ⟨j, f2, t2, hj, hlj⟩
      · simp only [hlv] at hrj
        exact .inr ⟨j, hj, hrj⟩
def Mp.addL (m : Mp) (k : Nat) (x : Nat) : Mp := { m with l := fun j => if j = k then some x else m.l j }
theorem R.newLoop (h : R W0 CR m s w) {e : Env} {ps : List Nat} {asg bdy : C} {D : Obj} {L : Loop} (hD : ∀ c e fz, D ≠ .cells c e fz) (hL : LoopR CR m { env := e, ps, asg, body := bdy, st := .ready, pend := .nrm } L) :
    R W0 CR (m.addL s.nl (w.heap.size + 1)) (EV.newLoop e ps asg bdy s) ((w.alloc D).alloc (.loop L)) ∧ Stp m s w (m.addL s.nl (w.heap.size + 1)) (EV.newLoop e ps asg bdy s) ((w.alloc D).alloc (.loop L)) := by
  have hext : Ext s.n s.nl m (m.addL s.nl (w.heap.size + 1)) := ⟨fun _ _ => rfl, fun l hl => by simp [Mp.addL]; omega⟩
  have hold : ∀ b, b < w.heap.size → ((w.alloc D).alloc (.loop L)).heap[b]? = w.heap[b]? := fun b hb => (heap_alloc_lt _ _ (by simp; omega)).trans (heap_alloc_lt w _ hb)
  have hnew : ((w.alloc D).alloc (.loop L)).heap[w.heap.size + 1]? = some (.loop L) := by
    have := heap_alloc_at (w.alloc D) (.loop L); simpa using this
  have hother : ∀ l, l ≠ s.nl → lget (EV.newLoop e ps asg bdy s).lps l = lget s.lps l := fun l hl => by simp [EV.newLoop, lget, Ne.symm hl]
  constructor
  · refine ⟨by have := h.size; simp; omega, fun j hj => (hold j (Nat.lt_of_lt_of_le hj h.size)).trans (h.old j hj), ⟨fun k x hk => h.dom.1 k x hk, fun l x hl => ?_⟩, ?_, h.inj, ?_, ?_⟩
    · show l < s.nl + 1
      by_cases e1 : l = s.nl
      · omega
      · simp [Mp.addL, e1] at hl; have := h.dom.2 l x hl; omega
    · intro k b f t hk r hr
      obtain ⟨h1, h2⟩ := h.row k b f t hk r hr
      exact ⟨h1, h2.ext h.dom hext (hold b h2.lt)⟩
    · intro l b hl r hr
      by_cases e1 : l = s.nl
      · subst e1
        simp [Mp.addL] at hl; subst hl
        simp [EV.newLoop, lget] at hr; subst hr
        exact ⟨by have := h.size; omega, L, hnew, hL.ext h.dom hext⟩
      · simp [Mp.addL, e1] at hl
        rw [hother l e1] at hr
        obtain ⟨h1, L2, h2, h3⟩ := h.lp l b hl r hr
        exact ⟨h1, L2, (hold b (Array.getElem?_eq_some_iff.1 h2).1).trans h2, h3.ext h.dom hext⟩
    · intro l1 l2 b h1 h2 h3 h4
      have key : ∀ l, (m.addL s.nl (w.heap.size + 1)).l l = some b → (lget (EV.newLoop e ps asg bdy s).lps l).isSome = true → (l = s.nl ∧ b = w.heap.size + 1) ∨ (l ≠ s.nl ∧ m.l l = some b ∧ (lget s.lps l).isSome = true ∧ b < w.heap.size) := by
        intro l hl hs
        by_cases e1 : l = s.nl
        · subst e1; simp [Mp.addL] at hl; exact .inl ⟨rfl, hl.symm⟩
        · simp [Mp.addL, e1] at hl
          rw [hother l e1] at hs
          obtain ⟨r, hr⟩ := Option.isSome_iff_exists.1 hs
          obtain ⟨_, L2, h2, _⟩ := h.lp l b hl r hr
          exact .inr ⟨e1, hl, hs, (Array.getElem?_eq_some_iff.1 h2).1⟩
      rcases key l1 h1 h3 with ⟨a1, a2⟩ | ⟨a1, a2, a3, a4⟩ <;> rcases key l2 h2 h4 with ⟨b1, b2⟩ | ⟨b1, b2, b3, b4⟩
      · omega
      · omega
      · omega
      · exact h.linj l1 l2 b a2 b2 a3 b3
  · refine ⟨hext, Nat.le_refl _, Nat.le_succ _, by simp; omega, rfl, rfl, rfl, fun b hb _ => hold b hb, ?_⟩
    rintro b hb (⟨k, f, t, hk, hlk⟩ | ⟨l, hl, hr⟩)
    · exact .inl ⟨k, f, t, hk, hlk⟩
    · by_cases e1 : l = s.nl
      · subst e1; simp [Mp.addL] at hl; omega
      · simp [Mp.addL, e1] at hl
        rw [hother l e1] at hr
        exact .inr ⟨l, hl, hr⟩
theorem R.dropLoop (h : R W0 CR m s w) (l : Nat) : R W0 CR m { s with lps := ldel s.lps l } w ∧ Stp m s w m { s with lps := ldel s.lps l } w := by
  have hg : ∀ j r, lget (ldel s.lps l) j = some r → lget s.lps j = some r := by
    intro j r hj; rw [lget_ldel] at hj; split at hj
    · cases hj
    · exact hj
  have hg' : ∀ j, (lget (ldel s.lps l) j).isSome = true → (lget s.lps j).isSome = true := by
    intro j hj; obtain ⟨r, hr⟩ := Option.isSome_iff_exists.1 hj; rw [hg j r hr]; rfl
  constructor
  · exact ⟨h.size, h.old, h.dom, h.row, h.inj, fun j b hj r hr => h.lp j b hj r (hg j r hr), fun l1 l2 b h1 h2 h3 h4 => h.linj l1 l2 b h1 h2 (hg' _ h3) (hg' _ h4)⟩
  · refine ⟨Ext.refl _ _ _, Nat.le_refl _, Nat.le_refl _, Nat.le_refl _, rfl, rfl, rfl, fun _ _ _ => rfl, ?_⟩
    rintro b hb (⟨k, f, t, hk, hlk⟩ | ⟨j, hj, hr⟩)
    · exact .inl ⟨k, f, t, hk, hlk⟩
    · exact .inr ⟨j, hj, hg' j hr⟩
theorem R.restore {s1 : St} {m1 : Mp} {w1 : World} (h0 : R W0 CR m s w) (h1 : R W0 CR m1 s1 w1) (hs : Stp m s w m1 s1 w1) (hrow : ∀ k, k < s.n → s1.get k = s.get k) (hlp : ∀ l, l < s.nl → lget s1.lps l = lget s.lps l) :
    R W0 CR m s w1 ∧ Stp m s w m s w1 := by
  have hr : ∀ k b f t, m.r k = some (b, f, t) → ∀ row, s.get k = some row → m1.r k = some (b, f, t) ∧ s1.get k = some row := fun k b f t hk row hg =>
    ⟨(hs.ext.1 k (h0.dom.1 k _ hk)).trans hk, (hrow k (h0.dom.1 k _ hk)).trans hg⟩
  have hl : ∀ l b, m.l l = some b → ∀ r, lget s.lps l = some r → m1.l l = some b ∧ lget s1.lps l = some r := fun l b hl r hg =>
    ⟨(hs.ext.2 l (h0.dom.2 l _ hl)).trans hl, (hlp l (h0.dom.2 l _ hl)).trans hg⟩
  constructor
  · refine ⟨h1.size, h1.old, h0.dom, ?_, ?_, ?_, ?_⟩
    · intro k b f t hk row hg
      obtain ⟨a1, a2⟩ := hr k b f t hk row hg
      obtain ⟨b1, c, e, b2, b3, b4, b5, b6⟩ := h1.row k b f t a1 row a2
      obtain ⟨_, c0, e0, d2, d3, d4, d5, _⟩ := h0.row k b f t hk row hg
      refine ⟨b1, c, e, b2, b3, b4, fun i v hv => ?_, b6⟩
      obtain ⟨v', x1, x2⟩ := b5 i v hv
      obtain ⟨v0, y1, y2⟩ := d5 i v hv
      exact ⟨v', x1, y2.back h0.dom hs.ext x2⟩
    · intro k1 k2 b f1 t1 f2 t2 g1 g2 l1 l2
      obtain ⟨r1, e1⟩ := Option.isSome_iff_exists.1 l1
      obtain ⟨r2, e2⟩ := Option.isSome_iff_exists.1 l2
      obtain ⟨a1, a2⟩ := hr k1 b f1 t1 g1 r1 e1
      obtain ⟨b1, b2⟩ := hr k2 b f2 t2 g2 r2 e2
      exact h1.inj k1 k2 b f1 t1 f2 t2 a1 b1 (by rw [a2]; rfl) (by rw [b2]; rfl)
    · intro l b hl1 r hg
      obtain ⟨a1, a2⟩ := hl l b hl1 r hg
      obtain ⟨b1, L, b2, b3⟩ := h1.lp l b a1 r a2
      obtain ⟨_, L0, d2, d3⟩ := h0.lp l b hl1 r hg
      refine ⟨b1, L, b2, { b3 with env := fun t v hv => ?_ }⟩
      obtain ⟨v', x1, x2⟩ := b3.env t v hv
      obtain ⟨v0, y1, y2⟩ := d3.env t v hv
      exact ⟨v', x1, y2.back h0.dom hs.ext x2⟩
    · intro l1 l2 b g1 g2 e1 e2
      obtain ⟨r1, e1⟩ := Option.isSome_iff_exists.1 e1
      obtain ⟨r2, e2⟩ := Option.isSome_iff_exists.1 e2
      obtain ⟨a1, a2⟩ := hl l1 b g1 r1 e1
      obtain ⟨b1, b2⟩ := hl l2 b g2 r2 e2
      exact h1.linj l1 l2 b a1 b1 (by rw [a2]; rfl) (by rw [b2]; rfl)
  · exact ⟨Ext.refl _ _ _, Nat.le_refl _, Nat.le_refl _, hs.sz, hs.os, hs.tape, hs.output, hs.fr, fun _ _ h => h⟩
end Go.Proofs.YtakdnpafdadblaaGreat.EV
namespace Go.Proofs.YtakdnpafdadblaaGreat.EV
open Go
structure Cfg where
  G : Program
  eqT : Nat → Option Nat
  fAdd : Nat
  fSub : Nat
def plainC : Value → Bool
  | .bool _ => true
  | .int _ _ => true
  | .string _ => true
  | .pointer none => true
  | .slice none 0 0 => true
  | .nilFunc => true
  | _ => false
def okO : Operand → Bool
  | .tmp _ => true
  | .const v => plainC v
  | .func _ => true
  | .global _ => false
def aggN (G : Program) (t : Nat) : Option (Option Nat) :=
  match G.underlying t, G.info? t with
  | some d, some i => match d with
    | .struct _ => some (some i.size)
    | .array _ _ => some (some i.size)
    | _ => some none
  | _, _ => none
def szOf (G : Program) (t : Nat) : Option Nat := (G.info? t).map (·.size)
def zeroC (G : Program) (t : Nat) : Option (List Value) :=
  match G.info? t with
  | some i => match i.zero with
    | some z => if (cells z).all plainC then some (cells z) else none
    | none => none
  | none => none
def places (G : Program) : List Field → Option (List (Nat × Nat))
  | [] => some []
  | f :: r => match G.info? f.type, places G r with
    | some i, some l => some ((f.offset, i.size) :: l)
    | _, _ => none
def partsS (pl : List (Nat × Nat)) : List (Nat × Operand) → Option (List (Nat × Nat × Operand))
  | [] => some []
  | (i, x) :: r => match pl[i]?, partsS pl r with
    | some q, some l => if okO x then some ((q.1, q.2, x) :: l) else none
    | _, _ => none
def okOs (l : List Operand) : Bool := l.all okO
def okOpt : Option Operand → Bool
  | none => true
  | some x => okO x
def apOf : P → List Operand
  | .ld _ _ ap => ap
  | .st _ _ _ ap => ap
  | .app _ _ _ ap => ap
  | _ => []
def qOf : P → Bool
  | .cal _ _ q _ => q
  | .clv _ _ q _ => q
  | _ => false
def prOf : P → List Operand
  | .cal _ _ _ pr => pr
  | .clv _ _ _ pr => pr
  | _ => []
def ok (b : Bool) (p : P) : Option P := if b then some p else none
def narrow (G : Program) (e : Nat) : Option Nat :=
  match G.info? e with
  | some i => if i.bytes ≤ 8192 then some i.size else none
  | none => none
def cCall (c : Cfg) (k : Call) (x : P) : Option P :=
  match k.callee with
  | .value (.func f) =>
    if f = c.fAdd then ok (okOs k.args.toList) (.ext 0 k.args.toList)
    else if f = c.fSub then ok (okOs k.args.toList) (.ext 1 k.args.toList)
    else ok (okOs k.args.toList && okOs (prOf x)) (.cal f k.args.toList (qOf x) (prOf x))
  | .value (.tmp t) => ok (okOs k.args.toList && okOs (prOf x)) (.clv (.tmp t) k.args.toList (qOf x) (prOf x))
  | .value _ => none
  | .invoke _ _ => none
  | .builtin b =>
    match b, k.args.toList, k.argTypes.toList with
    | .len, [y], [t] => match c.G.underlying t with
      | some (.slice _) => ok (okO y) (.len y)
      | some .string => ok (okO y) (.lens y)
      | some (.array n _) => ok (okO y) (.lena n)
      | _ => none
    | .append, [y, z], [t, u] => match c.G.underlying t, c.G.underlying u with
      | some (.slice e), some (.slice _) => match narrow c.G e, zeroC c.G e with
        | some n, some zz => ok (okO y && okO z && okOs (apOf x) && zz.length == n && decide (0 < n)) (.app n y z (apOf x))
        | _, _ => none
      | some (.slice e), some .string => match narrow c.G e, zeroC c.G e with
        | some n, some zz => ok (okO y && okO z && n == 1 && zz.length == 1) (.apps y z)
        | _, _ => none
      | _, _ => none
    | .copy, [y, z], t :: _ => match c.G.underlying t with
      | some (.slice e) => match szOf c.G e with
        | some n => ok (okO y && okO z) (.cpy n y z)
        | none => none
      | _ => none
    | .min, l, _ => ok (okOs l) (.mnx false l)
    | .max, l, _ => ok (okOs l) (.mnx true l)
    | .clear, [y], [t] => match c.G.underlying t with
      | some (.slice e) => match zeroC c.G e, szOf c.G e with
        | some z, some n => ok (okO y && z.length == n && decide (0 < n)) (.clr n z y)
        | _, _ => none
      | _ => none
    | _, _, _ => none
def isEq : BinOp → Bool
  | .eql => true
  | .neq => true
  | _ => false
def isNeq : BinOp → Bool
  | .neq => true
  | _ => false
def cBuild (c : Cfg) (t : Nat) (ps : List (Nat × Operand)) : Option P :=
  match zeroC c.G t, c.G.underlying t with
  | some z, some (.struct fs) => match places c.G fs.toList with
    | some pl => match partsS pl ps with
      | some l => some (.bld z l)
      | none => none
    | none => none
  | some z, some (.array _ e) => match szOf c.G e with
    | some n => ok (ps.all fun p => okO p.2) (.bld z (ps.map fun p => (p.1 * n, n, p.2)))
    | none => none
  | _, _ => none
def cBuildS (c : Cfg) (t len : Nat) (ps : List (Nat × Operand)) : Option P :=
  match c.G.underlying t with
  | some (.slice e) => match szOf c.G e, zeroC c.G e with
    | some n, some z => ok ((ps.all fun p => okO p.2) && z.length == n && decide (0 < n) && decide (len * n ≤ 16777216)) (.bldS n z len ps)
    | _, _ => none
  | _ => none
def cBin (c : Cfg) (op : BinOp) (t : Nat) (y z : Operand) : Option P :=
  match isEq op, c.eqT t with
  | true, some n => ok (okO y && okO z) (.eqa (isNeq op) n y z)
  | true, none => match c.G.underlying t with
    | some (.slice _) => ok (okO y && okO z) (.eqn false (isNeq op) y z)
    | some (.func _ _ _) => ok (okO y && okO z) (.eqn true (isNeq op) y z)
    | some _ => ok (okO y && okO z) (.bin op y z)
    | none => none
  | false, _ => match c.G.underlying t with
    | some _ => ok (okO y && okO z) (.bin op y z)
    | none => none
def cConv (c : Cfg) (s d : Nat) (y : Operand) : Option P :=
  match c.G.underlying s, c.G.underlying d with
  | some _, some (.int k) => ok (okO y) (.cvi k y)
  | some (.slice e), some .string => match c.G.underlying e with
    | some (.int .u8) => ok (okO y) (.cvs y)
    | _ => none
  | _, _ => none
def cMks (c : Cfg) (t : Nat) (l k : Operand) : Option P :=
  match c.G.underlying t with
  | some (.slice e) => match narrow c.G e, zeroC c.G e with
    | some n, some z => ok (okO l && okO k && z.length == n && decide (0 < n)) (.mks n z l k)
    | _, _ => none
  | _ => none
def cSli (c : Cfg) (t : Nat) (y : Operand) (lo hi mx : Option Operand) : Option P :=
  match c.G.underlying t with
  | some (.slice e) => match szOf c.G e with
    | some n => ok (okO y && okOpt lo && okOpt hi && okOpt mx) (.sli n y lo hi mx)
    | none => none
  | some .string => ok (okO y && okOpt lo && okOpt hi && mx.isNone) (.sls y lo hi)
  | some (.array k e) => match szOf c.G e with
    | some n => ok (okO y && okOpt lo && okOpt hi && mx.isNone && decide (0 < n)) (.sla k n y lo hi)
    | none => none
  | _ => none
def cFa (c : Cfg) (t : Nat) (y : Operand) (f : Nat) : Option P :=
  match c.G.underlying t with
  | some (.struct fs) => match fs[f]? with
    | some q => match szOf c.G q.type with
      | some n => ok (okO y && decide (0 < n)) (.fa q.offset y)
      | none => none
    | none => none
  | _ => none
def cFld (c : Cfg) (t : Nat) (y : Operand) (f : Nat) : Option P :=
  match c.G.underlying t with
  | some (.struct fs) => match fs[f]? with
    | some q => match aggN c.G q.type with
      | some n => ok (okO y) (.fld q.offset n y)
      | none => none
    | none => none
  | _ => none
def cIa (c : Cfg) (t : Nat) (y i : Operand) : Option P :=
  match c.G.underlying t with
  | some (.slice e) => match szOf c.G e with
    | some n => ok (okO y && okO i) (.ia n y i)
    | none => none
  | some (.array k e) => match szOf c.G e with
    | some n => ok (okO y && okO i) (.iaa k n y i)
    | none => none
  | _ => none
def cIx (c : Cfg) (t : Nat) (y i : Operand) : Option P :=
  match c.G.underlying t with
  | some (.array k e) => match szOf c.G e, aggN c.G e with
    | some n, some g => ok (okO y && okO i) (.ix k n g y i)
    | _, _ => none
  | some .string => ok (okO y && okO i) (.ixs y i)
  | _ => none
def cNew (c : Cfg) (t : Nat) : Option P :=
  match zeroC c.G t with
  | some z => some (.new z)
  | none => none
def isGlob : Operand → Bool
  | .global _ => true
  | _ => false
def cLd (c : Cfg) (t : Nat) (a : Operand) (x : P) : Option P :=
  if isGlob a then some .bad else
  match aggN c.G t with
  | some n => ok (okO a && okOs (apOf x)) (.ld n a (apOf x))
  | none => none
def cSt (c : Cfg) (t : Nat) (a y : Operand) (x : P) : Option P :=
  match szOf c.G t with
  | some n => ok (okO a && okO y && okOs (apOf x)) (.st n a y (apOf x))
  | none => none
def cUn (op : UnOp) (y : Operand) : Option P :=
  match op with
  | .not => ok (okO y) (.not y)
  | .xor => ok (okO y) (.inv y)
  | _ => none
def cMkf (fn : Fn) (first : Array Operand) (capt : Array Operand) : Option P :=
  match fn with
  | .func f => ok (first.isEmpty && okOs capt.toList) (.mkf f capt.toList)
  | _ => none
def cOp (c : Cfg) (o : Op) (x : P) : Option P :=
  match o with
  | .move y => ok (okO y) (.mv y)
  | .assign y => ok (okO y) (.mv y)
  | .pick k a b => ok (okO k && okO a && okO b) (.pick k a b)
  | .alloc t => cNew c t
  | .box _ y => ok (okO y) (.box y)
  | .build t ps => cBuild c t ps.toList
  | .buildSlice t len ps => cBuildS c t len ps.toList
  | .load t a => cLd c t a x
  | .store t a y => cSt c t a y x
  | .nilCheck y => ok (okO y) (.nck y)
  | .binOp op t y z _ => cBin c op t y z
  | .unOp op _ y => cUn op y
  | .convert s d y => cConv c s d y
  | .makeFunc fn first capt => cMkf fn first capt
  | .makeSlice t l k => cMks c t l k
  | .slice t y lo hi mx => cSli c t y lo hi mx
  | .fieldAddr t y f => cFa c t y f
  | .field t y f => cFld c t y f
  | .indexAddr t y i => cIa c t y i
  | .index t y i => cIx c t y i
  | .extract y i => ok (okO y) (.ex y i)
  | .call k => cCall c k x
  | .panic _ => some .bad
  | _ => none
def cGuard (ops : Array Oper) : Option (Nat × Bool) → Option (Option (Nat × Bool))
  | none => some none
  | some (j, b) => match (ops[j]?).bind (·.dst) with
    | some t => some (some (t, b))
    | none => none
def dstOk (N : Nat) : Option Nat → Bool
  | none => true
  | some d => decide (d < N)
def gOk (N : Nat) : Option (Nat × Bool) → Bool
  | none => true
  | some (t, _) => decide (t < N)
def cOper (c : Cfg) (N : Nat) (ops : Array Oper) (o : Oper) (x : I) : Option I :=
  match cOp c o.op x.p, cGuard ops o.guard with
  | some p, some g => if dstOk N o.dst && gOk N g then some { d := o.dst, p, g } else none
  | _, _ => none
def cOpers (c : Cfg) (N : Nat) (ops : Array Oper) : List Oper → List I → Option (List I)
  | [], [] => some []
  | o :: r, x :: l => match cOper c N ops o x, cOpers c N ops r l with
    | some i, some is => some (i :: is)
    | _, _ => none
  | _, _ => none
def opTmps : List Operand → List Nat
  | [] => []
  | .tmp t :: r => t :: opTmps r
  | _ :: r => opTmps r
def looks (o : Oper) (i : I) : List Nat := opTmps o.op.operands.toList ++ (match i.g with | some (t, _) => [t] | none => [])
def klass : P → Nat
  | .mv _ => 0 | .pick .. => 0 | .bld .. => 0 | .bin .. => 0 | .eqa .. => 0 | .eqn .. => 0 | .not _ => 0 | .inv _ => 0 | .cvi .. => 0 | .nck _ => 0 | .mkf .. => 0
  | .sli .. => 0 | .sls .. => 0 | .fa .. => 0 | .fld .. => 0 | .ia .. => 0 | .iaa .. => 0 | .ix .. => 0 | .ixs .. => 0 | .ex .. => 0 | .ext .. => 0 | .len _ => 0 | .lens _ => 0 | .lena _ => 0 | .mnx .. => 0
  | .new _ => 1 | .box _ => 1 | .bldS .. => 1 | .mks .. => 1
  | .ld .. => 2 | .st .. => 3 | .cal .. => 4 | .clv .. => 4 | .app .. => 5 | _ => 9
end Go.Proofs.YtakdnpafdadblaaGreat.EV
namespace Go.Proofs.YtakdnpafdadblaaGreat.EV
open Go
def EqF (G : Program) (t n : Nat) : Prop := ∀ (xs ys : Array Value) (r : Bool), xs.size = n → ys.size = n → eqCells xs.toList ys.toList = some r → ∀ (y z : Operand) (w : World),
  (eqGuard .eql t y z (.agg xs) (.agg ys)).run G w = .ok () w ∧ (eqGuard .neq t y z (.agg xs) (.agg ys)).run G w = .ok () w ∧ (Op.equal t (.agg xs) (.agg ys)).run G w = .ok r w
structure Cfg.Ok (c : Cfg) : Prop where
  mixed : c.G.follows .mixedOrders = true
  eq : ∀ t n, c.eqT t = some n → EqF c.G t n
  add : ∀ (vs : List Value) (v : Value) (w : World), add64 vs = some v → (callFunc c.fAdd vs.toArray).run c.G w = .ok (.value v) w
  sub : ∀ (vs : List Value) (v : Value) (w : World), sub64 vs = some v → (callFunc c.fSub vs.toArray).run c.G w = .ok (.value v) w
variable {c : Cfg} {m : Mp} {e : Env} {a : Act} {ro : Addr → Option Value} {K : H} {s s' : St} {v : Value} {o : Oper}
theorem VR.plain (m : Mp) {v : Value} (h : plainC v = true) : VR m v v := by
  unfold plainC at h
  split at h
  · exact .bool _
  · exact .int _ _
  · exact .str _
  · exact .ptrN
  · exact .slN
  · exact .fnN
  · cases h
theorem VRs.plain (m : Mp) {l : List Value} (h : l.all plainC = true) : VRs m l l :=
  ⟨rfl, fun i v v' hv hv' => by rw [hv] at hv'; cases hv'; exact .plain m (List.all_eq_true.1 h v (List.mem_of_getElem? hv))⟩
theorem plain_ones {l : List Value} (h : l.all plainC = true) : Ones l := fun v hv => by
  have := List.all_eq_true.1 h v hv
  unfold plainC at this
  split at this <;> first | rfl | cases this
theorem intR {k : IntKind} {n : Int} {u : Value} (h : VR m (.int k n) u) : u = .int k n := by cases h; rfl
theorem boolR {b : Bool} {u : Value} (h : VR m (.bool b) u) : u = .bool b := by cases h; rfl
theorem strR {b : ByteArray} {u : Value} (h : VR m (.string b) u) : u = .string b := by cases h; rfl
theorem opd_sim (hE : EnvR m e a.tmps) {x : Operand} (hx : okO x = true) (h : opd e x = some v) : VR m v (a.eval x) := by
  cases x with
  | tmp t =>
    obtain ⟨v', h1, h2⟩ := hE t v h
    simp only [Act.eval, Array.getD_eq_getD_getElem?, h1, Option.getD_some]
    exact h2
  | const u => simp only [opd, Option.some.injEq] at h; subst h; exact .plain m hx
  | func f => simp only [opd, Option.some.injEq] at h; subst h; exact .fn f #[] #[] rfl (by simp)
  | global g => cases hx
theorem opds_sim (hE : EnvR m e a.tmps) : ∀ {l : List Operand} {vs : List Value}, okOs l = true → opds e l = some vs → VRs m vs (l.map a.eval)
  | [], vs, _, h => by simp only [opds, Option.some.injEq] at h; subst h; exact .nil m
  | x :: r, vs, hx, h => by
    simp only [okOs, List.all_cons, Bool.and_eq_true] at hx
    simp only [opds] at h
    split at h
    · rename_i u us h1 h2
      cases h
      exact .cons (opd_sim hE hx.1 h1) (opds_sim hE (by simpa [okOs] using hx.2) h2)
    · cases h
theorem run_underlying' {G : Program} {t : Nat} {d : TypeDesc} (h : G.underlying t = some d) (w : World) : (underlying t).run G w = .ok d w := by
  simp [underlying, h]
theorem run_sizeOf' {G : Program} {t n : Nat} (h : szOf G t = some n) (w : World) : (sizeOf t).run G w = .ok n w := by
  unfold szOf at h
  cases hi : G.info? t with
  | none => simp [hi] at h
  | some i => simp [hi] at h; simp [sizeOf, typeInfo, hi, h]
theorem run_zeroValue' {G : Program} {t : Nat} {z : List Value} (h : zeroC G t = some z) (w : World) : ∃ u, (zeroValue t).run G w = .ok u w ∧ cells u = z ∧ z.all plainC = true := by
  unfold zeroC at h
  split at h
  · rename_i i hi
    split at h
    · rename_i u hu
      split at h
      · rename_i hp; cases h; exact ⟨u, by simp [zeroValue, typeInfo, hi, hu], rfl, hp⟩
      · cases h
    · cases h
  · cases h
theorem cells_eq (v : Value) : v.cells.toList = cells v := by cases v <;> rfl
def PureR (c : Cfg) (m : Mp) (a : Act) (o : Oper) (s s' : St) (v : Value) : Prop := s' = s ∧ ∃ v', VR m v v' ∧ ∀ w, (execOp a.eval o).run c.G w = .ok (.value v') w
theorem ret_eq {v' : Value} (h : ret v s = some (v', s')) : v' = v ∧ s' = s := by simp [ret] at h; exact ⟨h.1.symm, h.2.symm⟩
theorem ok_eq {b : Bool} {p q : P} (h : ok b p = some q) : b = true ∧ q = p := by
  unfold ok at h; split at h
  · rename_i hb; exact ⟨hb, by cases h; rfl⟩
  · cases h
theorem s_mv {y : Operand} (ho : o.op = .move y ∨ o.op = .assign y) (hy : okO y = true) (hE : EnvR m e a.tmps) (h : op1 ro K (.mv y) e s = some (v, s')) : PureR c m a o s s' v := by
  simp only [op1] at h
  split at h
  · rename_i u hu
    obtain ⟨rfl, rfl⟩ := ret_eq h
    refine ⟨rfl, _, opd_sim hE hy hu, fun w => ?_⟩
    rcases ho with ho | ho <;> simp [execOp, ho]
  · cases h
theorem s_pick {k x y : Operand} (ho : o.op = .pick k x y) (hk : okO k = true) (hx : okO x = true) (hy : okO y = true) (hE : EnvR m e a.tmps) (h : op1 ro K (.pick k x y) e s = some (v, s')) : PureR c m a o s s' v := by
  simp only [op1] at h
  split at h
  · rename_i t ht
    split at h
    · rename_i u hu
      obtain ⟨rfl, rfl⟩ := ret_eq h
      have hb : a.eval k = .bool t := boolR (opd_sim hE hk ht)
      cases t
      · exact ⟨rfl, _, opd_sim hE hy (by simpa using hu), fun w => by simp [execOp, ho, hb, asBool]⟩
      · exact ⟨rfl, _, opd_sim hE hx (by simpa using hu), fun w => by simp [execOp, ho, hb, asBool]⟩
    · cases h
  · cases h
theorem s_not {y : Operand} {t : Nat} (ho : o.op = .unOp .not t y) (hy : okO y = true) (hE : EnvR m e a.tmps) (h : op1 ro K (.not y) e s = some (v, s')) : PureR c m a o s s' v := by
  simp only [op1] at h
  split at h
  · rename_i b hb
    obtain ⟨rfl, rfl⟩ := ret_eq h
    have he : a.eval y = .bool b := boolR (opd_sim hE hy hb)
    exact ⟨rfl, _, .bool _, fun w => by simp [execOp, ho, he, Op.unary]⟩
  · cases h
theorem run_intBin {G : Program} {op : BinOp} {k : IntKind} {x y : Int} (h : intBin op k x y = some v) (hsh : op ≠ .shl ∧ op ≠ .shr) (t : Nat) (w : World) : (binOp op t (.int k x) (.int k y)).run G w = .ok v w ∧ VR m v v := by
  cases op <;> simp only [intBin] at h
  case quo => split at h
              · cases h
              · rename_i hz; cases h; exact ⟨by simp [binOp, Op.intDiv, hz], .int _ _⟩
  case rem => split at h
              · cases h
              · rename_i hz; cases h; exact ⟨by simp [binOp, Op.intDiv, hz], .int _ _⟩
  case shl => cases h
  case shr => cases h
  case andNot => cases h
  case and => cases h; exact ⟨by simp only [binOp, ne_eq, not_true_eq_false, if_false, Op.intBits, Sem.run_pure], .int _ _⟩
  case or => cases h; exact ⟨by simp only [binOp, ne_eq, not_true_eq_false, if_false, Op.intBits, Sem.run_pure], .int _ _⟩
  case xor => cases h; exact ⟨by simp only [binOp, ne_eq, not_true_eq_false, if_false, Op.intBits, Sem.run_pure], .int _ _⟩
  case add => cases h; exact ⟨by simp [binOp, Op.intArith], .int _ _⟩
  case sub => cases h; exact ⟨by simp [binOp, Op.intArith], .int _ _⟩
  case mul => cases h; exact ⟨by simp [binOp, Op.intArith], .int _ _⟩
  all_goals (cases h; exact ⟨by simp [binOp, Op.intCmp], .bool _⟩)
theorem s_inv {y : Operand} {t : Nat} (ho : o.op = .unOp .xor t y) (hy : okO y = true) (hE : EnvR m e a.tmps) (h : op1 ro K (.inv y) e s = some (v, s')) : PureR c m a o s s' v := by
  simp only [op1] at h
  split at h
  · rename_i k n hb
    simp only [intBin] at h
    obtain ⟨rfl, rfl⟩ := ret_eq h
    have he := intR (opd_sim hE hy hb)
    exact ⟨rfl, _, .int _ _, fun w => by simp [execOp, ho, he, Op.unary, Op.intBits]⟩
  · cases h
theorem s_cvi {y : Operand} {src d : Nat} {k : IntKind} {ds : TypeDesc} (ho : o.op = .convert src d y) (h1 : c.G.underlying src = some ds) (h2 : c.G.underlying d = some (.int k)) (hy : okO y = true) (hE : EnvR m e a.tmps) (h : op1 ro K (.cvi k y) e s = some (v, s')) : PureR c m a o s s' v := by
  simp only [op1] at h
  split at h
  · rename_i k0 n hb
    obtain ⟨rfl, rfl⟩ := ret_eq h
    have he := intR (opd_sim hE hy hb)
    exact ⟨rfl, _, .int _ _, fun w => by simp [execOp, ho, he, convert, run_underlying' h1, run_underlying' h2, Conv.intToInt]⟩
  · cases h
theorem s_mkf {f : Nat} {first capt : Array Operand} (ho : o.op = .makeFunc (.func f) first capt) (hf : first.isEmpty = true) (hy : okOs capt.toList = true) (hE : EnvR m e a.tmps) (h : op1 ro K (.mkf f capt.toList) e s = some (v, s')) : PureR c m a o s s' v := by
  simp only [op1] at h
  split at h
  · rename_i vs hvs
    obtain ⟨rfl, rfl⟩ := ret_eq h
    have hh := opds_sim hE hy hvs
    have hf0 : first = #[] := by simpa using hf
    refine ⟨rfl, .func (.func f) #[] (capt.map a.eval), .fn f _ _ (by simpa using hh.1) (fun i u u' h1 h2 => hh.2 i u u' (by simpa using h1) (by simpa using h2)), fun w => ?_⟩
    simp [execOp, ho, Instr.makeFunc, hf0]
  · cases h
theorem s_ex {y : Operand} {i : Nat} (ho : o.op = .extract y i) (hy : okO y = true) (hE : EnvR m e a.tmps) (h : op1 ro K (.ex y i) e s = some (v, s')) : PureR c m a o s s' v := by
  simp only [op1] at h
  split at h
  · rename_i vs hvs
    split at h
    · rename_i u hu
      obtain ⟨rfl, rfl⟩ := ret_eq h
      obtain ⟨c', hc, hs⟩ := (opd_sim hE hy hvs).tupL
      obtain ⟨u', h1, h2⟩ := hs.get hu
      exact ⟨rfl, u', h2, fun w => by simp [execOp, ho, hc, Instr.extract, (by simpa using h1 : c'[i]? = some u')]⟩
    · cases h
  · cases h
theorem s_nck {y : Operand} (ho : o.op = .nilCheck y) (hy : okO y = true) (hE : EnvR m e a.tmps) (h : op1 ro K (.nck y) e s = some (v, s')) : PureR c m a o s s' v := by
  simp only [op1] at h
  split at h
  · rename_i b hb
    obtain ⟨rfl, rfl⟩ := ret_eq h
    have h1 := opd_sim hE hy hb
    obtain ⟨b', he⟩ : ∃ b', a.eval y = .pointer (some b') := by
      generalize a.eval y = u at h1
      cases h1 with
      | ptrO => exact ⟨_, rfl⟩
      | ptrR => exact ⟨_, rfl⟩
    exact ⟨rfl, _, h1, fun w => by simp [execOp, ho, he]⟩
  · rename_i f b1 b2 hb
    obtain ⟨rfl, rfl⟩ := ret_eq h
    have h1 := opd_sim hE hy hb
    obtain ⟨c', he⟩ : ∃ c', a.eval y = .func (.func f) #[] c' := by
      generalize a.eval y = u at h1
      cases h1 with
      | fn => exact ⟨_, rfl⟩
    exact ⟨rfl, _, h1, fun w => by simp [execOp, ho, he]⟩
  · rename_i f b1 b2 hb
    obtain ⟨rfl, rfl⟩ := ret_eq h
    have h1 := opd_sim hE hy hb
    obtain ⟨c', he⟩ : ∃ c', a.eval y = .func (.yield c') #[] #[] := by
      generalize a.eval y = u at h1
      cases h1 with
      | yl => exact ⟨_, rfl⟩
    exact ⟨rfl, _, h1, fun w => by simp [execOp, ho, he]⟩
  · cases h
theorem eqGuard_int (op : BinOp) (t : Nat) (y z : Operand) (k k' : IntKind) (n n' : Int) (G : Program) (w : World) : (eqGuard op t y z (.int k n) (.int k' n')).run G w = .ok () w := by
  unfold eqGuard; split <;> simp
theorem eqGuard_str (op : BinOp) (t : Nat) (y z : Operand) (x x' : ByteArray) (G : Program) (w : World) : (eqGuard op t y z (.string x) (.string x')).run G w = .ok () w := by
  unfold eqGuard; split <;> simp
theorem run_strBin {G : Program} {op : BinOp} {x y : ByteArray} (h : strBin op x y = some v) (t : Nat) (w : World) : (binOp op t (.string x) (.string y)).run G w = .ok v w ∧ VR m v v := by
  cases op <;> simp only [strBin] at h
  case add => split at h
              · rename_i hz; cases h
                refine ⟨?_, .str _⟩
                have : ¬ ((x.size + y.size : Nat) : Int) > IntKind.i64.max := by
                  simp [IntKind.max, IntKind.signed, IntKind.bits]; omega
                simp only [binOp, Op.stringOp, if_neg this, Sem.run_pure]
              · cases h
  all_goals first
    | (cases h; done)
    | (cases h; exact ⟨by simp only [binOp, Op.stringOp, Sem.run_pure], .bool _⟩)
theorem run_binV {G : Program} {op : BinOp} {x y : Value} (h : binV op x y = some v) (t : Nat) (p q : Operand) (w : World) :
    (eqGuard op t p q x y).run G w = .ok () w ∧ (binOp op t x y).run G w = .ok v w ∧ VR m v v := by
  unfold binV at h
  split at h
  · rename_i k n k' n'
    refine ⟨eqGuard_int op t p q k k' n n' G w, ?_⟩
    split at h
    · split at h
      · cases h
      · rename_i hb; cases h; exact ⟨by simp [binOp, Op.shift, hb], .int _ _⟩
    · split at h
      · cases h
      · rename_i hb; cases h; exact ⟨by simp [binOp, Op.shift, hb], .int _ _⟩
    · rename_i h1 h2
      split at h
      · rename_i hk; subst hk
        exact run_intBin h ⟨h1, h2⟩ t w
      · cases h
  · exact ⟨eqGuard_str op t p q _ _ G w, run_strBin h t w⟩
  · cases h
theorem binV_same {op : BinOp} {x y x' y' : Value} (h : binV op x y = some v) (hx : VR m x x') (hy : VR m y y') : x' = x ∧ y' = y := by
  unfold binV at h
  split at h
  · exact ⟨intR hx, intR hy⟩
  · exact ⟨strR hx, strR hy⟩
  · cases h
theorem s_bin {op : BinOp} {t u : Nat} {y z : Operand} (ho : o.op = .binOp op t y z u) (hy : okO y = true) (hz : okO z = true) (hE : EnvR m e a.tmps) (h : op1 ro K (.bin op y z) e s = some (v, s')) : PureR c m a o s s' v := by
  simp only [op1] at h
  split at h
  · rename_i x1 x2 h1 h2
    split at h
    · rename_i r hr
      obtain ⟨rfl, rfl⟩ := ret_eq h
      obtain ⟨e1, e2⟩ := binV_same hr (opd_sim hE hy h1) (opd_sim hE hz h2)
      refine ⟨rfl, _, (run_binV (m := m) (G := c.G) hr t y z default).2.2, fun w => ?_⟩
      obtain ⟨g1, g2, _⟩ := run_binV (m := m) (G := c.G) hr t y z w
      simp [execOp, ho, e1, e2, g1, g2]
    · cases h
  · cases h
theorem eqCells_same {l l' : List Value} (h : VRs m l l') : ∀ {k k' : List Value} {r : Bool}, VRs m k k' → eqCells l k = some r → l' = l ∧ k' = k := by
  induction l generalizing l' with
  | nil =>
    intro k k' r hk hq
    cases k with
    | nil => exact ⟨h.inv_nil, hk.inv_nil⟩
    | cons => simp [eqCells] at hq
  | cons x l ih =>
    intro k k' r hk hq
    cases k with
    | nil => cases x <;> simp [eqCells] at hq
    | cons y k =>
      cases x <;> try (simp [eqCells] at hq; done)
      cases y <;> try (simp [eqCells] at hq; done)
      simp only [eqCells] at hq
      split at hq
      · split at hq
        · rename_i r2 hr2
          obtain ⟨a', b', rfl, ha, hb⟩ := h.inv_cons
          obtain ⟨c', d', rfl, hc, hd⟩ := hk.inv_cons
          obtain ⟨rfl, rfl⟩ := ih hb hd hr2
          rw [intR ha, intR hc]; exact ⟨rfl, rfl⟩
        · cases hq
      · cases hq
theorem s_eqa (hc : c.Ok) {op : BinOp} {t u n : Nat} {y z : Operand} (ho : o.op = .binOp op t y z u) (hop : op = .eql ∨ op = .neq) (ht : c.eqT t = some n) (hy : okO y = true) (hz : okO z = true) (hE : EnvR m e a.tmps)
    (h : op1 ro K (.eqa (isNeq op) n y z) e s = some (v, s')) : PureR c m a o s s' v := by
  simp only [op1] at h
  split at h
  · rename_i xs ys h1 h2
    split at h
    · rename_i hn
      split at h
      · rename_i r hr
        obtain ⟨rfl, rfl⟩ := ret_eq h
        obtain ⟨xs', ex, hx, _⟩ := (opd_sim hE hy h1).aggL
        obtain ⟨ys', ey, hyy, _⟩ := (opd_sim hE hz h2).aggL
        obtain ⟨q1, q2⟩ := eqCells_same hx hyy hr
        have q1' : xs' = xs := by rw [← Array.toList_inj]; exact q1
        have q2' : ys' = ys := by rw [← Array.toList_inj]; exact q2
        subst q1' q2'
        refine ⟨rfl, _, .bool _, fun w => ?_⟩
        obtain ⟨g1, g2, g3⟩ := hc.eq t n ht xs' ys' r hn.1 hn.2 hr y z w
        rcases hop with rfl | rfl <;> simp [execOp, ho, ex, ey, g1, g2, g3, binOp, nt, isNeq]
      · cases h
    · cases h
  · cases h
theorem isNil_R {x x' : Value} {fk p : Bool} (h : isNil fk x = some p) (hx : VR m x x') : (fk = false ∧ ∃ a n c, x' = .slice a n c ∧ a.isNone = p) ∨ (fk = true ∧ ((p = true ∧ x' = .nilFunc) ∨ (p = false ∧ ∃ f c d, x' = .func f c d))) := by
  cases hx with
  | slN => simp [isNil] at h; obtain ⟨h1, rfl⟩ := h; exact .inl ⟨h1, _, _, _, rfl, rfl⟩
  | slR => simp [isNil] at h; obtain ⟨h1, rfl⟩ := h; exact .inl ⟨h1, _, _, _, rfl, rfl⟩
  | slO => simp [isNil] at h; obtain ⟨h1, rfl⟩ := h; exact .inl ⟨h1, _, _, _, rfl, rfl⟩
  | fnN => simp [isNil] at h; obtain ⟨h1, rfl⟩ := h; exact .inr ⟨h1, .inl ⟨rfl, rfl⟩⟩
  | yl => simp [isNil] at h; obtain ⟨h1, rfl⟩ := h; exact .inr ⟨h1, .inr ⟨rfl, _, _, _, rfl⟩⟩
  | fn => simp [isNil] at h; obtain ⟨h1, rfl⟩ := h; exact .inr ⟨h1, .inr ⟨rfl, _, _, _, rfl⟩⟩
  | _ => simp [isNil] at h
theorem run_equal_slice {G : Program} {t e0 : Nat} (ht : G.underlying t = some (.slice e0)) (a1 a2 : Option Addr) (n1 c1 n2 c2 : Nat) (h : (a1.isNone || a2.isNone) = true) (w : World) :
    (Op.equal t (.slice a1 n1 c1) (.slice a2 n2 c2)).run G w = .ok (a1.isNone && a2.isNone) w := by
  have key : ∀ d, (Op.equalIn (d + 1) t (.slice a1 n1 c1) (.slice a2 n2 c2)).run G w = .ok (a1.isNone && a2.isNone) w := by
    intro d
    cases a1 <;> cases a2 <;> simp at h <;> simp [Op.equalIn, run_underlying' ht]
  exact key 9999
theorem run_equal_func {G : Program} {t : Nat} {b1 b2 : Array TypeId} {b3 : Bool} (ht : G.underlying t = some (.func b1 b2 b3)) {x y : Value} {p q : Bool} (hx : (p = true ∧ x = .nilFunc) ∨ (p = false ∧ ∃ f c d, x = .func f c d)) (hy : (q = true ∧ y = .nilFunc) ∨ (q = false ∧ ∃ f c d, y = .func f c d)) (h : (p || q) = true) (w : World) :
    (Op.equal t x y).run G w = .ok (p && q) w := by
  have key : ∀ d, (Op.equalIn (d + 1) t x y).run G w = .ok (p && q) w := by
    intro d
    rcases hx with ⟨rfl, rfl⟩ | ⟨rfl, f, c1, d1, rfl⟩ <;> rcases hy with ⟨rfl, rfl⟩ | ⟨rfl, f', c2, d2, rfl⟩ <;> simp at h <;> simp [Op.equalIn, run_underlying' ht]
  exact key 9999
theorem s_eqn {op : BinOp} {t u : Nat} {fk neg : Bool} {y z : Operand} (ho : o.op = .binOp op t y z u) (hop : (op = .eql ∧ neg = false) ∨ (op = .neq ∧ neg = true))
    (ht : (fk = false ∧ ∃ e0, c.G.underlying t = some (.slice e0)) ∨ (fk = true ∧ ∃ b1 b2 b3, c.G.underlying t = some (.func b1 b2 b3))) (hy : okO y = true) (hz : okO z = true) (hE : EnvR m e a.tmps)
    (h : op1 ro K (.eqn fk neg y z) e s = some (v, s')) : PureR c m a o s s' v := by
  simp only [op1] at h
  split at h
  · rename_i x1 x2 h1 h2
    split at h
    · rename_i p q hp hq
      split at h
      · rename_i hpq
        obtain ⟨rfl, rfl⟩ := ret_eq h
        refine ⟨rfl, _, .bool _, fun w => ?_⟩
        rcases isNil_R hp (opd_sim hE hy h1) with ⟨f1, a1, n1, c1, k1, k3⟩ | ⟨f1, g1⟩ <;> rcases isNil_R hq (opd_sim hE hz h2) with ⟨f2, a2, n2, c2, k2, k4⟩ | ⟨f2, g2⟩
        · obtain ⟨_, e0, ht⟩ | ⟨f3, _⟩ := ht
          · subst k3 k4
            rcases hop with ⟨rfl, rfl⟩ | ⟨rfl, rfl⟩ <;> simp [execOp, ho, k1, k2, binOp, eqGuard, run_equal_slice ht a1 a2 n1 c1 n2 c2 hpq w, nt]
          · rw [f1] at f3; cases f3
        · rw [f1] at f2; cases f2
        · rw [f1] at f2; cases f2
        · obtain ⟨f3, _⟩ | ⟨_, b1, b2, b3, ht⟩ := ht
          · rw [f1] at f3; cases f3
          · have hq2 := run_equal_func ht g1 g2 hpq w
            rcases g1 with ⟨rfl, g1⟩ | ⟨rfl, f, c1, d1, g1⟩ <;> rcases g2 with ⟨rfl, g2⟩ | ⟨rfl, f', c2, d2, g2⟩ <;> rcases hop with ⟨rfl, rfl⟩ | ⟨rfl, rfl⟩ <;>
              rw [g1, g2] at hq2 <;> simp [execOp, ho, g1, g2, binOp, eqGuard, hq2, nt]
      · cases h
    · cases h
  · cases h
end Go.Proofs.YtakdnpafdadblaaGreat.EV
namespace Go.Proofs.YtakdnpafdadblaaGreat.EV
open Go
variable {c : Cfg} {m : Mp} {e : Env} {a : Act} {ro : Addr → Option Value} {K : H} {s s' : St} {v : Value} {o : Oper}
theorem cut_some {r l : List Value} {o n : Nat} (h : cut r o n = some l) : o + n ≤ r.length ∧ l = (r.drop o).take n := by
  unfold cut at h; split at h
  · rename_i hl; cases h; exact ⟨hl, rfl⟩
  · cases h
theorem cut_get {r l : List Value} {o n i : Nat} (h : cut r o n = some l) (hi : i < n) : l[i]? = r[o + i]? := by
  obtain ⟨h1, rfl⟩ := cut_some h
  rw [List.getElem?_take, if_pos hi, List.getElem?_drop]
theorem ones_cut {r l : List Value} {o n : Nat} (h : cut r o n = some l) (ho : Ones r) : Ones l := by
  obtain ⟨h1, rfl⟩ := cut_some h
  exact fun v hv => ho v (List.mem_of_mem_drop (List.mem_of_mem_take hv))
theorem VRs.cut {r r' l : List Value} {o n : Nat} (h : VRs m r r') (hl : EV.cut r o n = some l) : VRs m l ((r'.drop o).take n) := by
  obtain ⟨h1, rfl⟩ := cut_some hl
  exact (h.drop o).take n
theorem mkAgg_some {n : Option Nat} {l : List Value} (h : mkAgg n l = some v) : (∃ k, n = some k ∧ v = .agg l.toArray) ∨ (n = none ∧ l = [v]) := by
  unfold mkAgg at h
  split at h
  · cases h; exact .inl ⟨_, rfl, rfl⟩
  · cases h; exact .inr ⟨rfl, rfl⟩
  · cases h
theorem aggN_some {G : Program} {t : Nat} {n : Option Nat} (h : aggN G t = some n) : ∃ d i, G.underlying t = some d ∧ G.info? t = some i ∧
    (((∃ fs, d = .struct fs) ∨ (∃ k u, d = .array k u)) ∧ n = some i.size ∨ (¬ ((∃ fs, d = .struct fs) ∨ (∃ k u, d = .array k u))) ∧ n = none) := by
  unfold aggN at h
  split at h
  · rename_i d i hd hi
    refine ⟨d, i, hd, hi, ?_⟩
    split at h
    · cases h; exact .inl ⟨.inl ⟨_, rfl⟩, rfl⟩
    · cases h; exact .inl ⟨.inr ⟨_, _, rfl⟩, rfl⟩
    · rename_i h1 h2
      cases h
      refine .inr ⟨?_, rfl⟩
      rintro (⟨fs, rfl⟩ | ⟨k, u, rfl⟩)
      · exact h1 _ rfl
      · exact h2 _ _ rfl
  · cases h
theorem run_isAgg {G : Program} {t : Nat} {n : Option Nat} (h : aggN G t = some n) (w : World) : (isAgg t).run G w = .ok n.isSome w := by
  obtain ⟨d, i, h1, h2, h3⟩ := aggN_some h
  simp only [isAgg, Sem.run_bind, run_underlying' h1, Result.andThen]
  rcases h3 with ⟨⟨fs, rfl⟩ | ⟨k, u, rfl⟩, rfl⟩ | ⟨h3, rfl⟩
  · rfl
  · rfl
  · cases d <;> first | rfl | exact absurd (.inl ⟨_, rfl⟩) h3 | exact absurd (.inr ⟨_, _, rfl⟩) h3
theorem aggN_size {G : Program} {t n : Nat} (h : aggN G t = some (some n)) (w : World) : (sizeOf t).run G w = .ok n w := by
  obtain ⟨d, i, h1, h2, h3⟩ := aggN_some h
  rcases h3 with ⟨_, h3⟩ | ⟨_, h3⟩
  · cases h3; simp [sizeOf, typeInfo, h2]
  · cases h3
theorem run_part {G : Program} {t : Nat} {n : Option Nat} (h : aggN G t = some n) {cs : Array Value} {cs' : Array Value} {off : Nat} {l : List Value} (hs : VRs m cs.toList cs'.toList) (ho : Ones cs.toList)
    (hc : cut cs.toList off (n.getD 1) = some l) (hv : mkAgg n l = some v) : ∃ v', VR m v v' ∧ ∀ w, (part t cs' off).run G w = .ok v' w := by
  rcases mkAgg_some hv with ⟨k, rfl, rfl⟩ | ⟨rfl, rfl⟩
  · refine ⟨.agg ((cs'.toList.drop off).take k).toArray, (hs.cut hc).agg (ones_cut hc ho), fun w => ?_⟩
    have hx : cs'.extract off (off + k) = ((cs'.toList.drop off).take k).toArray := by
      rw [← Array.toList_inj]
      simp [List.extract_eq_take_drop]
    simp only [part, Sem.run_bind, run_isAgg h, Result.andThen, Option.isSome_some, if_true, aggN_size h, Sem.run_pure, hx]
  · have hl := cut_get hc (show 0 < 1 by omega)
    simp at hl
    obtain ⟨v', h1, h2⟩ := hs.get (by simpa using hl.symm : cs.toList[off]? = some v)
    refine ⟨v', h2, fun w => ?_⟩
    simp only [part, Sem.run_bind, run_isAgg h, Result.andThen, Option.isSome_none, Bool.false_eq_true, if_false]
    rw [show cs'[off]? = some v' by simpa using h1]
    rfl
theorem s_fld {t f : Nat} {y : Operand} {fs : Array Field} {q : Field} {n : Option Nat} (ho : o.op = .field t y f) (ht : c.G.underlying t = some (.struct fs)) (hf : fs[f]? = some q) (hn : aggN c.G q.type = some n)
    (hy : okO y = true) (hE : EnvR m e a.tmps) (h : op1 ro K (.fld q.offset n y) e s = some (v, s')) : PureR c m a o s s' v := by
  simp only [op1] at h
  split at h
  · rename_i cs hcs
    split at h
    · rename_i l hl
      split at h
      · rename_i u hu
        obtain ⟨rfl, rfl⟩ := ret_eq h
        obtain ⟨cs', he, hs, hone⟩ := (opd_sim hE hy hcs).aggL
        obtain ⟨v', h1, h2⟩ := run_part hn hs hone hl hu
        exact ⟨rfl, v', h1, fun w => by simp [execOp, ho, Instr.field, run_underlying' ht, hf, he, asAgg, h2 w]⟩
      · cases h
    · cases h
  · cases h
theorem s_ix {t k n : Nat} {g : Option Nat} {u : Nat} {y i : Operand} (ho : o.op = .index t y i) (ht : c.G.underlying t = some (.array k u)) (hsz : szOf c.G u = some n) (hn : aggN c.G u = some g)
    (hy : okO y = true) (hi : okO i = true) (hE : EnvR m e a.tmps) (h : op1 ro K (.ix k n g y i) e s = some (v, s')) : PureR c m a o s s' v := by
  simp only [op1] at h
  split at h
  · rename_i cs k0 j hcs hj
    split at h
    · rename_i hlt
      split at h
      · rename_i l hl
        split at h
        · rename_i u hu
          obtain ⟨rfl, rfl⟩ := ret_eq h
          obtain ⟨cs', he, hs, hone⟩ := (opd_sim hE hy hcs).aggL
          have hi' := intR (opd_sim hE hi hj)
          obtain ⟨v', h1, h2⟩ := run_part hn hs hone hl hu
          exact ⟨rfl, v', h1, fun w => by simp [execOp, ho, Instr.index, hi', asIntOf, run_underlying' ht, he, hlt, run_sizeOf' hsz, h2 w]⟩
        · cases h
      · cases h
    · cases h
  · cases h
theorem s_ixs {t : Nat} {y i : Operand} (ho : o.op = .index t y i) (ht : c.G.underlying t = some .string) (hy : okO y = true) (hi : okO i = true) (hE : EnvR m e a.tmps)
    (h : op1 ro K (.ixs y i) e s = some (v, s')) : PureR c m a o s s' v := by
  simp only [op1] at h
  split at h
  · rename_i b k0 j hb hj
    split at h
    · rename_i hlt
      split at h
      · rename_i u hu
        obtain ⟨rfl, rfl⟩ := ret_eq h
        have hb' := strR (opd_sim hE hy hb)
        have hi' := intR (opd_sim hE hi hj)
        exact ⟨rfl, _, .int _ _, fun w => by simp [execOp, ho, Instr.index, hi', asIntOf, run_underlying' ht, hb', hlt, hu]⟩
      · cases h
    · cases h
  · cases h
theorem s_len {t u : Nat} {k : Call} {y : Operand} (ho : o.op = .call k) (hk : k.callee = .builtin .len) (hka : k.args.toList = [y]) (hkt : k.argTypes.toList = [t]) (ht : c.G.underlying t = some (.slice u)) (hy : okO y = true) (hE : EnvR m e a.tmps)
    (h : op1 ro K (.len y) e s = some (v, s')) : PureR c m a o s s' v := by
  simp only [op1] at h
  split at h
  · rename_i b n k0 hb
    obtain ⟨rfl, rfl⟩ := ret_eq h
    obtain ⟨b', k', he⟩ : ∃ b' k', a.eval y = .slice b' n k' := by
      have hr := opd_sim hE hy hb
      generalize a.eval y = u at hr
      cases hr <;> exact ⟨_, _, rfl⟩
    have ha : k.args = #[y] := by rw [← Array.toList_inj]; exact hka
    have hty : k.argTypes = #[t] := by rw [← Array.toList_inj]; exact hkt
    exact ⟨rfl, _, .int _ _, fun w => by simp [execOp, ho, resolve, hk, ha, hty, invoke, builtin, Builtin.len_, run_underlying' ht, he, goInt]⟩
  · cases h
theorem s_lens {t : Nat} {k : Call} {y : Operand} (ho : o.op = .call k) (hk : k.callee = .builtin .len) (hka : k.args.toList = [y]) (hkt : k.argTypes.toList = [t]) (ht : c.G.underlying t = some .string) (hy : okO y = true) (hE : EnvR m e a.tmps)
    (h : op1 ro K (.lens y) e s = some (v, s')) : PureR c m a o s s' v := by
  simp only [op1] at h
  split at h
  · rename_i b hb
    obtain ⟨rfl, rfl⟩ := ret_eq h
    have he := strR (opd_sim hE hy hb)
    have ha : k.args = #[y] := by rw [← Array.toList_inj]; exact hka
    have hty : k.argTypes = #[t] := by rw [← Array.toList_inj]; exact hkt
    exact ⟨rfl, _, .int _ _, fun w => by simp [execOp, ho, resolve, hk, ha, hty, invoke, builtin, Builtin.len_, run_underlying' ht, he, goInt]⟩
  · cases h
theorem s_lena {t n u : Nat} {k : Call} {y : Operand} (ho : o.op = .call k) (hk : k.callee = .builtin .len) (hka : k.args.toList = [y]) (hkt : k.argTypes.toList = [t]) (ht : c.G.underlying t = some (.array n u))
    (h : op1 ro K (.lena n) e s = some (v, s')) : PureR c m a o s s' v := by
  simp only [op1] at h
  obtain ⟨rfl, rfl⟩ := ret_eq h
  have ha : k.args = #[y] := by rw [← Array.toList_inj]; exact hka
  have hty : k.argTypes = #[t] := by rw [← Array.toList_inj]; exact hkt
  exact ⟨rfl, _, .int _ _, fun w => by simp [execOp, ho, resolve, hk, ha, hty, invoke, builtin, Builtin.len_, run_underlying' ht, goInt]⟩
theorem minmax_run {G : Program} (mx : Bool) (k : IntKind) (w : World) : ∀ (r r' : List Value) (x y : Int), VRs m r r' → minmax mx x r = some y →
    (r'.foldlM (if mx then Builtin.max2 else Builtin.min2) (.int k x)).run G w = .ok (.int k y) w := by
  intro r
  induction r with
  | nil => intro r' x y hr h; simp [minmax] at h; subst h; rw [hr.inv_nil]; rfl
  | cons u r ih =>
    intro r' x y hr h
    cases u <;> try (simp [minmax] at h; done)
    rename_i k2 z
    simp only [minmax] at h
    obtain ⟨u', q, rfl, h1, h2⟩ := hr.inv_cons
    rw [intR h1]
    cases mx <;> simp only [Bool.false_eq_true, if_false, if_true, List.foldlM_cons, Sem.run_bind, Builtin.max2, Builtin.min2, Sem.run_pure, Result.andThen] at h ⊢
    · have := ih q _ y h2 h; simpa using this
    · have := ih q _ y h2 h; simpa using this
theorem s_mnx {k : Call} {mx : Bool} (ho : o.op = .call k) (hk : k.callee = .builtin (if mx then .max else .min)) (hy : okOs k.args.toList = true) (hE : EnvR m e a.tmps)
    (h : op1 ro K (.mnx mx k.args.toList) e s = some (v, s')) : PureR c m a o s s' v := by
  simp only [op1] at h
  split at h
  · rename_i k0 x r hvs
    split at h
    · rename_i y hm
      obtain ⟨rfl, rfl⟩ := ret_eq h
      have hh := opds_sim hE hy hvs
      obtain ⟨x', r', he, h1, h2⟩ := hh.inv_cons
      rw [intR h1] at he
      refine ⟨rfl, _, .int _ _, fun w => ?_⟩
      have hrun := minmax_run (G := c.G) mx k0 w r r' x y h2 hm
      cases mx <;> simp only [Bool.false_eq_true, if_false, if_true] at hk hrun <;>
        simp [execOp, ho, resolve, hk, invoke, builtin, Builtin.max_, Builtin.min_, he, hrun]
    · cases h
  · cases h
theorem s_ext (hc : c.Ok) {k : Call} {f nm : Nat} (ho : o.op = .call k) (hk : k.callee = .value (.func f)) (hf : (f = c.fAdd ∧ nm = 0) ∨ (f = c.fSub ∧ nm = 1)) (hy : okOs k.args.toList = true) (hE : EnvR m e a.tmps)
    (h : op1 ro K (.ext nm k.args.toList) e s = some (v, s')) : PureR c m a o s s' v := by
  simp only [op1] at h
  split at h
  · rename_i vs hvs
    split at h
    · rename_i u hu
      obtain ⟨rfl, rfl⟩ := ret_eq h
      have hh := opds_sim hE hy hvs
      have hargs : ∀ {r}, (add64 vs = some r ∨ sub64 vs = some r) → k.args.map a.eval = vs.toArray ∧ VR m r r := by
        intro r hr
        have key : ∃ x y z, vs = [.int .u64 x, .int .u64 y, .int .u64 z] ∧ VR m r r := by
          rcases hr with hr | hr
          · unfold add64 at hr
            split at hr
            · split at hr
              · cases hr; exact ⟨_, _, _, rfl, .tup _ _ rfl (VRs.cons (.int _ _) (.cons (.int _ _) (.nil m))).2⟩
              · cases hr
            · cases hr
          · unfold sub64 at hr
            split at hr
            · split at hr
              · cases hr; exact ⟨_, _, _, rfl, .tup _ _ rfl (VRs.cons (.int _ _) (.cons (.int _ _) (.nil m))).2⟩
              · cases hr
            · cases hr
        obtain ⟨x, y, z, rfl, hv⟩ := key
        obtain ⟨x', r1, e1, h1, h2⟩ := hh.inv_cons
        obtain ⟨y', r2, rfl, h3, h4⟩ := h2.inv_cons
        obtain ⟨z', r3, rfl, h5, h6⟩ := h4.inv_cons
        rw [h6.inv_nil, intR h1, intR h3, intR h5] at e1
        refine ⟨?_, hv⟩
        rw [← Array.toList_inj]; simpa using e1
      rcases hf with ⟨rfl, rfl⟩ | ⟨rfl, rfl⟩
      · simp only [if_true] at hu
        obtain ⟨h1, h2⟩ := hargs (.inl hu)
        exact ⟨rfl, _, h2, fun w => by simp [execOp, ho, resolve, hk, Act.eval, Deferred.ofValue, invoke, h1, hc.add vs _ w hu]⟩
      · simp only [Nat.one_ne_zero, if_false] at hu
        obtain ⟨h1, h2⟩ := hargs (.inr hu)
        exact ⟨rfl, _, h2, fun w => by simp [execOp, ho, resolve, hk, Act.eval, Deferred.ofValue, invoke, h1, hc.sub vs _ w hu]⟩
    · cases h
  · cases h
end Go.Proofs.YtakdnpafdadblaaGreat.EV
namespace Go.Proofs.YtakdnpafdadblaaGreat.EV
open Go
variable {c : Cfg} {m : Mp} {e : Env} {a : Act} {ro : Addr → Option Value} {K : H} {s s' : St} {v : Value} {o : Oper}
theorem add_none (b o n : Nat) : (⟨b, o, none⟩ : Addr).add n = ⟨b, o + n, none⟩ := by
  unfold Addr.add; split
  · rename_i h; subst h; rfl
  · rfl
theorem VR.ptr {x : Addr} {u : Value} (h : VR m (.pointer (some x)) u) : ∃ x', u = .pointer (some x') ∧ x'.spot = none ∧ ∀ n, VR m (.pointer (some (shift x n))) (.pointer (some (x'.add n))) := by
  cases h with
  | ptrO k o b f t h =>
    refine ⟨_, rfl, rfl, fun n => ?_⟩
    rw [add_none, Nat.add_assoc]
    exact .ptrO k (o + n) b f t h
  | ptrR b o =>
    refine ⟨_, rfl, rfl, fun n => ?_⟩
    rw [add_none]
    exact .ptrR b (o + n)
theorem s_fa {t f n : Nat} {y : Operand} {fs : Array Field} {q : Field} (ho : o.op = .fieldAddr t y f) (ht : c.G.underlying t = some (.struct fs)) (hf : fs[f]? = some q) (hn : szOf c.G q.type = some n) (hpos : 0 < n)
    (hy : okO y = true) (hE : EnvR m e a.tmps) (h : op1 ro K (.fa q.offset y) e s = some (v, s')) : PureR c m a o s s' v := by
  simp only [op1] at h
  split at h
  · rename_i x hx
    obtain ⟨rfl, rfl⟩ := ret_eq h
    obtain ⟨x', he, _, hsh⟩ := (opd_sim hE hy hx).ptr
    refine ⟨rfl, _, hsh q.offset, fun w => ?_⟩
    have hne : n ≠ 0 := by omega
    simp [execOp, ho, Instr.fieldAt, run_underlying' ht, hf, he, Instr.sureAddr, fieldPlace, run_sizeOf' hn, hne]
  · cases h
theorem s_iaa {t k n u : Nat} {y i : Operand} (ho : o.op = .indexAddr t y i) (ht : c.G.underlying t = some (.array k u)) (hn : szOf c.G u = some n) (hy : okO y = true) (hi : okO i = true) (hE : EnvR m e a.tmps)
    (h : op1 ro K (.iaa k n y i) e s = some (v, s')) : PureR c m a o s s' v := by
  simp only [op1] at h
  split at h
  · rename_i x k0 j hx hj
    split at h
    · rename_i hlt
      obtain ⟨rfl, rfl⟩ := ret_eq h
      obtain ⟨x', he, _, hsh⟩ := (opd_sim hE hy hx).ptr
      have hi' := intR (opd_sim hE hi hj)
      exact ⟨rfl, _, hsh _, fun w => by simp [execOp, ho, Instr.indexAt, hi', asIntOf, run_underlying' ht, he, Instr.sureAddr, hlt, run_sizeOf' hn]⟩
    · cases h
  · cases h
theorem s_ia {t n u : Nat} {y i : Operand} (ho : o.op = .indexAddr t y i) (ht : c.G.underlying t = some (.slice u)) (hn : szOf c.G u = some n) (hy : okO y = true) (hi : okO i = true) (hE : EnvR m e a.tmps)
    (h : op1 ro K (.ia n y i) e s = some (v, s')) : PureR c m a o s s' v := by
  simp only [op1] at h
  split at h
  · rename_i x len cap k0 j hx hj
    split at h
    · rename_i hlt
      obtain ⟨rfl, rfl⟩ := ret_eq h
      have hi' := intR (opd_sim hE hi hj)
      obtain ⟨x', c', he, hv⟩ : ∃ x' c', a.eval y = .slice (some x') len c' ∧ VR m (.pointer (some (shift x (j.toNat * n)))) (.pointer (some (x'.add (j.toNat * n)))) := by
        have hr := opd_sim hE hy hx
        generalize a.eval y = u at hr
        cases hr with
        | slR b o' => exact ⟨_, _, rfl, by rw [add_none]; exact .ptrR _ _⟩
        | slO k o' n' c0 a' c' h1 h2 b f t h3 h4 =>
          obtain ⟨rfl, _⟩ := h4 (by omega)
          exact ⟨_, _, rfl, by rw [add_none, Nat.add_assoc]; exact .ptrO k _ b f t h3⟩
      exact ⟨rfl, _, hv, fun w => by simp [execOp, ho, Instr.indexAt, hi', asIntOf, run_underlying' ht, he, hlt, run_sizeOf' hn]⟩
    · cases h
  · cases h
theorem optOpd_sim (hE : EnvR m e a.tmps) {x : Option Operand} {l : Option Value} (hx : okOpt x = true) (h : optOpd e x = some l) {d n : Nat} (hi : idx l d = some n) :
    (x = none ∧ l = none ∧ n = d) ∨ (∃ k y, x.map a.eval = some (.int k y) ∧ l = some (.int k y) ∧ 0 ≤ y ∧ n = y.toNat) := by
  cases x with
  | none => simp only [optOpd, Option.some.injEq] at h; subst h; simp only [idx, Option.some.injEq] at hi; exact .inl ⟨rfl, rfl, hi.symm⟩
  | some x =>
    simp only [optOpd] at h
    split at h
    · rename_i u hu
      cases h
      unfold idx at hi
      split at hi
      · rename_i hh; cases hh
      · rename_i k y hh
        cases hh
        split at hi
        · rename_i h0; cases hi
          exact .inr ⟨k, y, by simp [intR (opd_sim hE hx hu)], rfl, h0, rfl⟩
        · cases hi
      · cases hi
    · cases h
theorem run_bounds {G : Program} {sl : Bool} {len cap lo hi : Nat} {l h : Option Value} (hl : (l = none ∧ lo = 0) ∨ (∃ k y, l = some (.int k y) ∧ 0 ≤ y ∧ lo = y.toNat)) (hh : (h = none ∧ hi = len) ∨ (∃ k y, h = some (.int k y) ∧ 0 ≤ y ∧ hi = y.toNat))
    (h1 : lo ≤ hi) (h2 : hi ≤ cap) (w : World) : (Instr.sliceBounds sl len cap l h none).run G w = .ok (lo, hi, cap) w := by
  have hb : ∀ (k : IntKind) (y : Int) (z : Nat) (cd : BoundsCode), 0 ≤ y → y.toNat ≤ z → (Instr.sliceBound (.int k y) z cd).run G w = .ok y.toNat w := by
    intro k y z cd h0 hz
    have : 0 ≤ y ∧ y ≤ (z : Int) := ⟨h0, by omega⟩
    simp [Instr.sliceBound, asIntOf, this]
  rcases hl with ⟨rfl, rfl⟩ | ⟨k, y, rfl, h0, rfl⟩ <;> rcases hh with ⟨rfl, rfl⟩ | ⟨k', y', rfl, h0', rfl⟩
  · simp [Instr.sliceBounds]
  · simp [Instr.sliceBounds, hb k' y' cap _ h0' h2]
  · simp [Instr.sliceBounds, hb k y _ _ h0 h1]
  · simp [Instr.sliceBounds, hb k' y' cap _ h0' h2, hb k y _ _ h0 h1]
theorem s_sls {t : Nat} {y : Operand} {lo hi : Option Operand} (ho : o.op = .slice t y lo hi none) (ht : c.G.underlying t = some .string) (hy : okO y = true) (hlo : okOpt lo = true) (hhi : okOpt hi = true) (hE : EnvR m e a.tmps)
    (h : op1 ro K (.sls y lo hi) e s = some (v, s')) : PureR c m a o s s' v := by
  simp only [op1] at h
  split at h
  · rename_i b l hh hb hl hhh
    split at h
    · rename_i h' l' e1 e2
      split at h
      · rename_i hlt
        obtain ⟨rfl, rfl⟩ := ret_eq h
        have hb' := strR (opd_sim hE hy hb)
        have q1 := optOpd_sim hE hlo hl e2
        have q2 := optOpd_sim hE hhi hhh e1
        refine ⟨rfl, _, .str _, fun w => ?_⟩
        have hrun := run_bounds (G := c.G) (sl := false) (len := b.size) (cap := b.size) (lo := l') (hi := h') (l := lo.map a.eval) (h := hi.map a.eval)
          (by rcases q1 with ⟨rfl, _, rfl⟩ | ⟨k, z, q, _, q0, rfl⟩; exact .inl ⟨rfl, rfl⟩; exact .inr ⟨k, z, q, q0, rfl⟩)
          (by rcases q2 with ⟨rfl, _, rfl⟩ | ⟨k, z, q, _, q0, rfl⟩; exact .inl ⟨rfl, rfl⟩; exact .inr ⟨k, z, q, q0, rfl⟩) hlt.1 hlt.2 w
        simp [execOp, ho, Instr.sliceAt, run_underlying' ht, Instr.slice, hb', hrun]
      · cases h
    · cases h
  · cases h
theorem run_max0 {G : Program} {cap len : Nat} {l h : Option Value} {k3 : IntKind} (hl : l = none ∨ (∃ k, l = some (.int k 0))) (hh : ∃ k, h = some (.int k 0)) (w : World) :
    (Instr.sliceBounds true len cap l h (some (.int k3 0))).run G w = .ok (0, 0, 0) w := by
  have hb : ∀ (k : IntKind) (z : Nat) (cd : BoundsCode), (Instr.sliceBound (.int k 0) z cd).run G w = .ok 0 w := by
    intro k z cd
    simp [Instr.sliceBound, asIntOf]
  obtain ⟨k', rfl⟩ := hh
  rcases hl with rfl | ⟨k, rfl⟩ <;> simp [Instr.sliceBounds, hb]
theorem s_sli {t n u : Nat} {y : Operand} {lo hi mx : Option Operand} (ho : o.op = .slice t y lo hi mx) (ht : c.G.underlying t = some (.slice u)) (hn : szOf c.G u = some n) (hy : okO y = true) (hlo : okOpt lo = true) (hhi : okOpt hi = true) (hmx : okOpt mx = true) (hE : EnvR m e a.tmps)
    (h : op1 ro K (.sli n y lo hi mx) e s = some (v, s')) : PureR c m a o s s' v := by
  simp only [op1] at h
  split at h
  · rename_i x len cap l hh mm hx hl hhh hmm
    split at h
    · rename_i h' l' e1 e2
      have q1 := optOpd_sim hE hlo hl e2
      have q2 := optOpd_sim hE hhi hhh e1
      have hr := opd_sim hE hy hx
      have g1 : (lo.map a.eval = none ∧ l' = 0) ∨ (∃ k y, lo.map a.eval = some (.int k y) ∧ 0 ≤ y ∧ l' = y.toNat) := by
        rcases q1 with ⟨rfl, _, rfl⟩ | ⟨k, z, q, _, q0, rfl⟩
        · exact .inl ⟨rfl, rfl⟩
        · exact .inr ⟨k, z, q, q0, rfl⟩
      have g2 : (hi.map a.eval = none ∧ h' = len) ∨ (∃ k y, hi.map a.eval = some (.int k y) ∧ 0 ≤ y ∧ h' = y.toNat) := by
        rcases q2 with ⟨rfl, _, rfl⟩ | ⟨k, z, q, _, q0, rfl⟩
        · exact .inl ⟨rfl, rfl⟩
        · exact .inr ⟨k, z, q, q0, rfl⟩
      split at h
      ·
        have hmx0 : mx = none := by
          cases mx with
          | none => rfl
          | some z => simp only [optOpd] at hmm; split at hmm <;> cases hmm
        subst hmx0
        split at h
        · rename_i hlt
          obtain ⟨rfl, rfl⟩ := ret_eq h
          generalize hu : a.eval y = u' at hr
          cases hr with
          | slN =>
            have : l' = 0 ∧ h' = 0 := by omega
            obtain ⟨rfl, rfl⟩ := this
            refine ⟨rfl, .slice none 0 0, .slN, fun w => ?_⟩
            have hrun := run_bounds (G := c.G) (sl := true) (len := 0) (cap := 0) g1 g2 (Nat.le_refl _) (Nat.le_refl _) w
            simp [execOp, ho, Instr.sliceAt, run_underlying' ht, Instr.slice, hu, hrun, run_sizeOf' hn]
          | slR b o' n0 c0 =>
            simp only [sliOk, roS, Option.isNone_none, if_true, decide_eq_true_eq] at hlt
            refine ⟨rfl, .slice (if cap = l' then some ⟨b, o', none⟩ else some ((⟨b, o', none⟩ : Addr).add (l' * n))) (h' - l') (cap - l'), ?_, fun w => ?_⟩
            · simp only [sliCap, sliAdr, roS, Option.isNone_none, if_true, Option.map_some, true_and]
              by_cases hcl : cap = l'
              · simp only [hcl, if_true]; exact .slR _ _ _ _
              · simp only [hcl, if_false, add_none]; exact .slR _ _ _ _
            · have hrun := run_bounds (G := c.G) (sl := true) (len := len) (cap := cap) g1 g2 hlt.1 hlt.2.2 w
              simp [execOp, ho, Instr.sliceAt, run_underlying' ht, Instr.slice, hu, hrun, run_sizeOf' hn]
          | slO k o' n0 c0 a' c' k1 k2 b f t0 k3 k4 =>
            refine ⟨rfl, .slice (if c' = l' then some a' else some (a'.add (l' * n))) (h' - l') (c' - l'), ?_, fun w => ?_⟩
            · simp only [sliOk, roS, own, Option.isNone_some, Bool.false_eq_true, if_false, Bool.or_eq_true, beq_iff_eq] at hlt
              simp only [sliCap, sliAdr, roS, own, Option.isNone_some, Bool.false_eq_true, if_false, Option.map_some, false_and]
              rw [show (if c' = l' then some a' else some (a'.add (l' * n))) = some (if c' = l' then a' else a'.add (l' * n)) by split <;> rfl]
              refine .slO k (o' + l' * n) (h' - l') cap _ (c' - l') (by omega) (fun hz => by have := k2 hz; omega) b f t0 k3 (fun hpos => ?_)
              have hne : c' ≠ l' := by omega
              obtain ⟨rfl, hle⟩ := k4 (by omega)
              have hcap : cap = n := by
                rcases hlt.2.2 with hh | hh
                · exact hh
                · have := k2 hh; omega
              subst hcap
              refine ⟨by rw [if_neg hne, add_none, Nat.add_assoc], ?_⟩
              have hm : (c' - l') * cap + l' * cap = c' * cap := by rw [← Nat.add_mul]; congr 1; omega
              omega
            · have hrun := run_bounds (G := c.G) (sl := true) (len := len) (cap := c') g1 g2 hlt.1 (by omega) w
              simp [execOp, ho, Instr.sliceAt, run_underlying' ht, Instr.slice, hu, hrun, run_sizeOf' hn]
        · cases h
      · rename_i k3 m'
        split at h
        · rename_i hz
          obtain ⟨rfl, rfl⟩ := ret_eq h
          obtain ⟨rfl, rfl, rfl, hhs⟩ := hz
          have gm : ∃ k3, mx.map a.eval = some (.int k3 0) := by
            cases mx with
            | none => simp [optOpd] at hmm
            | some z =>
              simp only [optOpd] at hmm
              split at hmm
              · rename_i z' hz'; cases hmm; exact ⟨k3, by simp [intR (opd_sim hE hmx hz')]⟩
              · cases hmm
          obtain ⟨k3, gm⟩ := gm
          have gh : ∃ k, hi.map a.eval = some (.int k 0) := by
            rcases q2 with ⟨rfl, rfl, _⟩ | ⟨k, z, q, _, q0, q3⟩
            · cases hhs
            · have : z = 0 := by omega
              subst this; exact ⟨k, q⟩
          have gl : lo.map a.eval = none ∨ (∃ k, lo.map a.eval = some (.int k 0)) := by
            rcases q1 with ⟨rfl, _, _⟩ | ⟨k, z, q, _, q0, q3⟩
            · exact .inl rfl
            · have : z = 0 := by omega
              subst this; exact .inr ⟨k, q⟩
          obtain ⟨x', c', hu, hv⟩ : ∃ x' c', a.eval y = .slice x' len c' ∧ VR m (.slice x 0 0) (.slice x' 0 0) := by
            generalize a.eval y = u' at hr
            cases hr with
            | slN => exact ⟨_, _, rfl, .slN⟩
            | slR b o' n0 c0 => exact ⟨_, _, rfl, .slR _ _ _ _⟩
            | slO k o' n0 c0 a' c' k1 k2 b f t0 k3 k4 => exact ⟨_, _, rfl, .slO k o' 0 0 a' 0 (Nat.le_refl _) (fun _ => rfl) b f t0 k3 (fun hp => absurd hp (by omega))⟩
          refine ⟨rfl, _, hv, fun w => ?_⟩
          have hrun := run_max0 (G := c.G) (cap := c') (len := len) (k3 := k3) gl gh w
          simp [execOp, ho, Instr.sliceAt, run_underlying' ht, Instr.slice, hu, gm, hrun, run_sizeOf' hn]
        · cases h
      · cases h
    · cases h
  · cases h
end Go.Proofs.YtakdnpafdadblaaGreat.EV
namespace Go.Proofs.YtakdnpafdadblaaGreat.EV
open Go
variable {c : Cfg} {m : Mp} {e : Env} {a : Act} {ro : Addr → Option Value} {K : H} {s s' : St} {v : Value} {o : Oper}
theorem splice_len {r x : List Value} {o : Nat} (h : o + x.length ≤ r.length) : (splice r o x).length = r.length := by
  simp only [splice, List.length_append, List.length_take, List.length_drop]
  omega
theorem splice_cons {r x : List Value} {o : Nat} {u : Value} (h : o + (u :: x).length ≤ r.length) : splice r o (u :: x) = splice (r.set o u) (o + 1) x := by
  simp only [List.length_cons] at h
  simp only [splice, List.length_cons]
  rw [List.take_set, List.drop_set, if_pos (by omega : o < o + 1 + x.length)]
  have h1 : (r.take (o + 1)).set o u = r.take o ++ [u] := by
    rw [List.take_succ_eq_append_getElem (by omega)]
    have ht : (r.take o).length = o := by simp; omega
    rw [List.set_append, if_neg (by omega), ht, Nat.sub_self]
    rfl
  rw [h1, List.append_assoc, show o + (x.length + 1) = o + 1 + x.length by omega]
  rfl
theorem fold_set (off : Nat) : ∀ (l : List Value) (k : Nat) (cs : Array Value), off + k + l.length ≤ cs.size →
    ((l.zipIdx k).foldl (fun cs (p : Value × Nat) => cs.setIfInBounds (off + p.2) p.1) cs).toList = splice cs.toList (off + k) l := by
  intro l
  induction l with
  | nil => intro k cs h; simp [splice]
  | cons u l ih =>
    intro k cs h
    simp only [List.zipIdx_cons, List.foldl_cons]
    rw [ih (k + 1) _ (by simp only [List.length_cons] at h; simp; omega)]
    rw [splice_cons (by simpa using h)]
    congr 1
    rw [Array.toList_setIfInBounds]
theorem VRs.splice {r r' x x' : List Value} {o : Nat} (h : VRs m r r') (k : VRs m x x') : VRs m (EV.splice r o x) (EV.splice r' o x') := by
  unfold EV.splice
  rw [← k.1]
  exact (h.take o).append (k.append (h.drop _))
theorem ones_splice {r x : List Value} {o : Nat} (h : Ones r) (k : Ones x) : Ones (splice r o x) := by
  intro v hv
  simp only [splice, List.mem_append] at hv
  rcases hv with hv | hv | hv
  · exact h v (List.mem_of_mem_take hv)
  · exact k v hv
  · exact h v (List.mem_of_mem_drop hv)
theorem fill_sim (hE : EnvR m e a.tmps) (place : Nat → Option (Nat × Nat)) : ∀ (ps : List (Nat × Nat × Operand)) (qs : List (Nat × Operand)) (z cs : List Value) (z' : Array Value),
    (ps.length = qs.length ∧ ∀ (i : Nat) (p : Nat × Nat × Operand) (q : Nat × Operand), ps[i]? = some p → qs[i]? = some q → place q.1 = some (p.1, p.2.1) ∧ p.2.2 = q.2 ∧ okO q.2 = true) →
    VRs m z z'.toList → Ones z → fillP e z ps = some cs → ∃ cs', Instr.fill place z' (qs.map fun q => (q.1, a.eval q.2)) = some cs' ∧ VRs m cs cs'.toList ∧ Ones cs := by
  intro ps
  induction ps with
  | nil =>
    intro qs z cs z' hq hz ho h
    simp only [fillP, Option.some.injEq] at h
    subst h
    have : qs = [] := List.eq_nil_of_length_eq_zero (by simpa using hq.1.symm)
    subst this
    exact ⟨z', rfl, hz, ho⟩
  | cons p ps ih =>
    intro qs z cs z' hq hz ho h
    cases qs with
    | nil => have := hq.1; simp at this
    | cons q qs =>
      obtain ⟨off, sz, x⟩ := p
      obtain ⟨h1, h2, h3⟩ := hq.2 0 (off, sz, x) q rfl rfl
      simp only at h1 h2
      subst h2
      simp only [fillP] at h
      split at h
      · rename_i u hu
        split at h
        · rename_i hc
          obtain ⟨c1, c2, c3⟩ := hc
          have hr := opd_sim hE h3 hu
          have hcs := hr.cells
          have hlen : (a.eval q.2).cells.size = sz := by rw [← c1, hcs.1]; simp
          have hzs : z'.size = z.length := by rw [hz.1]; simp
          have hfold := fold_set off (a.eval q.2).cells.toList 0 z' (by simp; omega)
          obtain ⟨cs', g1, g2, g3⟩ := ih qs (splice z off (cells u)) cs (((a.eval q.2).cells.toList.zipIdx 0).foldl (fun cs (p : Value × Nat) => cs.setIfInBounds (off + p.2) p.1) z') ⟨by have := hq.1; simpa using this, fun i p q hp hq' => hq.2 (i + 1) p q (by simpa using hp) (by simpa using hq')⟩
            (by rw [hfold]; simpa using hz.splice hcs) (ones_splice ho (hr.onesC c2)) h
          refine ⟨cs', ?_, g2, g3⟩
          simp only [List.map_cons, Instr.fill, h1]
          rw [if_neg (by simp; omega)]
          rw [← g1]
          congr 1
          rw [← Array.foldl_toList, Array.toList_zipIdx]
        · cases h
      · cases h
theorem places_run {G : Program} (w : World) : ∀ (fs : List Field) (pl : List (Nat × Nat)), places G fs = some pl →
    (fs.mapM (m := Sem) fun f => do pure (f.offset, ← sizeOf f.type)).run G w = .ok pl w := by
  intro fs
  induction fs with
  | nil => intro pl h; simp only [places, Option.some.injEq] at h; subst h; rfl
  | cons f fs ih =>
    intro pl h
    simp only [places] at h
    split at h
    · rename_i i l hi hl
      cases h
      have := ih l hl
      rw [List.mapM_cons]
      simp only [Sem.run_bind]
      rw [show (sizeOf f.type).run G w = .ok i.size w by simp [sizeOf, typeInfo, hi]]
      simp only [Result.andThen, Sem.run_pure]
      rw [this]
    · cases h
theorem partsS_sim {pl : List (Nat × Nat)} : ∀ {qs : List (Nat × Operand)} {ps : List (Nat × Nat × Operand)}, partsS pl qs = some ps →
    ps.length = qs.length ∧ ∀ (i : Nat) (p : Nat × Nat × Operand) (q : Nat × Operand), ps[i]? = some p → qs[i]? = some q → pl.toArray[q.1]? = some (p.1, p.2.1) ∧ p.2.2 = q.2 ∧ okO q.2 = true
  | [], ps, h => by simp only [partsS, Option.some.injEq] at h; subst h; exact ⟨rfl, fun i p q hp => by simp at hp⟩
  | (i, x) :: qs, ps, h => by
    simp only [partsS] at h
    split at h
    · rename_i q l h1 h2
      split at h
      · rename_i hx
        cases h
        obtain ⟨g1, g2⟩ := partsS_sim h2
        refine ⟨by simp [g1], fun j p q' hp hq => ?_⟩
        cases j with
        | zero => simp at hp hq; subst hp; subst hq; exact ⟨by simpa using h1, rfl, hx⟩
        | succ j => simp at hp hq; exact g2 j p q' hp hq
      · cases h
    · cases h
theorem s_bldS {t : Nat} {ps : Array (Nat × Operand)} {fs : Array Field} {z : List Value} {pl : List (Nat × Nat)} {l : List (Nat × Nat × Operand)} (ho : o.op = .build t ps) (hz : zeroC c.G t = some z) (ht : c.G.underlying t = some (.struct fs)) (hpl : places c.G fs.toList = some pl)
    (hl : partsS pl ps.toList = some l) (hE : EnvR m e a.tmps) (h : op1 ro K (.bld z l) e s = some (v, s')) : PureR c m a o s s' v := by
  simp only [op1] at h
  split at h
  · rename_i cs hcs
    obtain ⟨rfl, rfl⟩ := ret_eq h
    obtain ⟨u, h1, h2, h3⟩ := run_zeroValue' (G := c.G) hz default
    obtain ⟨cs', g1, g2, g3⟩ := fill_sim hE (fun i => pl.toArray[i]?) l ps.toList z cs u.cells (partsS_sim hl) (by rw [cells_eq, h2]; exact .plain m h3) (plain_ones h3) hcs
    refine ⟨rfl, .agg cs', by simpa using g2.agg g3, fun w => ?_⟩
    obtain ⟨u', h1', h2', _⟩ := run_zeroValue' (G := c.G) hz w
    have hu : u' = u := by
      unfold zeroC at hz; split at hz
      · rename_i i hi; split at hz
        · rename_i zz hzz
          simp [zeroValue, typeInfo, hi, hzz] at h1 h1'
          rw [← h1, ← h1']
        · cases hz
      · cases hz
    subst hu
    have hpl' := places_run (G := c.G) w fs.toList pl hpl
    have hplA : (fs.mapM (m := Sem) fun f => do pure (f.offset, ← sizeOf f.type)).run c.G w = .ok pl.toArray w := by
      rw [Array.mapM_eq_mapM_toList, Sem.run_map, hpl']; rfl
    have hfill : Instr.fill (fun i => pl.toArray[i]?) u'.cells ((ps.map fun x => (x.1, a.eval x.2)).toList) = some cs' := by rw [← g1]; congr 1; simp
    simp only [execOp, ho, Instr.build, Sem.run_bind, h1', Result.andThen, run_underlying' ht]
    rw [hplA]
    simp only [hfill, Sem.run_pure]
  · cases h
theorem s_bldA {t n u k : Nat} {ps : Array (Nat × Operand)} {z : List Value} (ho : o.op = .build t ps) (hz : zeroC c.G t = some z) (ht : c.G.underlying t = some (.array k u)) (hn : szOf c.G u = some n)
    (hp : (ps.toList.all fun p => okO p.2) = true) (hE : EnvR m e a.tmps) (h : op1 ro K (.bld z (ps.toList.map fun p => (p.1 * n, n, p.2))) e s = some (v, s')) : PureR c m a o s s' v := by
  simp only [op1] at h
  split at h
  · rename_i cs hcs
    obtain ⟨rfl, rfl⟩ := ret_eq h
    obtain ⟨u, h1, h2, h3⟩ := run_zeroValue' (G := c.G) hz default
    obtain ⟨cs', g1, g2, g3⟩ := fill_sim hE (fun i => some (i * n, n)) (ps.toList.map fun p => (p.1 * n, n, p.2)) ps.toList z cs u.cells
      ⟨by simp, fun i p q hp' hq => by
        simp only [List.getElem?_map, hq, Option.map_some, Option.some.injEq] at hp'
        subst hp'
        exact ⟨rfl, rfl, List.all_eq_true.1 hp q (List.mem_of_getElem? hq)⟩⟩ (by rw [cells_eq, h2]; exact .plain m h3) (plain_ones h3) hcs
    refine ⟨rfl, .agg cs', by simpa using g2.agg g3, fun w => ?_⟩
    obtain ⟨u', h1', h2', _⟩ := run_zeroValue' (G := c.G) hz w
    have hu : u' = u := by
      unfold zeroC at hz; split at hz
      · rename_i i hi; split at hz
        · rename_i zz hzz
          simp [zeroValue, typeInfo, hi, hzz] at h1 h1'
          rw [← h1, ← h1']
        · cases hz
      · cases hz
    subst hu
    have hfill : Instr.fill (fun i => some (i * n, n)) u'.cells ((ps.map fun x => (x.1, a.eval x.2)).toList) = some cs' := by rw [← g1]; congr 1; simp
    simp only [execOp, ho, Instr.build, Sem.run_bind, h1', Result.andThen, run_underlying' ht, run_sizeOf' hn]
    simp only [hfill, Sem.run_pure]
  · cases h
theorem isEq_cases {op : BinOp} (h : isEq op = true) : op = .eql ∨ op = .neq := by cases op <;> simp [isEq] at h ⊢
theorem isEq_neg {op : BinOp} (h : isEq op = true) : (op = .eql ∧ isNeq op = false) ∨ (op = .neq ∧ isNeq op = true) := by cases op <;> simp [isEq, isNeq] at h ⊢
theorem pure_sim (hc : c.Ok) {x p : P} (hp : cOp c o.op x = some p) (hk : klass p = 0) (hE : EnvR m e a.tmps) (h : op1 ro K p e s = some (v, s')) : PureR c m a o s s' v := by
  cases ho : o.op with
  | move y => simp only [cOp, ho] at hp; obtain ⟨h1, rfl⟩ := ok_eq hp; exact s_mv (.inl ho) h1 hE h
  | assign y => simp only [cOp, ho] at hp; obtain ⟨h1, rfl⟩ := ok_eq hp; exact s_mv (.inr ho) h1 hE h
  | pick k y z =>
    simp only [cOp, ho] at hp; obtain ⟨h1, rfl⟩ := ok_eq hp
    simp only [Bool.and_eq_true] at h1
    exact s_pick ho h1.1.1 h1.1.2 h1.2 hE h
  | alloc t => simp only [cOp, ho, cNew] at hp; split at hp <;> cases hp; cases hk
  | box t y => simp only [cOp, ho] at hp; obtain ⟨h1, rfl⟩ := ok_eq hp; cases hk
  | build t ps =>
    simp only [cOp, ho, cBuild] at hp
    split at hp
    · rename_i z fs hz ht
      split at hp
      · rename_i pl hpl
        split at hp
        · rename_i l hl; cases hp; exact s_bldS ho hz ht hpl hl hE h
        · cases hp
      · cases hp
    · rename_i z k u hz ht
      split at hp
      · rename_i n hn; obtain ⟨h1, rfl⟩ := ok_eq hp; exact s_bldA ho hz ht hn h1 hE h
      · cases hp
    · cases hp
  | buildSlice t len ps =>
    simp only [cOp, ho, cBuildS] at hp
    split at hp
    · split at hp
      · obtain ⟨h1, rfl⟩ := ok_eq hp; cases hk
      · cases hp
    · cases hp
  | load t y => simp only [cOp, ho, cLd] at hp; split at hp; (cases hp; cases hk); split at hp; obtain ⟨h1, rfl⟩ := ok_eq hp; cases hk; cases hp
  | store t y z => simp only [cOp, ho, cSt] at hp; split at hp; obtain ⟨h1, rfl⟩ := ok_eq hp; cases hk; cases hp
  | nilCheck y => simp only [cOp, ho] at hp; obtain ⟨h1, rfl⟩ := ok_eq hp; exact s_nck ho h1 hE h
  | binOp op t y z u =>
    simp only [cOp, ho, cBin] at hp
    split at hp
    · rename_i n hop hn
      obtain ⟨h1, rfl⟩ := ok_eq hp
      simp only [Bool.and_eq_true] at h1
      exact s_eqa hc ho (isEq_cases hop) hn h1.1 h1.2 hE h
    · rename_i hop hn
      split at hp
      · rename_i u0 ht; obtain ⟨h1, rfl⟩ := ok_eq hp; simp only [Bool.and_eq_true] at h1; exact s_eqn ho (isEq_neg hop) (.inl ⟨rfl, _, ht⟩) h1.1 h1.2 hE h
      · rename_i b1 b2 b3 ht; obtain ⟨h1, rfl⟩ := ok_eq hp; simp only [Bool.and_eq_true] at h1; exact s_eqn ho (isEq_neg hop) (.inr ⟨rfl, _, _, _, ht⟩) h1.1 h1.2 hE h
      · obtain ⟨h1, rfl⟩ := ok_eq hp; simp only [Bool.and_eq_true] at h1; exact s_bin ho h1.1 h1.2 hE h
      · cases hp
    · split at hp
      · obtain ⟨h1, rfl⟩ := ok_eq hp; simp only [Bool.and_eq_true] at h1; exact s_bin ho h1.1 h1.2 hE h
      · cases hp
  | unOp op t y =>
    cases op <;> simp only [cOp, ho, cUn] at hp
    · cases hp
    · obtain ⟨h1, rfl⟩ := ok_eq hp; exact s_inv ho h1 hE h
    · obtain ⟨h1, rfl⟩ := ok_eq hp; exact s_not ho h1 hE h
    · cases hp
  | convert src d y =>
    simp only [cOp, ho, cConv] at hp
    split at hp
    · rename_i ds k hs hd; obtain ⟨h1, rfl⟩ := ok_eq hp; exact s_cvi ho hs hd h1 hE h
    · split at hp
      · obtain ⟨h1, rfl⟩ := ok_eq hp; cases hk
      · cases hp
    · cases hp
  | makeFunc fn first capt =>
    cases fn <;> simp only [cOp, ho, cMkf] at hp
    · obtain ⟨h1, rfl⟩ := ok_eq hp; simp only [Bool.and_eq_true] at h1; exact s_mkf ho h1.1 h1.2 hE h
    all_goals cases hp
  | makeSlice t l k =>
    simp only [cOp, ho, cMks] at hp
    split at hp
    · split at hp
      · obtain ⟨h1, rfl⟩ := ok_eq hp; cases hk
      · cases hp
    · cases hp
  | slice t y lo hi mx =>
    simp only [cOp, ho, cSli] at hp
    split at hp
    · rename_i u ht
      split at hp
      · rename_i n hn; obtain ⟨h1, rfl⟩ := ok_eq hp; simp only [Bool.and_eq_true] at h1; exact s_sli ho ht hn h1.1.1.1 h1.1.1.2 h1.1.2 h1.2 hE h
      · cases hp
    · rename_i ht
      obtain ⟨h1, rfl⟩ := ok_eq hp; simp only [Bool.and_eq_true] at h1
      have hm : mx = none := by simpa using h1.2
      subst hm
      exact s_sls ho ht h1.1.1.1 h1.1.1.2 h1.1.2 hE h
    · split at hp
      · obtain ⟨h1, rfl⟩ := ok_eq hp; cases hk
      · cases hp
    · cases hp
  | fieldAddr t y f =>
    simp only [cOp, ho, cFa] at hp
    split at hp
    · rename_i fs ht
      split at hp
      · rename_i q hq
        split at hp
        · rename_i n hn; obtain ⟨h1, rfl⟩ := ok_eq hp; simp only [Bool.and_eq_true, decide_eq_true_eq] at h1; exact s_fa ho ht hq hn h1.2 h1.1 hE h
        · cases hp
      · cases hp
    · cases hp
  | field t y f =>
    simp only [cOp, ho, cFld] at hp
    split at hp
    · rename_i fs ht
      split at hp
      · rename_i q hq
        split at hp
        · rename_i n hn; obtain ⟨h1, rfl⟩ := ok_eq hp; exact s_fld ho ht hq hn h1 hE h
        · cases hp
      · cases hp
    · cases hp
  | indexAddr t y i =>
    simp only [cOp, ho, cIa] at hp
    split at hp
    · rename_i u ht
      split at hp
      · rename_i n hn; obtain ⟨h1, rfl⟩ := ok_eq hp; simp only [Bool.and_eq_true] at h1; exact s_ia ho ht hn h1.1 h1.2 hE h
      · cases hp
    · rename_i k u ht
      split at hp
      · rename_i n hn; obtain ⟨h1, rfl⟩ := ok_eq hp; simp only [Bool.and_eq_true] at h1; exact s_iaa ho ht hn h1.1 h1.2 hE h
      · cases hp
    · cases hp
  | index t y i =>
    simp only [cOp, ho, cIx] at hp
    split at hp
    · rename_i k u ht
      split at hp
      · rename_i n g hn hg; obtain ⟨h1, rfl⟩ := ok_eq hp; simp only [Bool.and_eq_true] at h1; exact s_ix ho ht hn hg h1.1 h1.2 hE h
      · cases hp
    · rename_i ht; obtain ⟨h1, rfl⟩ := ok_eq hp; simp only [Bool.and_eq_true] at h1; exact s_ixs ho ht h1.1 h1.2 hE h
    · cases hp
  | extract y i => simp only [cOp, ho] at hp; obtain ⟨h1, rfl⟩ := ok_eq hp; exact s_ex ho h1 hE h
  | panic y => simp only [cOp, ho] at hp; cases hp; cases hk
  | call k =>
    simp only [cOp, ho, cCall] at hp
    split at hp
    · rename_i f hf
      split at hp
      · rename_i h0; obtain ⟨h1, rfl⟩ := ok_eq hp; exact s_ext hc ho hf (.inl ⟨h0, rfl⟩) h1 hE h
      · split at hp
        · rename_i h0; obtain ⟨h1, rfl⟩ := ok_eq hp; exact s_ext hc ho hf (.inr ⟨h0, rfl⟩) h1 hE h
        · obtain ⟨h1, rfl⟩ := ok_eq hp; cases hk
    · obtain ⟨h1, rfl⟩ := ok_eq hp; cases hk
    · cases hp
    · cases hp
    · rename_i b hb
      split at hp
      · rename_i y t hka hkt
        split at hp
        · rename_i u ht; obtain ⟨h1, rfl⟩ := ok_eq hp; exact s_len ho hb hka hkt ht h1 hE h
        · rename_i ht; obtain ⟨h1, rfl⟩ := ok_eq hp; exact s_lens ho hb hka hkt ht h1 hE h
        · rename_i n u ht; obtain ⟨h1, rfl⟩ := ok_eq hp; exact s_lena ho hb hka hkt ht h
        · cases hp
      · split at hp
        · split at hp
          · obtain ⟨h1, rfl⟩ := ok_eq hp; cases hk
          · cases hp
        · split at hp
          · obtain ⟨h1, rfl⟩ := ok_eq hp; cases hk
          · cases hp
        · cases hp
      · split at hp
        · split at hp
          · obtain ⟨h1, rfl⟩ := ok_eq hp; cases hk
          · cases hp
        · cases hp
      · obtain ⟨h1, rfl⟩ := ok_eq hp; exact s_mnx (mx := false) ho hb h1 hE h
      · obtain ⟨h1, rfl⟩ := ok_eq hp; exact s_mnx (mx := true) ho hb h1 hE h
      · split at hp
        · split at hp
          · obtain ⟨h1, rfl⟩ := ok_eq hp; cases hk
          · cases hp
        · cases hp
      · cases hp
  | _ => simp only [cOp, ho] at hp; cases hp
end Go.Proofs.YtakdnpafdadblaaGreat.EV
namespace Go.Proofs.YtakdnpafdadblaaGreat.EV
open Go
variable {c : Cfg} {m : Mp} {e : Env} {a : Act} {ro : Addr → Option Value} {K : H} {s s' : St} {v : Value} {o : Oper} {W0 : World} {CR : Nat → Code → C → Prop} {w : World}
def OpR (c : Cfg) (W0 : World) (CR : Nat → Code → C → Prop) (m : Mp) (a : Act) (o : Oper) (s : St) (w : World) (s' : St) (v : Value) : Prop :=
  ∃ m' w' v', ((execOp a.eval o).run c.G w = .ok (.value v') w' ∨ ((execOp a.eval o).run c.G w = .ok .skip w' ∧ v' = undef)) ∧ R W0 CR m' s' w' ∧ Stp m s w m' s' w' ∧ VR m' v v'
theorem PureR.op (hR : R W0 CR m s w) (h : PureR c m a o s s' v) : OpR c W0 CR m a o s w s' v := by
  obtain ⟨rfl, v', h1, h2⟩ := h
  exact ⟨m, w, v', .inl (h2 w), hR, Stp.refl _ _ _, h1⟩
def roV : Value → Bool
  | .bool _ => true
  | .int _ _ => true
  | .string _ => true
  | .pointer none => true
  | .pointer (some a) => a.spot.isNone
  | .slice none 0 0 => true
  | .slice (some a) _ _ => a.spot.isNone
  | .nilFunc => true
  | _ => false
def RoOk (ro : Addr → Option Value) (W0 : World) : Prop := ∀ a v, ro a = some v → a.spot = none ∧ W0.cell? a = some v ∧ roV v = true
theorem VR.rdo (m : Mp) {v : Value} (h : roV v = true) : VR m v v := by
  unfold roV at h
  split at h
  · exact .bool _
  · exact .int _ _
  · exact .str _
  · exact .ptrN
  · rename_i a; obtain ⟨b, o, sp⟩ := a; simp at h; subst h; exact .ptrR _ _
  · exact .slN
  · rename_i a _ _; obtain ⟨b, o, sp⟩ := a; simp at h; subst h; exact .slR _ _ _ _
  · exact .fnN
  · cases h
theorem roV_one {v : Value} (h : roV v = true) : v.oneCell' = true := by
  unfold roV at h
  split at h <;> first | rfl | cases h
theorem R.rdo (hR : R W0 CR m s w) (hro : RoOk ro W0) {a : Addr} (h : ro a = some v) : w.cell? a = some v ∧ VR m v v ∧ v.oneCell' = true := by
  obtain ⟨h1, h2, h3⟩ := hro a v h
  refine ⟨?_, .rdo m h3, roV_one h3⟩
  have hlt : a.block < W0.heap.size := by
    rcases Nat.lt_or_ge a.block W0.heap.size with hl | hl
    · exact hl
    · simp [World.cell?, Array.getElem?_eq_none hl] at h2
  rw [← h2]
  simp only [World.cell?, hR.old a.block hlt]
theorem roCells_sim (hR : R W0 CR m s w) (hro : RoOk ro W0) {a : Addr} : ∀ (n i : Nat) (l : List Value), roCells ro a n i = some l → l.length = n ∧ VRs m l l ∧ Ones l ∧ ∀ j u, l[j]? = some u → w.cell? (a.add (i + j)) = some u
  | 0, i, l, h => by simp only [roCells, Option.some.injEq] at h; subst h; exact ⟨rfl, .nil m, fun v hv => by (cases hv), fun j u hu => by simp at hu⟩
  | n + 1, i, l, h => by
    simp only [roCells] at h
    split at h
    · rename_i u us h1 h2
      cases h
      obtain ⟨g1, g2, g3, g4⟩ := roCells_sim hR hro n (i + 1) us h2
      obtain ⟨k1, k2, k3⟩ := hR.rdo hro h1
      refine ⟨by simp [g1], .cons k2 g2, fun v hv => ?_, fun j u' hu => ?_⟩
      · rcases List.mem_cons.1 hv with rfl | hv
        · exact k3
        · exact g3 v hv
      · cases j with
        | zero => simp at hu; subst hu; simpa using k1
        | succ j => simp at hu; have := g4 j u' hu; rw [← this]; congr 2; omega
    · cases h
theorem ptrS {b : Addr} {u : Value} (h : VR m (.pointer (some b)) u) : ∃ b', u = .pointer (some b') ∧ VR m (.pointer (some b)) (.pointer (some b')) := by
  generalize hv : Value.pointer (some b) = q at h
  cases h with
  | ptrO k o b f t hk => cases hv; exact ⟨_, rfl, .ptrO k o b f t hk⟩
  | ptrR b o => cases hv; exact ⟨_, rfl, .ptrR b o⟩
  | _ => cases hv
theorem R.cells (hR : R W0 CR m s w) {k b f t : Nat} (hk : m.r k = some (b, f, t)) {row l : List Value} (hr : s.get k = some row) {o n : Nat} (hc : cut row o n = some l) :
    l.length = n ∧ Ones l ∧ ∃ l', VRs m l l' ∧ ∀ j u, l'[j]? = some u → w.cell? ((⟨b, f + o, none⟩ : Addr).add j) = some u := by
  obtain ⟨hB, cs, e, h1, h2, h3, h4, h5⟩ := hR.row k b f t hk row hr
  unfold cut at hc
  split at hc
  · rename_i hle
    cases hc
    refine ⟨by simp; omega, fun v hv => h5 v (List.mem_of_mem_drop (List.mem_of_mem_take hv)), (cs.toList.drop (f + o)).take n, VRs.of (by simp; omega) (fun i v hv => ?_), fun j u hu => ?_⟩
    · rw [List.getElem?_take] at hv
      split at hv
      · rename_i hi
        rw [List.getElem?_drop] at hv
        obtain ⟨v', g1, g2⟩ := h4 _ v hv
        refine ⟨v', ?_, g2⟩
        rw [List.getElem?_take, if_pos hi, List.getElem?_drop, Array.getElem?_toList, ← g1]
        congr 1; omega
      · cases hv
    · rw [List.getElem?_take] at hu
      split at hu
      · rw [List.getElem?_drop, Array.getElem?_toList] at hu
        rw [add_none]
        simp [World.cell?, h1, hu]
      · cases hu
  · cases hc
theorem cut_zero {r l : List Value} {o : Nat} (h : cut r o 0 = some l) : l = [] := by
  unfold cut at h; split at h
  · simpa using h.symm
  · cases h
theorem rdAt_sim (hR : R W0 CR m s w) (hro : RoOk ro W0) {x x' : Addr} {n : Nat} {l : List Value} (hx : VR m (.pointer (some x)) (.pointer (some x'))) (h : rdAt ro s x n = some l) :
    l.length = n ∧ Ones l ∧ ∃ l', VRs m l l' ∧ ∀ j u, l'[j]? = some u → w.cell? (x'.add j) = some u := by
  generalize hv : Value.pointer (some x) = y at hx
  generalize hv' : Value.pointer (some x') = y' at hx
  cases hx with
  | ptrO k o b f t hk =>
    cases hv; cases hv'
    simp only [rdAt, own] at h
    split at h
    · rename_i row hrow; exact hR.cells hk hrow h
    · cases h
  | ptrR b o =>
    cases hv; cases hv'
    simp only [rdAt] at h
    obtain ⟨g1, g2, g3, g4⟩ := roCells_sim hR hro n 0 l h
    exact ⟨g1, g3, l, g2, fun j u hu => by simpa using g4 j u hu⟩
  | _ => cases hv
theorem rdSl_sim (hR : R W0 CR m s w) (hro : RoOk ro W0) {x x' : Option Addr} {k n c0 c' : Nat} {l : List Value} (hx : VR m (.slice x k c0) (.slice x' k c')) (hk : n ≠ 0 → 0 < k) (h : rdSl ro s x n = some l) :
    l.length = n ∧ Ones l ∧ ∃ l', VRs m l l' ∧ ((x' = none ∧ l' = [] ∧ n = 0) ∨ ∃ y, x' = some y ∧ ∀ j u, l'[j]? = some u → w.cell? (y.add j) = some u) := by
  generalize hv : Value.slice x k c0 = y at hx
  generalize hv' : Value.slice x' k c' = y' at hx
  cases hx with
  | slN =>
    cases hv; cases hv'
    simp only [rdSl] at h
    split at h
    · rename_i hn; cases h; exact ⟨hn.symm, (fun v hv => by cases hv), [], .nil m, .inl ⟨rfl, rfl, hn⟩⟩
    · cases h
  | slR b o n0 c1 =>
    cases hv; cases hv'
    obtain ⟨g1, g2, l', g3, g4⟩ := rdAt_sim hR hro (.ptrR b o) (show rdAt ro s ⟨b, o, none⟩ n = some l from h)
    exact ⟨g1, g2, l', g3, .inr ⟨_, rfl, g4⟩⟩
  | slO i o n0 c1 a1 c2 h1 h2 b f t h3 h4 =>
    cases hv; cases hv'
    by_cases hn : n = 0
    · subst hn
      simp only [rdSl, rdAt, own] at h
      split at h
      · have := cut_zero h; subst this
        exact ⟨rfl, (fun v hv => by cases hv), [], .nil m, .inr ⟨_, rfl, fun j u hu => by simp at hu⟩⟩
      · cases h
    · obtain ⟨rfl, _⟩ := h4 (by have := hk hn; omega)
      obtain ⟨g1, g2, l', g3, g4⟩ := rdAt_sim hR hro (.ptrO i o b f t h3) (show rdAt ro s (own i o) n = some l from h)
      exact ⟨g1, g2, l', g3, .inr ⟨_, rfl, g4⟩⟩
  | _ => cases hv
theorem run_loadC {G : Program} {x : Addr} {l l' : List Value} {n : Nat} (hn : l.length = n) (h : VRs m l l') (hc : ∀ j u, l'[j]? = some u → w.cell? (x.add j) = some u) : (loadCells x n).run G w = .ok l'.toArray w := by
  have hl : l'.length = n := by rw [← h.1]; exact hn
  rw [← hl]; exact run_loadCells_list w x l' hc
theorem run_loadV {G : Program} {t : Nat} {n : Option Nat} {x : Addr} {l l' : List Value} (ht : aggN G t = some n) (hn : l.length = n.getD 1) (hones : Ones l) (hs : VRs m l l') (hc : ∀ j u, l'[j]? = some u → w.cell? (x.add j) = some u)
    (hv : mkAgg n l = some v) : ∃ v', VR m v v' ∧ (loadVar t x).run G w = .ok v' w := by
  rcases mkAgg_some hv with ⟨k, rfl, rfl⟩ | ⟨rfl, rfl⟩
  · refine ⟨.agg l'.toArray, hs.agg hones, ?_⟩
    have := run_loadC (G := G) (w := w) hn hs hc
    simp [loadVar, Sem.run_bind, run_isAgg ht, aggN_size ht] at this ⊢
    simp [this]
  · obtain ⟨u, r, rfl, h1, h2⟩ := hs.inv_cons
    have := h2.inv_nil; subst this
    refine ⟨u, h1, ?_⟩
    have h0 := hc 0 u rfl
    simp only [Addr.add, if_true] at h0
    simp [loadVar, run_isAgg ht, run_load, h0]
theorem s_ld (hR : R W0 CR m s w) (hro : RoOk ro W0) {t : Nat} {n : Option Nat} {y : Operand} {ap : List Operand} (ho : o.op = .load t y) (ht : aggN c.G t = some n) (hy : okO y = true) (hE : EnvR m e a.tmps)
    (h : op1 ro K (.ld n y ap) e s = some (v, s')) : OpR c W0 CR m a o s w s' v := by
  simp only [op1] at h
  split at h
  · rename_i b hb
    split at h
    · split at h
      · rename_i l hl
        split at h
        · rename_i u hu
          obtain ⟨rfl, rfl⟩ := ret_eq h
          have hr := opd_sim hE hy hb
          obtain ⟨b', hb', hr'⟩ := ptrS hr
          obtain ⟨g1, g2, l', g3, g4⟩ := rdAt_sim hR hro hr' hl
          obtain ⟨v', k1, k2⟩ := run_loadV (G := c.G) ht g1 g2 g3 g4 hu
          refine ⟨m, w, v', .inl ?_, hR, Stp.refl _ _ _, k1⟩
          simp [execOp, ho, Instr.loadAt, hb', Instr.sureAddr, k2]
        · cases h
      · cases h
    · cases h
  · cases h
theorem s_new (hR : R W0 CR m s w) {t : Nat} {z : List Value} (ho : o.op = .alloc t) (hz : zeroC c.G t = some z) (h : op1 ro K (.new z) e s = some (v, s')) : OpR c W0 CR m a o s w s' v := by
  simp only [op1] at h
  obtain ⟨rfl, rfl⟩ := ret_eq h
  obtain ⟨u, h1, h2, h3⟩ := run_zeroValue' (G := c.G) hz w
  have hc : u.cells.toList = z := by rw [cells_eq, h2]
  have hs : u.cells.size = z.length := by rw [← hc]; simp
  obtain ⟨k1, k2⟩ := hR.push z u.cells t (by omega) (plain_ones h3) (fun i v hv => ⟨v, by rw [← Array.getElem?_toList, hc]; exact hv, .plain m (List.all_eq_true.1 h3 v (List.mem_of_getElem? hv))⟩)
  refine ⟨_, _, .pointer (some ⟨w.heap.size, 0 + 0, none⟩), .inl ?_, k1, k2, .ptrO s.n 0 w.heap.size 0 _ (Mp.add_same _ _ _)⟩
  simp [execOp, ho, Instr.alloc, h1, newVar, newRow]
theorem s_box (hR : R W0 CR m s w) {t : Nat} {y : Operand} (ho : o.op = .box t y) (hy : okO y = true) (hE : EnvR m e a.tmps) (h : op1 ro K (.box y) e s = some (v, s')) : OpR c W0 CR m a o s w s' v := by
  simp only [op1] at h
  split at h
  · rename_i u hu
    split at h
    · rename_i hp
      obtain ⟨rfl, rfl⟩ := ret_eq h
      have hr := opd_sim hE hy hu
      have hcs := hr.cells
      obtain ⟨k1, k2⟩ := hR.push (EV.cells u) (a.eval y).cells t (by rw [hcs.1]; simp) (hr.onesC hp) (fun i v hv => by obtain ⟨v', q1, q2⟩ := hcs.get hv; exact ⟨v', by simpa using q1, q2⟩)
      refine ⟨_, _, .pointer (some ⟨w.heap.size, 0 + 0, none⟩), .inl ?_, k1, k2, .ptrO s.n 0 w.heap.size 0 _ (Mp.add_same _ _ _)⟩
      simp [execOp, ho, Instr.box, newVar, newRow]
    · cases h
  · cases h
theorem splice_get {r x : List Value} {o i : Nat} (h : o + x.length ≤ r.length) : (splice r o x)[i]? = if i < o then r[i]? else if i < o + x.length then x[i - o]? else r[i]? := by
  unfold splice
  have ht : (r.take o).length = o := by simp; omega
  rw [List.getElem?_append, ht]
  by_cases h1 : i < o
  · simp only [h1, if_true]
    rw [List.getElem?_take, if_pos h1]
  · simp only [h1, if_false]
    rw [List.getElem?_append]
    by_cases h2 : i < o + x.length
    · rw [if_pos (by omega), if_pos h2]
    · rw [if_neg (by omega), if_neg h2, List.getElem?_drop]
      congr 1; omega
theorem setRow_putObj {w : World} {g : Nat} {old cs : Array Value} {t : TypeId} (hg : w.heap[g]? = some (.cells old t (0, 0))) : w.setRow g cs = w.putObj g (.cells cs t (0, 0)) := by
  unfold World.setRow World.putObj
  congr 1
  apply Array.ext_getElem?
  intro i
  rw [Array.getElem?_modify, Array.getElem?_setIfInBounds]
  by_cases e : g = i
  · subst e
    have hlt := (Array.getElem?_eq_some_iff.1 hg).1
    simp [hg, hlt]
    have hh := (Array.getElem?_eq_some_iff.1 hg).2
    rw [hh]
  · simp [e]
theorem wr_own {k o : Nat} {u : Value} {us : List Value} (h : wr s (own k o) (u :: us) = some s') : s.may k = true ∧ ∃ row, s.get k = some row ∧ o + (u :: us).length ≤ row.length ∧ s' = s.put k (some (splice row o (u :: us))) := by
  have h : (if s.may k = true then (match s.get k with
        | some r => if o + (u :: us).length ≤ r.length then some (s.put k (some (splice r o (u :: us)))) else none
        | none => none) else none) = some s' := h
  split at h
  · rename_i hm
    split at h
    · rename_i r hr
      split at h
      · rename_i hle; cases h; exact ⟨hm, r, hr, hle, rfl⟩
      · cases h
    · cases h
  · cases h
theorem wr_sim (hR : R W0 CR m s w) {x x' : Addr} {l l' : List Value} (hx : l ≠ [] → VR m (.pointer (some x)) (.pointer (some x'))) (hl : VRs m l l') (ho : Ones l) (h : wr s x l = some s') (G : Program) :
    ∃ w', (storeCells x' l').run G w = .ok () w' ∧ R W0 CR m s' w' ∧ Stp m s w m s' w' := by
  cases l with
  | nil =>
    simp only [wr, Option.some.injEq] at h
    subst h
    have := hl.inv_nil; subst this
    exact ⟨w, rfl, hR, Stp.refl _ _ _⟩
  | cons u us =>
    have hr := hx (by simp)
    generalize hv : Value.pointer (some x) = y at hr
    generalize hv' : Value.pointer (some x') = y' at hr
    cases hr with
    | ptrO k o b f t hk =>
      cases hv; cases hv'
      obtain ⟨_, row, hrow, hle, rfl⟩ := wr_own h
      obtain ⟨hB, cs, et, h1, h2, h3, h4, h5⟩ := hR.row k b f t hk row hrow
      have hlen : l'.length = (u :: us).length := hl.1.symm
      have hst := run_storeCells_at G b (f + o) et l' 0 cs w h1 (by omega) (hl.ones ho)
      simp only [Nat.add_zero] at hst
      rw [setRow_putObj h1] at hst
      have hspl : (cs.toList.take (f + o) ++ l' ++ cs.toList.drop (f + o + l'.length)) = splice cs.toList (f + o) l' := by simp [splice]
      rw [hspl] at hst
      have hcl : cs.toList.length = t := by simpa using h2
      obtain ⟨k1, k2⟩ := hR.write (row' := splice row o (u :: us)) (c := (splice cs.toList (f + o) l').toArray) (e := et) hk hrow
        (by have := splice_len (r := cs.toList) (x := l') (o := f + o) (by omega); simpa using this.trans hcl)
        (by rw [splice_len hle]; omega)
        (ones_splice h5 ho) (fun i v hv => by
          rw [splice_get hle] at hv
          simp only [List.getElem?_toArray]
          rw [splice_get (by omega)]
          by_cases i1 : i < o
          · rw [if_pos i1] at hv; rw [if_pos (by omega)]
            obtain ⟨v', q1, q2⟩ := h4 i v hv
            exact ⟨v', by simpa using q1, q2⟩
          · rw [if_neg i1] at hv; rw [if_neg (by omega)]
            by_cases i2 : i < o + (u :: us).length
            · rw [if_pos i2] at hv; rw [if_pos (by omega)]
              obtain ⟨v', q1, q2⟩ := hl.get hv
              exact ⟨v', by rw [← q1]; congr 1; omega, q2⟩
            · rw [if_neg i2] at hv; rw [if_neg (by omega)]
              obtain ⟨v', q1, q2⟩ := h4 i v hv
              exact ⟨v', by simpa using q1, q2⟩)
      exact ⟨_, hst, k1, k2⟩
    | ptrR b o => cases hv; simp [wr] at h
    | _ => cases hv
theorem s_st (hR : R W0 CR m s w) {t n : Nat} {y z : Operand} {ap : List Operand} (ho : o.op = .store t y z) (ht : szOf c.G t = some n) (hy : okO y = true) (hz : okO z = true) (hE : EnvR m e a.tmps)
    (h : op1 ro K (.st n y z ap) e s = some (v, s')) : OpR c W0 CR m a o s w s' v := by
  simp only [op1] at h
  split at h
  · rename_i b u hb hu
    split at h
    · rename_i hc
      obtain ⟨c1, c2, c3⟩ := hc
      split at h
      · rename_i s1 hs
        obtain ⟨rfl, rfl⟩ := ret_eq h
        have hr := opd_sim hE hy hb
        have hru := opd_sim hE hz hu
        obtain ⟨b', hb', hr'⟩ := ptrS hr
        obtain ⟨w', k1, k2, k3⟩ := wr_sim hR (fun _ => hr') hru.cells (hru.onesC c2) hs c.G
        have hsz : (a.eval z).cells.size = n := by rw [← c1, hru.cells.1]; simp
        refine ⟨m, w', undef, .inr ⟨?_, rfl⟩, k2, k3, VR.undef m⟩
        simp [execOp, ho, Instr.storeAt, hb', Instr.sureAddr, storeVar, run_sizeOf' ht, hsz, k1]
      · cases h
    · cases h
  · cases h
end Go.Proofs.YtakdnpafdadblaaGreat.EV
namespace Go.Proofs.YtakdnpafdadblaaGreat.EV
open Go
variable {c : Cfg} {m : Mp} {e : Env} {a : Act} {ro : Addr → Option Value} {K : H} {s s' : St} {v : Value} {o : Oper} {W0 : World} {CR : Nat → Code → C → Prop} {w : World}
theorem rep_len (z : List Value) (n : Nat) : (rep z n).length = n * z.length := by
  induction n with
  | zero => simp [rep]
  | succ n ih => simp only [rep, List.length_append, ih, Nat.add_mul]; omega
theorem rep_get (z : List Value) (hz : 0 < z.length) : ∀ (n i : Nat), i < n * z.length → (rep z n)[i]? = z[i % z.length]?
  | 0, i, h => by simp at h
  | n + 1, i, h => by
    simp only [rep, List.getElem?_append]
    by_cases hi : i < z.length
    · rw [if_pos hi, Nat.mod_eq_of_lt hi]
    · rw [if_neg hi, rep_get z hz n (i - z.length) (by rw [Nat.add_mul] at h; omega)]
      congr 1
      rw [Nat.mod_eq_sub_mod (by omega : i ≥ z.length)]
theorem rep_all {z : List Value} {p : Value → Bool} (h : z.all p = true) (n : Nat) : (rep z n).all p = true := by
  induction n with
  | zero => rfl
  | succ n ih => simp only [rep, List.all_append, h, ih, Bool.and_self]
theorem rep_cells {u : Value} {z : List Value} (hz : EV.cells u = z) (h0 : 0 < z.length) (n : Nat) : ((Array.range (n * z.length)).map (u.cells[· % u.cells.size]!)).toList = rep z n := by
  have hc : u.cells.toList = z := by rw [cells_eq, hz]
  have hs : u.cells.size = z.length := by rw [← hc]; simp
  apply List.ext_getElem?
  intro i
  by_cases hi : i < n * z.length
  · rw [rep_get z h0 n i hi]
    have hm : i % z.length < z.length := Nat.mod_lt _ h0
    simp only [Array.toList_map, List.getElem?_map, Array.getElem?_toList, Array.getElem?_range, hi, if_true, Option.map_some, hs]
    have h1 : z[i % z.length]? = u.cells[i % z.length]? := by rw [← Array.getElem?_toList, hc]
    rw [h1, getElem!_pos u.cells _ (by omega), Array.getElem?_eq_getElem (by omega)]
  · rw [List.getElem?_eq_none (by simp; omega), List.getElem?_eq_none (by rw [rep_len]; omega)]
theorem zeroC_info {G : Program} {t n : Nat} {z : List Value} (hz : zeroC G t = some z) (hn : szOf G t = some n) : ∃ i u, G.info? t = some i ∧ i.zero = some u ∧ EV.cells u = z ∧ z.all plainC = true ∧ i.size = n := by
  unfold zeroC at hz
  unfold szOf at hn
  split at hz
  · rename_i i hi
    split at hz
    · rename_i u hu
      split at hz
      · rename_i hp; cases hz
        rw [hi] at hn; simp at hn
        exact ⟨i, u, hi, hu, rfl, hp, hn⟩
      · cases hz
    · cases hz
  · cases hz
theorem narrow_sz {G : Program} {t n : Nat} (h : narrow G t = some n) : szOf G t = some n ∧ ∃ i, G.info? t = some i ∧ i.bytes ≤ 8192 := by
  unfold narrow at h
  split at h
  · rename_i i hi
    split at h
    · rename_i hb; cases h; exact ⟨by simp [szOf, hi], i, hi, hb⟩
    · cases h
  · cases h
theorem R.pushPlain (hR : R W0 CR m s w) {row : List Value} (hp : row.all plainC = true) {cs : Array Value} (hc : cs.toList = row) (t : TypeId) :
    R W0 CR (m.add s.n (w.heap.size, 0, cs.size)) (s.push row) (w.alloc (.cells cs t)) ∧ Stp m s w (m.add s.n (w.heap.size, 0, cs.size)) (s.push row) (w.alloc (.cells cs t)) :=
  hR.push row cs t (by rw [← hc]; simp) (plain_ones hp) (fun i v hv => ⟨v, by rw [← Array.getElem?_toList, hc]; exact hv, .plain m (List.all_eq_true.1 hp v (List.mem_of_getElem? hv))⟩)
theorem s_mks (hR : R W0 CR m s w) {t u n : Nat} {z : List Value} {l k : Operand} (ho : o.op = .makeSlice t l k) (ht : c.G.underlying t = some (.slice u)) (hn : narrow c.G u = some n) (hz : zeroC c.G u = some z)
    (hl : okO l = true) (hk : okO k = true) (hzn : z.length = n) (h0 : 0 < n) (hE : EnvR m e a.tmps) (h : op1 ro K (.mks n z l k) e s = some (v, s')) : OpR c W0 CR m a o s w s' v := by
  simp only [op1] at h
  split at h
  · rename_i k1 x k2 y hx hy
    split at h
    · rename_i hc
      obtain ⟨hc1, rfl, hc2, hc3⟩ := hc
      obtain ⟨rfl, rfl⟩ := ret_eq h
      obtain ⟨hs, i, hi, hb⟩ := narrow_sz hn
      obtain ⟨i', u', hi', hu, hcz, hp, hsz⟩ := zeroC_info hz hs
      rw [hi] at hi'; cases hi'
      have e1 := intR (opd_sim hE hl hx)
      have e2 := intR (opd_sim hE hk hy)
      obtain ⟨N, rfl⟩ : ∃ N : Nat, x = (N : Int) := ⟨x.toNat, by omega⟩
      have hN : N ≤ 4294967296 := by omega
      have hbytes : (i.bytes : Int) * (N : Int) ≤ 281474976710656 := by
        have : i.bytes * N ≤ 8192 * 4294967296 := Nat.mul_le_mul hb hN
        have h2 : ((i.bytes * N : Nat) : Int) ≤ ((8192 * 4294967296 : Nat) : Int) := Int.ofNat_le.2 this
        rw [Int.natCast_mul] at h2
        omega
      have hrun := run_make (P := c.G) w t u i u' ht hi hu k1 k2 (N : Int) (N : Int) (by omega) (Int.le_refl _) hbytes (by omega)
      simp only [Int.toNat_natCast] at hrun ⊢
      have hcells : (madeCells u'.cells (N * i.size)).toList = rep z N := by
        rw [hsz, ← hzn]; exact rep_cells hcz (by omega) N
      obtain ⟨g1, g2⟩ := hR.pushPlain (rep_all hp N) hcells u
      refine ⟨_, _, .slice (some ⟨w.heap.size, 0, none⟩) N N, .inl (by simp [execOp, ho, e1, e2, hrun]), g1, g2, ?_⟩
      have hcs : (madeCells u'.cells (N * i.size)).size = N * n := by rw [size_madeCells, hsz]
      exact .slO s.n 0 N n _ N (Nat.le_refl _) (fun hz0 => by omega) w.heap.size 0 _ (Mp.add_same _ _ _) (fun _ => ⟨by simp, by rw [hcs]; omega⟩)
    · cases h
  · cases h
theorem fillP_len : ∀ {ps : List (Nat × Nat × Operand)} {z cs : List Value}, fillP e z ps = some cs → cs.length = z.length
  | [], z, cs, h => by simp only [fillP, Option.some.injEq] at h; subst h; rfl
  | (off, sz, x) :: ps, z, cs, h => by
    simp only [fillP] at h
    split at h
    · split at h
      · rename_i hc
        rw [fillP_len h]; exact splice_len (by omega)
      · cases h
    · cases h
theorem s_bldSl (hR : R W0 CR m s w) {t u n len : Nat} {z : List Value} {ps : Array (Nat × Operand)} (ho : o.op = .buildSlice t len ps) (ht : c.G.underlying t = some (.slice u)) (hn : szOf c.G u = some n) (hz : zeroC c.G u = some z)
    (hp : (ps.toList.all fun p => okO p.2) = true) (hzn : z.length = n) (h0 : 0 < n) (hle : len * n ≤ 16777216) (hE : EnvR m e a.tmps) (h : op1 ro K (.bldS n z len ps.toList) e s = some (v, s')) : OpR c W0 CR m a o s w s' v := by
  simp only [op1] at h
  split at h
  · rename_i cs hcs
    obtain ⟨rfl, rfl⟩ := ret_eq h
    obtain ⟨i, u', hi, hu, hcz, hpl, hsz⟩ := zeroC_info hz hn
    have hzv : (zeroValue u).run c.G w = .ok u' w := by simp [zeroValue, typeInfo, hi, hu]
    have hrow := rep_cells hcz (by omega) len
    rw [hzn] at hrow
    have hpl' := rep_all hpl len
    obtain ⟨cs', g1, g2, g3⟩ := fill_sim hE (fun i => some (i * n, n)) (ps.toList.map fun p => (p.1 * n, n, p.2)) ps.toList (rep z len) cs ((Array.range (len * n)).map (u'.cells[· % u'.cells.size]!))
      ⟨by simp, fun i p q hp' hq => by
        simp only [List.getElem?_map, hq, Option.map_some, Option.some.injEq] at hp'
        subst hp'
        exact ⟨rfl, rfl, List.all_eq_true.1 hp q (List.mem_of_getElem? hq)⟩⟩ (by rw [hrow]; exact .plain m hpl') (plain_ones hpl') hcs
    have hlen : cs'.size = len * n := by
      have h1 := g2.1
      have h2 : cs.length = (rep z len).length := fillP_len hcs
      rw [rep_len, hzn] at h2
      simp at h1; omega
    obtain ⟨k1, k2⟩ := hR.push cs cs' u (by rw [g2.1]; simp) g3 (fun i v hv => by obtain ⟨v', q1, q2⟩ := g2.get hv; exact ⟨v', by simpa using q1, q2⟩)
    have hfill : Instr.fill (fun i => some (i * n, n)) ((Array.range (len * n)).map (u'.cells[· % u'.cells.size]!)) ((ps.map fun x => (x.1, a.eval x.2)).toList) = some cs' := by rw [← g1]; congr 1; simp
    refine ⟨_, _, _, .inl ?_, k1, k2, .slO s.n 0 len n ⟨w.heap.size, 0, none⟩ len (Nat.le_refl _) (fun hz0 => by omega) w.heap.size 0 _ (Mp.add_same _ _ _) (fun _ => ⟨by simp, by rw [hlen]; omega⟩)⟩
    by_cases hz0 : len * n = 0
    · simp only [hz0] at hfill
      have hempty : (Array.range 0).map (fun x => u'.cells[x % u'.cells.size]!) = (Array.range 0).map (fun x => (#[] : Array Value)[x % (#[] : Array Value).size]!) := by simp
      rw [hempty] at hfill
      simp only [execOp, ho, Instr.buildSlice, Sem.run_bind, run_underlying' ht, Result.andThen, run_sizeOf' hn, hz0]
      simp at hfill ⊢
      simp [hfill, newRow]
    · have : ¬ (len * n > 2 ^ 24) := by omega
      simp only [execOp, ho, Instr.buildSlice, Sem.run_bind, run_underlying' ht, Result.andThen, run_sizeOf' hn, this, if_false, hz0, hzv, hfill]
      simp [newRow, g1]
  · cases h
end Go.Proofs.YtakdnpafdadblaaGreat.EV
namespace Go.Proofs.YtakdnpafdadblaaGreat.EV
open Go
variable {c : Cfg} {m : Mp} {e : Env} {a : Act} {ro : Addr → Option Value} {K : H} {s s' : St} {v : Value} {o : Oper} {W0 : World} {CR : Nat → Code → C → Prop} {w : World}
theorem growBy_le (newLen : Nat) : ∀ (r c : Nat), c ≤ newLen → Builtin.growBy newLen r c ≤ newLen + (newLen + 768) / 4
  | 0, c, h => by simp only [Builtin.growBy]; omega
  | r + 1, c, h => by
    simp only [Builtin.growBy]
    split
    · omega
    · by_cases hc : c + (c + 768) / 4 ≤ newLen
      · exact growBy_le newLen r _ hc
      · cases r with
        | zero => simp only [Builtin.growBy]; omega
        | succ r => simp only [Builtin.growBy]; rw [if_pos (by omega)]; omega
theorem nextslicecap_le {newLen oldCap : Nat} (h : oldCap < newLen) : Builtin.nextslicecap newLen oldCap ≤ 2 * newLen + 768 := by
  unfold Builtin.nextslicecap
  split
  · omega
  · split
    · omega
    · have := growBy_le newLen 4 oldCap (by omega); omega
theorem grownCap_ge (w : World) (need old : Nat) (e : TypeId) : need ≤ grownCap w need old e := by
  simp only [grownCap, Question.cut]; omega
def AppR (c : Cfg) (W0 : World) (CR : Nat → Code → C → Prop) (m : Mp) (s : St) (w : World) (args : Array Value) (ts : Array TypeId) (ty : TypeId) (s' : St) (v : Value) : Prop :=
  ∃ m' w' v', (Builtin.append_ ts ty args).run c.G w = .ok v' w' ∧ R W0 CR m' s' w' ∧ Stp m s w m' s' w' ∧ VR m' v v'
theorem R.grow (hR : R W0 CR m s w) {olds news olds' news' : List Value} (h1 : VRs m olds olds') (h2 : VRs m news news') (o1 : Ones olds) (o2 : Ones news) (zs : Array Value) (t : TypeId) {n cap esz : Nat} (h0 : 0 < esz) (hn : n ≤ cap) (hlen : olds.length + news.length + zs.size = cap * esz) :
    ∃ m', R W0 CR m' (s.push (olds ++ news)) (w.drew.alloc (.cells ((olds' ++ news').toArray ++ zs) t)) ∧ Stp m s w m' (s.push (olds ++ news)) (w.drew.alloc (.cells ((olds' ++ news').toArray ++ zs) t)) ∧
      VR m' (.slice (some (own s.n 0)) n esz) (.slice (some ⟨w.heap.size, 0, none⟩) n cap) := by
  have hs := h1.append h2
  have hsz : ((olds' ++ news').toArray ++ zs).size = cap * esz := by
    have := hs.1
    simp only [List.length_append] at this
    simp only [Array.size_append, List.size_toArray, List.length_append]
    omega
  obtain ⟨k1, k2⟩ := hR.drew.push (olds ++ news) ((olds' ++ news').toArray ++ zs) t (by rw [hsz]; simp only [List.length_append]; omega) (fun v hv => by
      rcases List.mem_append.1 hv with hv | hv
      · exact o1 v hv
      · exact o2 v hv) (fun i v hv => by
      obtain ⟨v', q1, q2⟩ := hs.get hv
      refine ⟨v', ?_, q2⟩
      have hlt := (List.getElem?_eq_some_iff.1 q1).1
      rw [Array.getElem?_append_left (by simpa using hlt)]
      simpa using q1)
  refine ⟨_, k1, k2.of_drew, .slO s.n 0 n esz _ cap hn (fun hz => by omega) w.heap.size 0 _ (Mp.add_same _ _ _) (fun _ => ⟨by simp, by rw [hsz]; omega⟩)⟩
theorem append_sim (hR : R W0 CR m s w) {t tx ty u n : Nat} (ht : c.G.underlying t = some (.slice u)) (hn : narrow c.G u = some n) {z : List Value} (hz : zeroC c.G u = some z) (hzn : z.length = n) (h0 : 0 < n)
    {x x' : Option Addr} {ln cp cp' : Nat} (hx : VR m (.slice x ln cp) (.slice x' ln cp')) {y' : Value} {news news' : List Value} {k : Nat} (hv : VRs m news news') (h1 : Ones news) (hlen : news.length = k * n)
    (hsrc : Src c.G n tx y' k news' w) (h : appendTo s n x ln cp news k = some (v, s')) : AppR c W0 CR m s w #[.slice x' ln cp', y'] #[t, tx] ty s' v := by
  obtain ⟨hs, i, hi, hb⟩ := narrow_sz hn
  obtain ⟨i', u', hi', hu, hcz, hp, hsz⟩ := zeroC_info hz hs
  rw [hi] at hi'; cases hi'
  have hzs : u'.cells.size = n := by have : u'.cells.toList.length = z.length := by rw [cells_eq, hcz]
                                     simpa [hzn] using this
  subst hsz
  unfold appendTo at h
  split at h
  · cases h
  · rename_i hbound
    split at h
    ·
      rename_i hk0
      subst hk0
      split at h
      · cases h
      · rename_i hro
        cases h
        have hnil : news' = [] := List.eq_nil_of_length_eq_zero (by rw [← hv.1, hlen]; simp)
        subst hnil
        have hle : ln ≤ cp' := by
          generalize hq : Value.slice x ln cp = q at hx
          generalize hq' : Value.slice x' ln cp' = q' at hx
          cases hx with
          | slN => cases hq'; exact Nat.le_refl _
          | slR => cases hq; cases hq'; simp [roS] at hro; exact hro
          | slO => cases hq; cases hq'; assumption
          | _ => cases hq
        refine ⟨m, w, .slice x' ln cp', ?_, hR, Stp.refl _ _ _, hx⟩
        have hc := hsrc.cells
        rcases hsrc.kind with ⟨e', hkd⟩ | hkd <;> cases x' <;> simp [Builtin.append_, run_underlying ht, run_underlying hkd, sizeOf, typeInfo, hi, hsrc.len, hle, hc, storeCells]
    · rename_i hk0
      have hfit : ∀ cap, cap < ln + k → Builtin.nextslicecap (ln + k) cap * i.bytes ≤ 281474976710656 := fun cap hc => by
        have h1 := nextslicecap_le hc
        have h2 : Builtin.nextslicecap (ln + k) cap * i.bytes ≤ (2 * 4294967296 + 768) * 8192 := Nat.mul_le_mul (by omega) hb
        omega
      have hzc : ∀ q, (Builtin.zeroCells u'.cells q).size = q * i.size := fun q => by rw [size_zeroCells, hzs]
      have grow : ∀ (s1 : St) (olds olds' : List Value), R W0 CR m s1 w → Stp m s w m s1 w → VRs m olds olds' → Ones olds → olds.length = ln * i.size → cp' < ln + k → (Builtin.firstCells i.size ln (.slice x' ln cp')).run c.G w.drew = .ok olds'.toArray w.drew →
          s1.n = s.n → v = .slice (some (own s.n 0)) (ln + k) i.size → s' = s1.push (olds ++ news) → AppR c W0 CR m s w #[.slice x' ln cp', y'] #[t, tx] ty s' v := by
        intro s1 olds olds' hR1 hS1 ho1 ho2 hol hlt hfc hn1 hv1 hs1
        have hrun := run_append_grow_src (P := c.G) w t tx ty u i u' ht hi hu x' ln cp' olds' hfc y' k news' hsrc hlt (by omega) (hfit _ hlt)
        have hge := grownCap_ge w (ln + k) cp' u
        obtain ⟨m', k1, k2, k3⟩ := hR1.grow ho1 hv ho2 h1 (Builtin.zeroCells u'.cells (grownCap w (ln + k) cp' u - (ln + k))) u h0 hge (by
          rw [hol, hlen, hzc, ← Nat.add_mul, ← Nat.add_mul]; congr 1; omega)
        rw [hn1] at k3
        exact ⟨m', _, _, hrun, hs1 ▸ k1, hs1 ▸ hS1.trans k2, hv1 ▸ k3⟩
      split at h
      ·
        rename_i hc
        cases h
        have hcp : cp' = 0 := by
          generalize hq : Value.slice x ln cp = q at hx
          generalize hq' : Value.slice x' ln cp' = q' at hx
          cases hx with
          | slN => cases hq'; rfl
          | slR => cases hq; cases hq'; exact hc.2
          | slO k o n c a' c' g1 g2 b f t g3 g4 => cases hq; cases hq'; exact g2 hc.2
          | _ => cases hq
        refine grow s [] [] hR (Stp.refl _ _ _) (.nil m) (fun v hv => by cases hv) (by simp [hc.1]) (by omega) ?_ rfl (by rw [hc.1, Nat.zero_add]) rfl
        rw [hc.1]
        cases x' with
        | none => exact run_firstCells_none _ _ _ _ _
        | some a' => simpa using run_firstCells_some (P := c.G) w.drew i.size 0 a' 0 cp' [] (by simp) (fun j u hj => by simp at hj)
      · rename_i hc
        split at h
        · cases h
        · rename_i b
          split at h
          · cases h
          · rename_i sp hsp
            split at h
            · rename_i hmay
              split at h
              · rename_i row hrow
                split at h
                · rename_i old hold
                  cases h
                  have hcp := hmay.2
                  generalize hq : Value.slice (some b) ln cp = q at hx
                  generalize hq' : Value.slice x' ln cp' = q' at hx
                  cases hx with
                  | slO kk oo n2 c2 a2 c3 g1 g2 bb ff tt g3 g4 =>
                    cases hq; cases hq'
                    simp only [own] at hrow hold ⊢
                    obtain ⟨p1, p2, old', p3, p4⟩ := hR.cells g3 hrow hold
                    by_cases hroom : ln + k ≤ cp'
                    ·
                      obtain ⟨rfl, hle⟩ := g4 (by omega)
                      obtain ⟨hB, cs, et, w1, w2, w3, w4, w5⟩ := hR.row kk bb ff tt g3 row hrow
                      subst hcp
                      have hmul : (ln + k) * i.size ≤ cp' * i.size := Nat.mul_le_mul_right _ hroom
                      have hdist : (ln + k) * i.size = ln * i.size + k * i.size := Nat.add_mul _ _ _
                      have hnl : news'.length = k * i.size := by rw [← hv.1]; exact hlen
                      have hfitc : ff + oo + ln * i.size + news'.length ≤ cs.toList.length := by simp only [Array.length_toList]; omega
                      have hst := run_storeCells_at c.G bb (ff + oo + ln * i.size) et news' 0 cs w w1 (by simp only [Array.length_toList] at hfitc; omega) (hv.ones h1)
                      simp only [Nat.add_zero] at hst
                      rw [setRow_putObj w1] at hst
                      have hspl : (cs.toList.take (ff + oo + ln * i.size) ++ news' ++ cs.toList.drop (ff + oo + ln * i.size + news'.length)) = splice cs.toList (ff + oo + ln * i.size) news' := by simp [splice]
                      rw [hspl] at hst
                      have hcl : cs.toList.length = tt := by simpa using w2
                      have hadd : (⟨bb, ff + oo, none⟩ : Addr).add (ln * i.size) = ⟨bb, ff + oo + ln * i.size, none⟩ := add_none _ _ _
                      have hol : old.length = ln * i.size := p1
                      obtain ⟨r1, r2⟩ := hR.take (f' := ff + oo) (row' := old ++ news) (c := (splice cs.toList (ff + oo + ln * i.size) news').toArray) (e := et) g3 hrow
                        (by have := splice_len hfitc; simpa using this.trans hcl)
                        (by simp only [List.length_append]; omega)
                        (fun v hv => by rcases List.mem_append.1 hv with hv | hv; exact p2 v hv; exact h1 v hv)
                        (fun j v hj => by
                          simp only [List.getElem?_toArray]
                          rw [splice_get hfitc]
                          rw [List.getElem?_append] at hj
                          by_cases hj1 : j < old.length
                          · rw [if_pos hj1] at hj; rw [if_pos (by omega)]
                            unfold cut at hold
                            split at hold
                            · rename_i hcut; cases hold
                              rw [List.getElem?_take] at hj
                              rw [if_pos (by omega), List.getElem?_drop] at hj
                              obtain ⟨v', q1, q2⟩ := w4 _ v hj
                              exact ⟨v', by rw [Array.getElem?_toList, ← q1]; congr 1; omega, q2⟩
                            · cases hold
                          · rw [if_neg hj1] at hj; rw [if_neg (by omega)]
                            have hj2 := (List.getElem?_eq_some_iff.1 hj).1
                            rw [if_pos (by omega)]
                            obtain ⟨v', q1, q2⟩ := hv.get hj
                            exact ⟨v', by rw [← q1]; congr 1; omega, q2⟩)
                      refine ⟨_, _, .slice (some ⟨bb, ff + oo, none⟩) (ln + k) cp', ?_, r1, r2, .slO s.n 0 (ln + k) i.size _ cp' hroom (fun hz0 => by omega) bb (ff + oo) tt (Mp.add_same _ _ _) (fun _ => ⟨by simp, by omega⟩)⟩
                      have hcc := hsrc.cells
                      rcases hsrc.kind with ⟨e', hkd⟩ | hkd <;> simp [Builtin.append_, run_underlying ht, run_underlying hkd, sizeOf, typeInfo, hi, hsrc.len, hroom, hcc, hadd, hst]
                    ·
                      obtain ⟨q1, q2⟩ := hR.kill hrow
                      refine grow (s.put kk none) old old' q1 q2 p3 p2 p1 (by omega) ?_ rfl rfl rfl
                      have hol' : old'.length = ln * i.size := by rw [← p3.1]; exact p1
                      by_cases hc0 : 0 < cp'
                      · obtain ⟨rfl, _⟩ := g4 hc0
                        exact run_firstCells_some (P := c.G) w.drew i.size ln _ ln cp' old' hol' (by simpa using p4)
                      · have hl0 : ln = 0 := by omega
                        subst hl0
                        have : old' = [] := List.eq_nil_of_length_eq_zero (by simpa using hol')
                        subst this
                        exact run_firstCells_some (P := c.G) w.drew i.size 0 _ 0 cp' [] (by simp) (fun j u hj => by simp at hj)
                  | slR => cases hq; simp at hsp
                  | _ => cases hq
                · cases h
              · cases h
            · cases h
end Go.Proofs.YtakdnpafdadblaaGreat.EV
namespace Go.Proofs.YtakdnpafdadblaaGreat.EV
open Go
variable {c : Cfg} {m : Mp} {e : Env} {a : Act} {ro : Addr → Option Value} {K : H} {s s' : St} {v : Value} {o : Oper} {W0 : World} {CR : Nat → Code → C → Prop} {w : World}
theorem slS {x : Option Addr} {n k : Nat} {u : Value} (h : VR m (.slice x n k) u) : ∃ x' k', u = .slice x' n k' ∧ VR m (.slice x n k) (.slice x' n k') := by
  generalize hv : Value.slice x n k = q at h
  cases h with
  | slN => cases hv; exact ⟨_, _, rfl, .slN⟩
  | slR b o n0 c0 => cases hv; exact ⟨_, _, rfl, .slR _ _ _ _⟩
  | slO k0 o n0 c0 a' c' h1 h2 b f t h3 h4 => cases hv; exact ⟨_, _, rfl, .slO _ _ _ _ a' c' h1 h2 b f t h3 h4⟩
  | _ => cases hv
theorem slPtr {x : Addr} {x' : Option Addr} {n k k' : Nat} (h : VR m (.slice (some x) n k) (.slice x' n k')) : ∃ y, x' = some y ∧ (0 < n → VR m (.pointer (some x)) (.pointer (some y))) := by
  generalize hv : Value.slice (some x) n k = q at h
  generalize hv' : Value.slice x' n k' = q' at h
  cases h with
  | slN => cases hv
  | slR b o n c => cases hv; cases hv'; exact ⟨_, rfl, fun _ => .ptrR b o⟩
  | slO k o n c a' c' h1 h2 b f t h3 h4 =>
    cases hv; cases hv'
    refine ⟨_, rfl, fun hn => ?_⟩
    obtain ⟨rfl, _⟩ := h4 (by omega)
    exact .ptrO k o b f t h3
  | _ => cases hv
theorem s_app (hR : R W0 CR m s w) (hro : RoOk ro W0) {t tx u u2 n : Nat} {z : List Value} {k : Call} {x y : Operand} {ap : List Operand} (ho : o.op = .call k) (hk : k.callee = .builtin .append) (hka : k.args.toList = [x, y]) (hkt : k.argTypes.toList = [t, tx])
    (ht : c.G.underlying t = some (.slice u)) (htx : c.G.underlying tx = some (.slice u2)) (hn : narrow c.G u = some n) (hz : zeroC c.G u = some z) (hx : okO x = true) (hy : okO y = true) (hzn : z.length = n) (h0 : 0 < n) (hE : EnvR m e a.tmps)
    (h : op1 ro K (.app n x y ap) e s = some (v, s')) : OpR c W0 CR m a o s w s' v := by
  simp only [op1] at h
  split at h
  · rename_i ax nx cx ay ny cy h1 h2
    split at h
    · split at h
      · rename_i new hnew
        obtain ⟨x', cx', e1, r1⟩ := slS (opd_sim hE hx h1)
        obtain ⟨y', cy', e2, r2⟩ := slS (opd_sim hE hy h2)
        obtain ⟨g1, g2, l', g3, g4⟩ := rdSl_sim hR hro r2 (fun hne => by rcases Nat.eq_zero_or_pos ny with h | h; subst h; simp at hne; exact h) hnew
        have hl' : l'.length = ny * n := by rw [← g3.1]; exact g1
        have hsrc : Src c.G n tx (.slice y' ny cy') ny l' w := by
          rcases g4 with ⟨rfl, rfl, hnn⟩ | ⟨q, rfl, hq⟩
          · have : ny = 0 := by rcases Nat.mul_eq_zero.1 hnn with h | h <;> omega
            subst this
            exact Src.ofNil w htx cy'
          · exact Src.ofSlice w htx q ny cy' l' hl' hq (g3.ones g2)
        obtain ⟨m', w', v', k1, k2, k3, k4⟩ := append_sim hR ht hn hz hzn h0 r1 (ty := o.type) g3 g2 g1 hsrc h
        have ha : k.args = #[x, y] := by rw [← Array.toList_inj]; exact hka
        have hty : k.argTypes = #[t, tx] := by rw [← Array.toList_inj]; exact hkt
        exact ⟨m', w', v', .inl (by simp [execOp, ho, resolve, hk, ha, hty, invoke, builtin, e1, e2, k1]), k2, k3, k4⟩
      · cases h
    · cases h
  · cases h
theorem VRs.bytes (l : List UInt8) : VRs m (l.map fun u => Value.int .u8 u.toNat) (l.map fun u => Value.int .u8 u.toNat) :=
  .of rfl (fun i v hv => ⟨v, hv, by rw [List.getElem?_map] at hv; cases hl : l[i]? with | none => (rw [hl] at hv; cases hv) | some q => rw [hl] at hv; cases hv; exact .int _ _⟩)
theorem s_apps (hR : R W0 CR m s w) {t tx u n : Nat} {z : List Value} {k : Call} {x y : Operand} (ho : o.op = .call k) (hk : k.callee = .builtin .append) (hka : k.args.toList = [x, y]) (hkt : k.argTypes.toList = [t, tx])
    (ht : c.G.underlying t = some (.slice u)) (htx : c.G.underlying tx = some .string) (hn : narrow c.G u = some n) (hz : zeroC c.G u = some z) (hx : okO x = true) (hy : okO y = true) (hzn : z.length = 1) (h0 : n = 1) (hE : EnvR m e a.tmps)
    (h : op1 ro K (.apps x y) e s = some (v, s')) : OpR c W0 CR m a o s w s' v := by
  simp only [op1] at h
  split at h
  · rename_i ax nx cx b h1 h2
    obtain ⟨x', cx', e1, r1⟩ := slS (opd_sim hE hx h1)
    have e2 := strR (opd_sim hE hy h2)
    subst h0
    have hsrc : Src c.G 1 tx (.string b) b.size (byteCells b) w := Src.ofString w htx b
    obtain ⟨m', w', v', k1, k2, k3, k4⟩ := append_sim hR ht hn hz hzn (by omega) r1 (ty := o.type) (VRs.bytes b.data.toList) (fun v hv => by
      obtain ⟨q, _, rfl⟩ := List.mem_map.1 hv; rfl) (by simp) hsrc h
    have ha : k.args = #[x, y] := by rw [← Array.toList_inj]; exact hka
    have hty : k.argTypes = #[t, tx] := by rw [← Array.toList_inj]; exact hkt
    exact ⟨m', w', v', .inl (by simp [execOp, ho, resolve, hk, ha, hty, invoke, builtin, e1, e2, k1]), k2, k3, k4⟩
  · cases h
theorem s_cpy (hR : R W0 CR m s w) (hro : RoOk ro W0) {t u n : Nat} {ts : List Nat} {k : Call} {x y : Operand} (ho : o.op = .call k) (hk : k.callee = .builtin .copy) (hka : k.args.toList = [x, y]) (hkt : k.argTypes.toList = t :: ts)
    (ht : c.G.underlying t = some (.slice u)) (hn : szOf c.G u = some n) (hx : okO x = true) (hy : okO y = true) (hE : EnvR m e a.tmps)
    (h : op1 ro K (.cpy n x y) e s = some (v, s')) : OpR c W0 CR m a o s w s' v := by
  have ha : k.args = #[x, y] := by rw [← Array.toList_inj]; exact hka
  have hty : k.argTypes[0]? = some t := by rw [← Array.getElem?_toList, hkt]; rfl
  simp only [op1] at h
  split at h
  · rename_i ax nx cx ay ny cy h1 h2
    split at h
    · rename_i l hl
      split at h
      · rename_i s1 hs1
        obtain ⟨rfl, rfl⟩ := ret_eq h
        obtain ⟨x', cx', e1, r1⟩ := slS (opd_sim hE hx h1)
        obtain ⟨y', cy', e2, r2⟩ := slS (opd_sim hE hy h2)
        obtain ⟨g1, g2, l', g3, g4⟩ := rdSl_sim hR hro r2 (fun hne => by
          rcases Nat.eq_zero_or_pos ny with h | h
          · subst h; simp at hne
          · exact h) hl
        obtain ⟨q, rfl, hq⟩ := slPtr r1
        obtain ⟨w', k1, k2, k3⟩ := wr_sim hR (fun hne => hq (by
          rcases Nat.eq_zero_or_pos nx with h | h
          · subst h; simp at g1; exact absurd g1 hne
          · exact h)) g3 g2 hs1 c.G
        have hfc : (Builtin.firstCells n (Nat.min ny nx) (.slice y' ny cy')).run c.G w = .ok l'.toArray w := by
          rcases g4 with ⟨rfl, rfl, hnn⟩ | ⟨q', rfl, hq'⟩
          · exact run_firstCells_none _ _ _ _ _
          · exact run_firstCells_some (P := c.G) w n (Nat.min ny nx) q' ny cy' l' (by rw [← g3.1]; exact g1) hq'
        have hmin : Nat.min ny nx = min ny nx := rfl
        rw [hmin] at hfc
        refine ⟨m, w', _, .inl ?_, k2, k3, .int _ _⟩
        simp [execOp, ho, resolve, hk, ha, invoke, builtin, Builtin.copy_, hty, e1, e2, run_underlying' ht, Builtin.lenOf, run_sizeOf' hn, hmin, hfc, k1, goInt]
      · cases h
    · cases h
  · rename_i nx cx ay ny cy h1 h2
    split at h
    · rename_i hz
      subst hz
      obtain ⟨rfl, rfl⟩ := ret_eq h
      obtain ⟨x', cx', e1, r1⟩ := slS (opd_sim hE hx h1)
      obtain ⟨y', cy', e2, r2⟩ := slS (opd_sim hE hy h2)
      obtain rfl : x' = none := by
        generalize hv : Value.slice none 0 cx = q at r1
        generalize hv' : Value.slice x' 0 cx' = q' at r1
        cases r1 with
        | slN => cases hv'; rfl
        | _ => cases hv
      have hfc : (Builtin.firstCells n 0 (.slice y' ny cy')).run c.G w = .ok #[] w := by
        cases y' with
        | none => exact run_firstCells_none _ _ _ _ _
        | some q' => simpa using run_firstCells_some (P := c.G) w n 0 q' ny cy' [] (by simp) (fun j u hj => by simp at hj)
      refine ⟨m, w, _, .inl ?_, hR, Stp.refl _ _ _, .int _ _⟩
      have hmin : Nat.min ny 0 = 0 := Nat.min_zero ny
      simp [execOp, ho, resolve, hk, ha, invoke, builtin, Builtin.copy_, hty, e1, e2, run_underlying' ht, Builtin.lenOf, run_sizeOf' hn, hmin, hfc, goInt]
    · cases h
  · cases h
theorem zeroCells_rep {u : Value} {z : List Value} (hz : EV.cells u = z) (h0 : 0 < z.length) (n : Nat) : (Builtin.zeroCells u.cells n).toList = rep z n := by
  have hc : u.cells.toList = z := by rw [cells_eq, hz]
  have hs : u.cells.size = z.length := by rw [← hc]; simp
  have := rep_cells hz h0 n
  rw [← this]; simp [Builtin.zeroCells, hs]
theorem s_clr (hR : R W0 CR m s w) {t u n : Nat} {z : List Value} {k : Call} {x : Operand} (ho : o.op = .call k) (hk : k.callee = .builtin .clear) (hka : k.args.toList = [x]) (hkt : k.argTypes.toList = [t])
    (ht : c.G.underlying t = some (.slice u)) (hz : zeroC c.G u = some z) (hn : szOf c.G u = some n) (hx : okO x = true) (hzn : z.length = n) (h0 : 0 < n) (hE : EnvR m e a.tmps)
    (h : op1 ro K (.clr n z x) e s = some (v, s')) : OpR c W0 CR m a o s w s' v := by
  have ha : k.args = #[x] := by rw [← Array.toList_inj]; exact hka
  have hty : k.argTypes = #[t] := by rw [← Array.toList_inj]; exact hkt
  obtain ⟨i, u', hi, hu, hcz, hp, hsz⟩ := zeroC_info hz hn
  simp only [op1] at h
  split at h
  · rename_i ax nx cx h1
    obtain ⟨x', cx', e1, r1⟩ := slS (opd_sim hE hx h1)
    split at h
    · rename_i hz0
      subst hz0
      obtain ⟨rfl, rfl⟩ := ret_eq h
      refine ⟨m, w, _, .inl ?_, hR, Stp.refl _ _ _, VR.undef m⟩
      cases x' <;> simp [execOp, ho, resolve, hk, ha, hty, invoke, builtin, Builtin.clear_, e1, run_underlying' ht, undef]
    · rename_i hnz
      split at h
      · cases h
      · rename_i b
        split at h
        · rename_i s1 hs1
          obtain ⟨rfl, rfl⟩ := ret_eq h
          obtain ⟨q, rfl, hq⟩ := slPtr r1
          have hrow := zeroCells_rep hcz (by omega) nx
          obtain ⟨w', k1, k2, k3⟩ := wr_sim hR (fun _ => hq (by omega)) (VRs.plain m (rep_all hp nx)) (plain_ones (rep_all hp nx)) hs1 c.G
          rw [← hrow] at k1
          refine ⟨m, w', undef, .inl ?_, k2, k3, VR.undef m⟩
          cases nx with
          | zero => exact absurd rfl hnz
          | succ nx => simp [execOp, ho, resolve, hk, ha, hty, invoke, builtin, Builtin.clear_, e1, run_underlying' ht, zeroValue, typeInfo, hi, hu, k1, undef]
        · cases h
  · cases h
theorem bytesOf_sim : ∀ {l l' : List Value} {bs : List UInt8}, bytesOf l = some bs → VRs m l l' → ∃ ns : List Int, l' = ns.map (Value.int .u8) ∧ bs = ns.map fun n => UInt8.ofNat n.toNat
  | [], l', bs, h, hv => by simp only [bytesOf, Option.some.injEq] at h; subst h; have := hv.inv_nil; subst this; exact ⟨[], rfl, rfl⟩
  | v :: r, l', bs, h, hv => by
    obtain ⟨v', r', rfl, h1, h2⟩ := hv.inv_cons
    unfold bytesOf at h
    split at h
    · rename_i hh; cases hh
    · rename_i n r0 hh
      cases hh
      split at h
      · rename_i l hl
        cases h
        obtain ⟨ns, rfl, rfl⟩ := bytesOf_sim hl h2
        have := intR h1; subst this
        exact ⟨n :: ns, rfl, rfl⟩
      · cases h
    · cases h
theorem foldl_push : ∀ (ns : List Int) (acc : ByteArray), ns.foldl (fun r n => r.push (UInt8.ofNat n.toNat)) acc = ⟨(acc.data.toList ++ ns.map fun n => UInt8.ofNat n.toNat).toArray⟩
  | [], acc => by simp
  | n :: ns, acc => by
    rw [List.foldl_cons, foldl_push ns]
    simp [ByteArray.push]
theorem s_cvs (hR : R W0 CR m s w) (hro : RoOk ro W0) {t d u : Nat} {y : Operand} (ho : o.op = .convert t d y) (ht : c.G.underlying t = some (.slice u)) (hd : c.G.underlying d = some .string) (hu : c.G.underlying u = some (.int .u8)) (hy : okO y = true) (hE : EnvR m e a.tmps)
    (h : op1 ro K (.cvs y) e s = some (v, s')) : OpR c W0 CR m a o s w s' v := by
  simp only [op1] at h
  split at h
  · rename_i ax nx cx h1
    obtain ⟨x', cx', e1, r1⟩ := slS (opd_sim hE hy h1)
    split at h
    · rename_i l hl
      split at h
      · rename_i bs hbs
        obtain ⟨rfl, rfl⟩ := ret_eq h
        obtain ⟨g1, g2, l', g3, g4⟩ := rdSl_sim hR hro r1 (fun hne => by omega) hl
        obtain ⟨ns, rfl, rfl⟩ := bytesOf_sim hbs g3
        have hconv := run_convert_bytes_string (P := c.G) w t d u x' nx cx' ht hu hd
        refine ⟨m, w, _, .inl ?_, hR, Stp.refl _ _ _, .str _⟩
        rcases g4 with ⟨rfl, hnil, rfl⟩ | ⟨q, rfl, hq⟩
        · have hns : ns = [] := by simpa using hnil
          subst hns
          simp [execOp, ho, e1, hconv, Conv.bytesToString]
          rfl
        · have hload : (loadCells q nx).run c.G w = .ok (ns.map (Value.int .u8)).toArray w := run_loadC g1 g3 hq
          have hb := run_bytesToString (P := c.G) w q nx cx' ns hload
          rw [foldl_push] at hb
          simp only [execOp, ho, e1, Sem.run_bind, hconv, hb, Result.andThen, Sem.run_pure]
          rfl
      · cases h
    · cases h
  · cases h
theorem s_sla (hR : R W0 CR m s w) {t u n k : Nat} {y : Operand} {lo hi : Option Operand} (ho : o.op = .slice t y lo hi none) (ht : c.G.underlying t = some (.array k u)) (hn : szOf c.G u = some n) (hy : okO y = true) (hlo : okOpt lo = true) (hhi : okOpt hi = true) (h0 : 0 < n)
    (hE : EnvR m e a.tmps) (h : op1 ro K (.sla k n y lo hi) e s = some (v, s')) : OpR c W0 CR m a o s w s' v := by
  simp only [op1] at h
  split at h
  · rename_i b l hh hb hl hhh
    split at h
    · rename_i h' l' e1 e2
      split at h
      · rename_i hlt
        split at h
        · rename_i sp row hsp hrow
          split at h
          · rename_i hle
            obtain ⟨rfl, rfl⟩ := ret_eq h
            have q1 := optOpd_sim hE hlo hl e2
            have q2 := optOpd_sim hE hhi hhh e1
            have hrun := run_bounds (G := c.G) (sl := false) (len := k) (cap := k) (lo := l') (hi := h') (l := lo.map a.eval) (h := hi.map a.eval)
              (by rcases q1 with ⟨rfl, _, rfl⟩ | ⟨k, z, q, _, q0, rfl⟩; exact .inl ⟨rfl, rfl⟩; exact .inr ⟨k, z, q, q0, rfl⟩)
              (by rcases q2 with ⟨rfl, _, rfl⟩ | ⟨k, z, q, _, q0, rfl⟩; exact .inl ⟨rfl, rfl⟩; exact .inr ⟨k, z, q, q0, rfl⟩) hlt.1 hlt.2 w
            have hr := opd_sim hE hy hb
            generalize hu : a.eval y = q at hr
            generalize hv : Value.pointer (some b) = q' at hr
            cases hr with
            | ptrO kk oo bb ff tt hk =>
              cases hv
              simp only [own] at hrow hle ⊢
              obtain ⟨hB, cs, et, w1, w2, w3, w4, w5⟩ := hR.row kk bb ff tt hk row hrow
              refine ⟨m, w, .slice (some (if k = l' then ⟨bb, ff + oo, none⟩ else (⟨bb, ff + oo, none⟩ : Addr).add (l' * n))) (h' - l') (k - l'), .inl ?_, hR, Stp.refl _ _ _, ?_⟩
              · simp [execOp, ho, Instr.sliceAt, run_underlying' ht, hu, Instr.sureAddr, hrun, run_sizeOf' hn]
              · refine .slO kk (oo + l' * n) (h' - l') n _ (k - l') (by omega) (fun hz => by omega) bb ff tt hk (fun hpos => ?_)
                have hne : k ≠ l' := by omega
                have hm : (k - l') * n + l' * n = k * n := by rw [← Nat.add_mul]; congr 1; omega
                exact ⟨by rw [if_neg hne, add_none, Nat.add_assoc], by omega⟩
            | ptrR b o => cases hv; simp at hsp
            | _ => cases hv
          · cases h
        · cases h
      · cases h
    · cases h
  · cases h
end Go.Proofs.YtakdnpafdadblaaGreat.EV
namespace Go.Proofs.YtakdnpafdadblaaGreat.EV
open Go
variable {c : Cfg} {m : Mp} {e : Env} {a : Act} {ro : Addr → Option Value} {K : H} {s s' : St} {v : Value} {o : Oper} {W0 : World} {CR : Nat → Code → C → Prop} {w : World}
theorem beq_nat {a b : Nat} (h : (a == b) = true) : a = b := by simpa using h
theorem mem_sim (hc : c.Ok) (hR : R W0 CR m s w) (hro : RoOk ro W0) {x p : P} (hp : cOp c o.op x = some p) (hk : klass p ≠ 4) (hE : EnvR m e a.tmps) (h : op1 ro K p e s = some (v, s')) : OpR c W0 CR m a o s w s' v := by
  by_cases hk0 : klass p = 0
  · exact (pure_sim hc hp hk0 hE h).op hR
  cases ho : o.op with
  | move y => simp only [cOp, ho] at hp; obtain ⟨h1, rfl⟩ := ok_eq hp; exact absurd rfl hk0
  | assign y => simp only [cOp, ho] at hp; obtain ⟨h1, rfl⟩ := ok_eq hp; exact absurd rfl hk0
  | pick k y z => simp only [cOp, ho] at hp; obtain ⟨h1, rfl⟩ := ok_eq hp; exact absurd rfl hk0
  | alloc t =>
    simp only [cOp, ho, cNew] at hp
    split at hp
    · rename_i z hz; cases hp; exact s_new hR ho hz h
    · cases hp
  | box t y => simp only [cOp, ho] at hp; obtain ⟨h1, rfl⟩ := ok_eq hp; exact s_box hR ho h1 hE h
  | build t ps =>
    simp only [cOp, ho, cBuild] at hp
    split at hp
    · split at hp
      · split at hp
        · cases hp; exact absurd rfl hk0
        · cases hp
      · cases hp
    · split at hp
      · obtain ⟨h1, rfl⟩ := ok_eq hp; exact absurd rfl hk0
      · cases hp
    · cases hp
  | buildSlice t len ps =>
    simp only [cOp, ho, cBuildS] at hp
    split at hp
    · rename_i u ht
      split at hp
      · rename_i n z hn hz
        obtain ⟨h1, rfl⟩ := ok_eq hp
        simp only [Bool.and_eq_true, decide_eq_true_eq] at h1
        exact s_bldSl hR ho ht hn hz h1.1.1.1 (beq_nat h1.1.1.2) h1.1.2 h1.2 hE h
      · cases hp
    · cases hp
  | load t y =>
    simp only [cOp, ho, cLd] at hp
    split at hp
    · cases hp; simp only [op1] at h; cases h
    split at hp
    · rename_i n hn; obtain ⟨h1, rfl⟩ := ok_eq hp; simp only [Bool.and_eq_true] at h1; exact s_ld hR hro ho hn h1.1 hE h
    · cases hp
  | store t y z =>
    simp only [cOp, ho, cSt] at hp
    split at hp
    · rename_i n hn; obtain ⟨h1, rfl⟩ := ok_eq hp; simp only [Bool.and_eq_true] at h1; exact s_st hR ho hn h1.1.1 h1.1.2 hE h
    · cases hp
  | nilCheck y => simp only [cOp, ho] at hp; obtain ⟨h1, rfl⟩ := ok_eq hp; exact absurd rfl hk0
  | binOp op t y z u =>
    simp only [cOp, ho, cBin] at hp
    split at hp
    · obtain ⟨h1, rfl⟩ := ok_eq hp; exact absurd rfl hk0
    · split at hp
      · obtain ⟨h1, rfl⟩ := ok_eq hp; exact absurd rfl hk0
      · obtain ⟨h1, rfl⟩ := ok_eq hp; exact absurd rfl hk0
      · obtain ⟨h1, rfl⟩ := ok_eq hp; exact absurd rfl hk0
      · cases hp
    · split at hp
      · obtain ⟨h1, rfl⟩ := ok_eq hp; exact absurd rfl hk0
      · cases hp
  | unOp op t y =>
    cases op <;> simp only [cOp, ho, cUn] at hp
    · cases hp
    · obtain ⟨h1, rfl⟩ := ok_eq hp; exact absurd rfl hk0
    · obtain ⟨h1, rfl⟩ := ok_eq hp; exact absurd rfl hk0
    · cases hp
  | convert src d y =>
    simp only [cOp, ho, cConv] at hp
    split at hp
    · obtain ⟨h1, rfl⟩ := ok_eq hp; exact absurd rfl hk0
    · rename_i u hs hd
      split at hp
      · rename_i hu; obtain ⟨h1, rfl⟩ := ok_eq hp; exact s_cvs hR hro ho hs hd hu h1 hE h
      · cases hp
    · cases hp
  | makeFunc fn first capt =>
    cases fn <;> simp only [cOp, ho, cMkf] at hp
    · obtain ⟨h1, rfl⟩ := ok_eq hp; exact absurd rfl hk0
    all_goals cases hp
  | makeSlice t l k =>
    simp only [cOp, ho, cMks] at hp
    split at hp
    · rename_i u ht
      split at hp
      · rename_i n z hn hz
        obtain ⟨h1, rfl⟩ := ok_eq hp
        simp only [Bool.and_eq_true, decide_eq_true_eq] at h1
        exact s_mks hR ho ht hn hz h1.1.1.1 h1.1.1.2 (beq_nat h1.1.2) h1.2 hE h
      · cases hp
    · cases hp
  | slice t y lo hi mx =>
    simp only [cOp, ho, cSli] at hp
    split at hp
    · split at hp
      · obtain ⟨h1, rfl⟩ := ok_eq hp; exact absurd rfl hk0
      · cases hp
    · obtain ⟨h1, rfl⟩ := ok_eq hp; exact absurd rfl hk0
    · rename_i k u ht
      split at hp
      · rename_i n hn
        obtain ⟨h1, rfl⟩ := ok_eq hp
        simp only [Bool.and_eq_true, decide_eq_true_eq] at h1
        have hm : mx = none := by simpa using h1.1.2
        subst hm
        exact s_sla hR ho ht hn h1.1.1.1.1 h1.1.1.1.2 h1.1.1.2 h1.2 hE h
      · cases hp
    · cases hp
  | fieldAddr t y f =>
    simp only [cOp, ho, cFa] at hp
    split at hp
    · split at hp
      · split at hp
        · obtain ⟨h1, rfl⟩ := ok_eq hp; exact absurd rfl hk0
        · cases hp
      · cases hp
    · cases hp
  | field t y f =>
    simp only [cOp, ho, cFld] at hp
    split at hp
    · split at hp
      · split at hp
        · obtain ⟨h1, rfl⟩ := ok_eq hp; exact absurd rfl hk0
        · cases hp
      · cases hp
    · cases hp
  | indexAddr t y i =>
    simp only [cOp, ho, cIa] at hp
    split at hp
    · split at hp
      · obtain ⟨h1, rfl⟩ := ok_eq hp; exact absurd rfl hk0
      · cases hp
    · split at hp
      · obtain ⟨h1, rfl⟩ := ok_eq hp; exact absurd rfl hk0
      · cases hp
    · cases hp
  | index t y i =>
    simp only [cOp, ho, cIx] at hp
    split at hp
    · split at hp
      · obtain ⟨h1, rfl⟩ := ok_eq hp; exact absurd rfl hk0
      · cases hp
    · obtain ⟨h1, rfl⟩ := ok_eq hp; exact absurd rfl hk0
    · cases hp
  | extract y i => simp only [cOp, ho] at hp; obtain ⟨h1, rfl⟩ := ok_eq hp; exact absurd rfl hk0
  | panic y => simp only [cOp, ho] at hp; cases hp; simp only [op1] at h; cases h
  | call k =>
    simp only [cOp, ho, cCall] at hp
    split at hp
    · split at hp
      · obtain ⟨h1, rfl⟩ := ok_eq hp; exact absurd rfl hk0
      · split at hp
        · obtain ⟨h1, rfl⟩ := ok_eq hp; exact absurd rfl hk0
        · obtain ⟨h1, rfl⟩ := ok_eq hp; exact absurd rfl hk
    · obtain ⟨h1, rfl⟩ := ok_eq hp; exact absurd rfl hk
    · cases hp
    · cases hp
    · rename_i b hb
      split at hp
      · split at hp
        · obtain ⟨h1, rfl⟩ := ok_eq hp; exact absurd rfl hk0
        · obtain ⟨h1, rfl⟩ := ok_eq hp; exact absurd rfl hk0
        · obtain ⟨h1, rfl⟩ := ok_eq hp; exact absurd rfl hk0
        · cases hp
      · rename_i y z t u hka hkt
        split at hp
        · rename_i e1 e2 ht htx
          split at hp
          · rename_i n zz hn hz
            obtain ⟨h1, rfl⟩ := ok_eq hp
            simp only [Bool.and_eq_true, decide_eq_true_eq] at h1
            exact s_app hR hro ho hb hka hkt ht htx hn hz h1.1.1.1.1 h1.1.1.1.2 (beq_nat h1.1.2) h1.2 hE h
          · cases hp
        · rename_i e1 ht htx
          split at hp
          · rename_i n zz hn hz
            obtain ⟨h1, rfl⟩ := ok_eq hp
            simp only [Bool.and_eq_true] at h1
            exact s_apps hR ho hb hka hkt ht htx hn hz h1.1.1.1 h1.1.1.2 (beq_nat h1.2) (beq_nat h1.1.2) hE h
          · cases hp
        · cases hp
      · rename_i y z t ts hka hkt
        split at hp
        · rename_i u ht
          split at hp
          · rename_i n hn
            obtain ⟨h1, rfl⟩ := ok_eq hp
            simp only [Bool.and_eq_true] at h1
            exact s_cpy hR hro ho hb hka hkt ht hn h1.1 h1.2 hE h
          · cases hp
        · cases hp
      · obtain ⟨h1, rfl⟩ := ok_eq hp; exact absurd rfl hk0
      · obtain ⟨h1, rfl⟩ := ok_eq hp; exact absurd rfl hk0
      · rename_i y t hka hkt
        split at hp
        · rename_i u ht
          split at hp
          · rename_i z n hz hn
            obtain ⟨h1, rfl⟩ := ok_eq hp
            simp only [Bool.and_eq_true, decide_eq_true_eq] at h1
            exact s_clr hR ho hb hka hkt ht hz hn h1.1.1 (beq_nat h1.1.2) h1.2 hE h
          · cases hp
        · cases hp
      · cases hp
  | _ => simp only [cOp, ho] at hp; cases hp
end Go.Proofs.YtakdnpafdadblaaGreat.EV
namespace Go.Proofs.YtakdnpafdadblaaGreat.EV
open Go
def osP : P → List Operand
  | .mv x => [x]
  | .pick c a b => [c, a, b]
  | .new _ => []
  | .box x => [x]
  | .bld _ ps => ps.map fun p => p.2.2
  | .bldS _ _ _ ps => ps.map fun p => p.2
  | .ld _ a ap => a :: ap
  | .st _ a x ap => a :: x :: ap
  | .bin _ x y => [x, y]
  | .eqa _ _ x y => [x, y]
  | .eqn _ _ x y => [x, y]
  | .not x => [x]
  | .inv x => [x]
  | .cvi _ x => [x]
  | .cvs x => [x]
  | .nck x => [x]
  | .mkf _ caps => caps
  | .mks _ _ l c => [l, c]
  | .sli _ x lo hi mx => x :: (lo.toList ++ (hi.toList ++ mx.toList))
  | .sls x lo hi => x :: (lo.toList ++ hi.toList)
  | .sla _ _ x lo hi => x :: (lo.toList ++ hi.toList)
  | .fa _ x => [x]
  | .fld _ _ x => [x]
  | .ia _ x i => [x, i]
  | .iaa _ _ x i => [x, i]
  | .ix _ _ _ x i => [x, i]
  | .ixs x i => [x, i]
  | .ex x _ => [x]
  | .cal _ as _ pr => as ++ pr
  | .clv f as _ pr => f :: (as ++ pr)
  | .ext _ as => as
  | .len x => [x]
  | .lens x => [x]
  | .lena _ => []
  | .app _ x y ap => x :: y :: ap
  | .apps x y => [x, y]
  | .cpy _ x y => [x, y]
  | .mnx _ as => as
  | .clr _ _ x => [x]
  | .bad => []
def looksI (i : I) : List Nat := opTmps (osP i.p) ++ (match i.g with | some (t, _) => [t] | none => [])
def maskE (acc : List Nat) : List Nat → Nat
  | [] => 0
  | i :: r => 2 ^ i ||| (acc.getD i 0 ||| maskE acc r)
def befs (acc : List Nat) : List (List Nat) → List Nat
  | [] => acc
  | e :: r => befs (acc ++ [maskE acc e]) r
def edges (o : Oper) : List Nat := (o.after.toList.filter (Region.binds .any)).map (·.on)
def modP : P → Bool
  | .st .. => true
  | .app .. => true
  | .apps .. => true
  | .cpy .. => true
  | .clr .. => true
  | .cvs .. => true
  | .bad => true
  | .cal _ _ q _ => !q
  | .clv _ _ q _ => !q
  | _ => false
def memP : P → Bool
  | .new _ => true
  | .box _ => true
  | .bldS .. => true
  | .mks .. => true
  | .cal _ _ q _ => q
  | .clv _ _ q _ => q
  | _ => false
def ldX : P → Option Operand
  | .ld _ x _ => some x
  | .sla _ _ x _ _ => some x
  | _ => none
def operandEq : Operand → Operand → Bool
  | .tmp a, .tmp b => a == b
  | _, _ => false
def memO (x : Operand) (l : List Operand) : Bool := l.any (operandEq x)
def rootOf (l : List I) : Nat → Operand → Operand
  | 0, x => x
  | n + 1, .tmp t => match l.find? (fun i => i.d == some t) with
    | some i => match i.p with
      | .fa _ y => rootOf l n y
      | .ia _ y _ => rootOf l n y
      | .iaa _ _ y _ => rootOf l n y
      | _ => .tmp t
    | none => .tmp t
  | _ + 1, x => x
def sepO (l : List I) (x : Operand) : P → Bool
  | .st _ _ _ ap => memO (rootOf l l.length x) ap
  | .app _ _ _ ap => memO (rootOf l l.length x) ap
  | .cal _ _ false pr => memO (rootOf l l.length x) pr
  | .clv _ _ false pr => memO (rootOf l l.length x) pr
  | _ => false
def newO (l : List I) (i : Nat) : P → Bool
  | .st _ y _ _ => match rootOf l l.length y with
    | .tmp t => (l.drop (i + 1)).any fun x => x.d == some t && (match x.p with | .new _ => true | .box _ => true | _ => false)
    | _ => false
  | _ => false
def chkPair (l : List I) (i : Nat) (p q : P) : Bool :=
  if modP p then (if modP q then false else if memP q then false else match ldX q with
    | some x => sepO l x p
    | none => true)
  else if modP q then (if memP p then false else match ldX p with
    | some x => sepO l x q || newO l i q
    | none => true)
  else true
def fixI : P → List Nat
  | .fa _ y => opTmps [y]
  | .ia _ y _ => opTmps [y]
  | .iaa _ _ y _ => opTmps [y]
  | .ld _ y ap => opTmps (y :: ap)
  | .sla _ _ y _ _ => opTmps [y]
  | .st _ y _ ap => opTmps (y :: ap)
  | .app _ y _ ap => opTmps (y :: ap)
  | .cal _ _ _ pr => opTmps pr
  | .clv _ _ _ pr => opTmps pr
  | _ => []
def pairOk (l : List I) (bs : List Nat) (i j : Nat) (a b : I) : Bool :=
  (i == j || !a.d.isSome || !(a.d == b.d)) &&
  ((looksI a).all fun t => !(b.d == some t) || (decide (j < i) && (bs.getD i 0).testBit j) || (decide (i < j) && (bs.getD j 0).testBit i)) &&
  ((fixI a.p).all fun t => !(b.d == some t) || decide (j < i)) &&
  (!decide (i < j) || (bs.getD j 0).testBit i || chkPair l i a.p b.p)
def topo : Nat → List (List Nat) → Bool
  | _, [] => true
  | i, e :: r => e.all (fun k => decide (k < i)) && topo (i + 1) r
def allOk (l : List I) (bs : List Nat) (i : Nat) (a : I) : Nat → List I → Bool
  | _, [] => true
  | j, b :: r => pairOk l bs i j a b && allOk l bs i a (j + 1) r
def allOks (l : List I) (bs : List Nat) : Nat → List I → Bool
  | _, [] => true
  | i, a :: r => allOk l bs i a 0 l && allOks l bs (i + 1) r
def chk (ops : Array Oper) (l : List I) : Bool :=
  topo 0 (ops.toList.map edges) && allOks l (befs [] (ops.toList.map edges)) 0 l
def cCode (c : Cfg) (rd : Bool) (N : Nat) : Code → C → Option C
  | .skip, .nop => some .nop
  | .label _, .nop => some .nop
  | .region _ o draw, .reg is live => match cOpers c N o o.toList is with
    | some l => if !draw || chk o l then some (.reg l live) else none
    | none => none
  | .seq a b, .seq x y => match cCode c rd N a x, cCode c rd N b y with
    | some x, some y => some (.seq x y)
    | _, _ => none
  | .cond k a b, .cnd _ x y => if okO k then (match cCode c rd N a x, cCode c rd N b y with
    | some x, some y => some (.cnd k x y)
    | _, _ => none) else none
  | .block i b, .blk _ x => match cCode c rd N b x with
    | some x => some (.blk i x)
    | none => none
  | .loop b, .lop x => match cCode c rd N b x with
    | some x => some (.lop x)
    | none => none
  | .rangeFunc f ps a b, .rf _ _ x y => if !rd && okO f && ps.toList.all (fun t => decide (t < N)) then (match cCode c true N a x, cCode c true N b y with
    | some x, some y => some (.rf f ps.toList x y)
    | _, _ => none) else none
  | .scope b, x => cCode c rd N b x
  | .exit i, .exi _ => some (.exi i)
  | .ret, .ret => some .ret
  | _, _ => none
end Go.Proofs.YtakdnpafdadblaaGreat.EV
namespace Go.Proofs.YtakdnpafdadblaaGreat.EV
open Go
structure Gr (s s' : St) : Prop where
  n : s.n ≤ s'.n
  nl : s.nl ≤ s'.nl
  fl : s'.fl = s.fl
  pr : s'.pr = s.pr
  lf : s'.lf = s.lf
  row : ∀ k, k < s.n → s.may k = false → s'.get k = s.get k
  lp : ∀ l, l < s.nl → l < s.lf → lget s'.lps l = lget s.lps l
theorem Gr.refl (s : St) : Gr s s := ⟨Nat.le_refl _, Nat.le_refl _, rfl, rfl, rfl, fun _ _ _ => rfl, fun _ _ _ => rfl⟩
theorem may_eq {s s' : St} (h1 : s'.fl = s.fl) (h2 : s'.pr = s.pr) (k : Nat) : s'.may k = s.may k := by simp [St.may, h1, h2]
theorem Gr.trans {s s1 s2 : St} (h : Gr s s1) (k : Gr s1 s2) : Gr s s2 :=
  ⟨Nat.le_trans h.n k.n, Nat.le_trans h.nl k.nl, k.fl.trans h.fl, k.pr.trans h.pr, k.lf.trans h.lf,
   fun i hi hm => (k.row i (Nat.lt_of_lt_of_le hi h.n) (by rw [may_eq h.fl h.pr]; exact hm)).trans (h.row i hi hm),
   fun l hl hf => (k.lp l (Nat.lt_of_lt_of_le hl h.nl) (by rw [h.lf]; exact hf)).trans (h.lp l hl hf)⟩
theorem Gr.push (s : St) (r : List Value) : Gr s (s.push r) := ⟨by simp, by simp, rfl, rfl, rfl, fun k hk _ => St.get_push_old s r hk, fun _ _ _ => rfl⟩
theorem Gr.put {s : St} {k : Nat} {r : List Value} (h : s.get k = some r) (hm : s.may k = true) (x : Option (List Value)) : Gr s (s.put k x) :=
  ⟨Nat.le_refl _, Nat.le_refl _, rfl, rfl, rfl, fun j hj hmj => St.get_put_other s x (fun e => by subst e; rw [hm] at hmj; cases hmj) (St.get_lt h), fun _ _ _ => rfl⟩
theorem wr_gr {s s' : St} {a : Addr} {x : List Value} (h : wr s a x = some s') : Gr s s' := by
  cases x with
  | nil => simp only [wr, Option.some.injEq] at h; subst h; exact Gr.refl _
  | cons u us =>
    simp only [wr] at h
    split at h
    · cases h
    · split at h
      · rename_i hm
        split at h
        · rename_i r hr
          split at h
          · cases h; exact Gr.put hr hm _
          · cases h
        · cases h
      · cases h
theorem appendTo_gr {s s' : St} {esz n c k : Nat} {a : Option Addr} {new : List Value} {v : Value} (h : appendTo s esz a n c new k = some (v, s')) : Gr s s' := by
  unfold appendTo at h
  split at h
  · cases h
  · split at h
    · split at h
      · cases h
      · cases h; exact Gr.refl _
    · split at h
      · cases h; exact Gr.push _ _
      · split at h
        · cases h
        · split at h
          · cases h
          · split at h
            · rename_i hm
              split at h
              · rename_i r hr
                split at h
                · cases h; exact (Gr.put hr hm.1 none).trans (Gr.push _ _)
                · cases h
              · cases h
            · cases h
def GrK (K : H) : Prop := ∀ v as s r s', K v as s = some (r, s') → Gr s s'
structure Grq (s s' : St) : Prop extends Gr s s' where
  rowq : ∀ k, k < s.n → s'.get k = s.get k
  lpq : ∀ l, l < s.nl → lget s'.lps l = lget s.lps l
theorem Grq.refl (s : St) : Grq s s := { Gr.refl s with rowq := fun _ _ => rfl, lpq := fun _ _ => rfl }
theorem quiet_gr {K : H} (hK : GrK K) {f : Value} {as : List Value} {s s' : St} {v : Value} (h : quiet K f as s = some (v, s')) : Grq s s' := by
  unfold quiet at h
  split at h
  · rename_i u s1 hk
    have g := hK _ _ _ _ _ hk
    have hr : ∀ k, k < s.n → s1.get k = s.get k := fun k hk' => g.row k hk' (by simp [St.may]; omega)
    have hl : ∀ l, l < s.nl → lget s1.lps l = lget s.lps l := fun l hl => g.lp l hl hl
    split at h
    · cases h; exact Grq.refl s
    · cases h
      exact { n := g.n, nl := g.nl, fl := rfl, pr := g.pr, lf := rfl, row := fun k hk' _ => hr k hk', lp := fun l hl' _ => hl l hl', rowq := hr, lpq := hl }
  · cases h
theorem prot_gr {K : H} (hK : GrK K) {f : Value} {as : List Value} {pr : Option (List Nat)} {s s' : St} {v : Value} (h : prot K f as pr s = some (v, s')) :
    Gr s s' ∧ ∃ l, pr = some l ∧ ∀ k, k < s.n → k ∈ l → s'.get k = s.get k := by
  unfold prot at h
  split at h
  · cases h
  · exact ⟨hK _ _ _ _ _ h, [], rfl, fun k _ hk => by cases hk⟩
  · rename_i l hl
    split at h
    · rename_i u s1 hk
      cases h
      have g := hK _ _ _ _ _ hk
      refine ⟨⟨g.n, g.nl, g.fl, rfl, g.lf, fun k hk' hm => g.row k hk' ?_, g.lp⟩, l, rfl, fun k hk' hm => g.row k hk' ?_⟩
      · simp only [St.may, Bool.and_eq_false_iff, decide_eq_false_iff_not, Bool.not_eq_eq_eq_not, Bool.not_false, List.contains_eq_mem, decide_eq_true_eq] at hm ⊢
        rcases hm with hm | hm
        · exact .inl hm
        · exact .inr (List.mem_append_right _ hm)
      · simp only [St.may, Bool.and_eq_false_iff, decide_eq_false_iff_not, Bool.not_eq_eq_eq_not, Bool.not_false, List.contains_eq_mem, decide_eq_true_eq]
        exact .inr (List.mem_append_left _ hm)
    · cases h
theorem callK_gr {K : H} (hK : GrK K) {f : Value} {as : List Value} {q : Bool} {pr : Option (List Nat)} {s s' : St} {v : Value} (h : callK K f as q pr s = some (v, s')) : Gr s s' := by
  unfold callK at h
  split at h
  · exact (quiet_gr hK h).toGr
  · exact (prot_gr hK h).1
section
variable {ro : Addr → Option Value} {K : H}
theorem ret_gr {v u : Value} {s s' : St} (h : ret v s = some (u, s')) : Gr s s' := by simp only [ret, Option.some.injEq, Prod.mk.injEq] at h; rw [h.2]; exact Gr.refl _
theorem op1_gr (hK : GrK K) {p : P} {e : Env} {s s' : St} {v : Value} (h : op1 ro K p e s = some (v, s')) : Gr s s' := by
  cases p with
  | cal f as q pr =>
    simp only [op1] at h
    split at h
    · exact callK_gr hK h
    · cases h
  | clv f as q pr =>
    simp only [op1] at h
    split at h
    · exact callK_gr hK h
    · cases h
  | new z => simp only [op1, ret, Option.some.injEq, Prod.mk.injEq] at h; rw [← h.2]; exact Gr.push _ _
  | box x =>
    simp only [op1] at h
    split at h
    · split at h
      · simp only [ret, Option.some.injEq, Prod.mk.injEq] at h; rw [← h.2]; exact Gr.push _ _
      · cases h
    · cases h
  | bldS a z n ps =>
    simp only [op1] at h
    split at h
    · simp only [ret, Option.some.injEq, Prod.mk.injEq] at h; rw [← h.2]; exact Gr.push _ _
    · cases h
  | mks a z l c =>
    simp only [op1] at h
    split at h
    · split at h
      · simp only [ret, Option.some.injEq, Prod.mk.injEq] at h; rw [← h.2]; exact Gr.push _ _
      · cases h
    · cases h
  | st n a x ap =>
    simp only [op1] at h
    split at h
    · split at h
      · split at h
        · rename_i s1 hs; simp only [ret, Option.some.injEq, Prod.mk.injEq] at h; rw [← h.2]; exact wr_gr hs
        · cases h
      · cases h
    · cases h
  | app esz x y ap =>
    simp only [op1] at h
    split at h
    · split at h
      · split at h
        · exact appendTo_gr h
        · cases h
      · cases h
    · cases h
  | apps x y =>
    simp only [op1] at h
    split at h
    · exact appendTo_gr h
    · cases h
  | cpy esz x y =>
    simp only [op1] at h
    split at h
    · split at h
      · split at h
        · rename_i s1 hs; simp only [ret, Option.some.injEq, Prod.mk.injEq] at h; rw [← h.2]; exact wr_gr hs
        · cases h
      · cases h
    · split at h
      · exact ret_gr h
      · cases h
    · cases h
  | clr esz z x =>
    simp only [op1] at h
    split at h
    · split at h
      · exact ret_gr h
      · split at h
        · cases h
        · split at h
          · rename_i s1 hs; simp only [ret, Option.some.injEq, Prod.mk.injEq] at h; rw [← h.2]; exact wr_gr hs
          · cases h
    · cases h
  | bad => simp only [op1] at h; cases h
  | _ =>
    simp only [op1] at h
    repeat' (first | exact ret_gr h | (cases h; done) | split at h)
theorem step_gr (hK : GrK K) {i : I} {e e' : Env} {s s' : St} (h : step ro K i e s = some (e', s')) : Gr s s' := by
  unfold step at h
  split at h
  · split at h
    · rename_i hv; cases h; exact op1_gr hK hv
    · cases h
  · cases h; exact Gr.refl _
  · cases h
theorem ops_gr (hK : GrK K) : ∀ {l : List I} {e e' : Env} {s s' : St}, ops ro K l e s = some (e', s') → Gr s s'
  | [], e, e', s, s', h => by simp only [ops, Option.some.injEq, Prod.mk.injEq] at h; rw [h.2]; exact Gr.refl _
  | i :: r, e, e', s, s', h => by
    simp only [ops] at h
    split at h
    · rename_i e1 s1 h1; exact (step_gr hK h1).trans (ops_gr hK h)
    · cases h
theorem loopN_gr {f : Env → St → Option (Out × Env × St)} (hf : ∀ e s o e' s', f e s = some (o, e', s') → Gr s s') : ∀ (m : Nat) (e : Env) (s : St) (o : Out) (e' : Env) (s' : St), loopN f m e s = some (o, e', s') → Gr s s'
  | 0, _, _, _, _, _, h => by simp [loopN] at h
  | m + 1, e, s, o, e', s', h => by
    simp only [loopN] at h
    split at h
    · rename_i e1 s1 h1; exact (hf _ _ _ _ _ h1).trans (loopN_gr hf m _ _ _ _ _ h)
    · exact hf _ _ _ _ _ h
theorem newLoop_gr (e : Env) (ps : List Nat) (a b : C) (s : St) : Gr s (newLoop e ps a b s) :=
  ⟨Nat.le_refl _, Nat.le_succ _, rfl, rfl, rfl, fun _ _ _ => rfl, fun l hl _ => by
    show (if s.nl = l then _ else lget s.lps l) = _
    rw [if_neg (by omega)]⟩
theorem endLoop_gr {s0 s s' : St} {e e' : Env} {o : Out} (h0 : Gr s0 s) (h : endLoop s0.nl e s = some (o, e', s')) : Gr s0 s' := by
  unfold endLoop at h
  split at h
  · split at h
    · cases h
    · cases h
      refine ⟨h0.n, h0.nl, h0.fl, h0.pr, h0.lf, h0.row, fun l hl hf => ?_⟩
      simp only [lget_ldel]
      rw [if_neg (by omega)]
      exact h0.lp l hl hf
  · cases h
theorem code_gr (hK : GrK K) (m : Nat) : ∀ (x : C) (e : Env) (s : St) (o : Out) (e' : Env) (s' : St), code ro K m x e s = some (o, e', s') → Gr s s'
  | .nop, e, s, o, e', s', h => by simp only [code, Option.some.injEq, Prod.mk.injEq] at h; rw [h.2.2]; exact Gr.refl _
  | .reg l live, e, s, o, e', s', h => by
    simp only [code] at h
    split at h
    · rename_i h1; cases h; exact ops_gr hK h1
    · cases h
  | .seq a b, e, s, o, e', s', h => by
    simp only [code] at h
    split at h
    · rename_i h1; exact (code_gr hK m a _ _ _ _ _ h1).trans (code_gr hK m b _ _ _ _ _ h)
    · exact code_gr hK m a _ _ _ _ _ h
  | .cnd c a b, e, s, o, e', s', h => by
    simp only [code] at h
    split at h
    · exact code_gr hK m a _ _ _ _ _ h
    · exact code_gr hK m b _ _ _ _ _ h
    · cases h
  | .blk id b, e, s, o, e', s', h => by
    simp only [code] at h
    split at h
    · rename_i h1
      split at h <;> (cases h; exact code_gr hK m b _ _ _ _ _ h1)
    · exact code_gr hK m b _ _ _ _ _ h
  | .lop b, e, s, o, e', s', h => by
    simp only [code] at h
    exact loopN_gr (fun e s o e' s' h => code_gr hK m b e s o e' s' h) m _ _ _ _ _ h
  | .rf f ps asg bdy, e, s, o, e', s', h => by
    simp only [code] at h
    split at h
    · split at h
      · rename_i h1
        exact endLoop_gr ((newLoop_gr e ps asg bdy s).trans (hK _ _ _ _ _ h1)) h
      · cases h
    · cases h
  | .exi id, e, s, o, e', s', h => by simp only [code, Option.some.injEq, Prod.mk.injEq] at h; rw [h.2.2]; exact Gr.refl _
  | .ret, e, s, o, e', s', h => by simp only [code, Option.some.injEq, Prod.mk.injEq] at h; rw [h.2.2]; exact Gr.refl _
theorem lset_gr {s : St} {l : Nat} (hl : s.lf ≤ l) (r : Rec) : Gr s { s with lps := lset s.lps l r } :=
  ⟨Nat.le_refl _, Nat.le_refl _, rfl, rfl, rfl, fun _ _ _ => rfl, fun j _ hj => by
    show lget (lset s.lps l r) j = _
    rw [lget_lset, if_neg (by omega)]⟩
theorem round_gr (hK : GrK K) {m l : Nat} {as : List Value} {s s' : St} {v : Value} (h : round ro K m l as s = some (v, s')) : Gr s s' := by
  unfold round at h
  split at h
  · cases h
  · rename_i hlf
    split at h
    · split at h
      · split at h
        · split at h
          · rename_i h1
            have g1 := code_gr hK m _ _ _ _ _ _ h1
            unfold round2 at h
            split at h
            · split at h
              · split at h
                · rename_i h2
                  split at h
                  · cases h
                    have g2 := lset_gr (s := _) (l := l) (by rw [g1.lf]; omega) _ |>.trans (code_gr hK m _ _ _ _ _ _ h2)
                    exact (g1.trans g2).trans (lset_gr (by rw [g2.lf, g1.lf]; omega) _)
                  · cases h
                · cases h
              · cases h
            · cases h
          · cases h
        · cases h
      · cases h
    · cases h
theorem body_gr (hK : GrK K) {m : Nat} {fd : FD} {as : List Value} {s s' : St} {v : Value} (h : body ro K m fd as s = some (v, s')) : Gr s s' := by
  unfold body at h
  split at h
  · split at h
    · cases h
    · rename_i h1
      split at h
      · cases h; exact code_gr hK m _ _ _ _ _ _ h1
      · cases h
    · cases h
  · cases h
theorem run_gr {tab : Nat → Option FD} {orc : Orc} (ho : ∀ f o as s r s', orc f = some o → o as s = some (r, s') → Gr s s') : ∀ d, GrK (run ro tab orc d)
  | 0 => fun v as s r s' h => by simp [run] at h
  | d + 1 => fun v as s r s' h => by
    have ih := run_gr (tab := tab) ho d
    simp only [run] at h
    split at h
    · split at h
      · rename_i o hf; exact ho _ _ _ _ _ _ hf h
      · split at h
        · exact body_gr ih h
        · cases h
    · exact round_gr ih h
    · cases h
end
end Go.Proofs.YtakdnpafdadblaaGreat.EV
namespace Go.Proofs.YtakdnpafdadblaaGreat.EV
open Go
def CRc (c : Cfg) (N : Nat) (code : Code) (x : C) : Prop := ∃ y, cCode c true N code y = some x
abbrev RC (c : Cfg) (W0 : World) := R W0 (CRc c)
def PostK (c : Cfg) (W0 : World) (m : Mp) (s : St) (w : World) (s' : St) (r : Value) : Ending → World → Prop
  | .returned r', w' => ∃ m', RC c W0 m' s' w' ∧ Stp m s w m' s' w' ∧ VR m' r r'
  | _, _ => False
def NextP (c : Cfg) (w : World) (Q : Ending → World → Prop) : Next → Prop
  | .enter f args => ∀ n, CallsIn Fence.wide n c.G f args w Q
  | .round l f t asg bdy => ∀ n, RoundIn Fence.wide n c.G l f t asg bdy w Q
  | _ => False
theorem NextP.mono {c : Cfg} {w : World} {Q Q' : Ending → World → Prop} {x : Next} (h : NextP c w Q x) (hq : ∀ e w', Q e w' → Q' e w') : NextP c w Q' x := by
  cases x with
  | enter f args => exact fun n => CallsIn.mono (h n) hq
  | round l f t a b => exact fun n => RoundIn.mono (h n) hq
  | _ => exact h.elim
def CallP (c : Cfg) (w : World) (f : Value) (as : List Value) (Q : Ending → World → Prop) : Prop :=
  ∃ d nx, (Deferred.ofValue f as.toArray).run c.G w = .ok d w ∧ (invoke d.target d.args).run c.G w = .ok nx w ∧ NextP c w Q nx ∧ (∀ g fs cs, f = .func (.func g) fs cs → ∃ fn args, nx = .enter fn args)
theorem CallP.mono {c : Cfg} {w : World} {f : Value} {as : List Value} {Q Q' : Ending → World → Prop} (h : CallP c w f as Q) (hq : ∀ e w', Q e w' → Q' e w') : CallP c w f as Q' := by
  obtain ⟨d, nx, h1, h2, h3, h4⟩ := h
  exact ⟨d, nx, h1, h2, h3.mono hq, h4⟩
def SimK (c : Cfg) (W0 : World) (K : H) : Prop := ∀ (m : Mp) (s : St) (w : World) (v : Value) (as : List Value) (r : Value) (s' : St) (v' : Value) (as' : List Value),
  K v as s = some (r, s') → RC c W0 m s w → VR m v v' → VRs m as as' → CallP c w v' as' (PostK c W0 m s w s' r)
variable {c : Cfg} {m : Mp} {e e' : Env} {a : Act} {ro : Addr → Option Value} {K : H} {s s' : St} {v : Value} {o : Oper} {W0 : World} {w : World}
theorem quiet_sim (hK : SimK c W0 K) (hG : GrK K) {f : Value} {as : List Value} {r : Value} (h : quiet K f as s = some (r, s')) (hR : RC c W0 m s w) {f' : Value} {as' : List Value} (hf : VR m f f') (ha : VRs m as as') :
    CallP c w f' as' (PostK c W0 m s w s' r) := by
  have hq := quiet_gr hG h
  unfold quiet at h
  split at h
  · rename_i u s1 hk
    have g := hG _ _ _ _ _ hk
    have hrow : ∀ k, k < s.n → s1.get k = s.get k := fun k hk' => g.row k hk' (by simp [St.may]; omega)
    have hlp : ∀ l, l < s.nl → lget s1.lps l = lget s.lps l := fun l hl => g.lp l hl hl
    have h1 := hK m _ w f as u s1 f' as' hk (hR.same rfl rfl rfl rfl) hf ha
    refine h1.mono fun e w' hp => ?_
    cases e with
    | returned r' =>
      obtain ⟨m', p1, p2, p3⟩ := hp
      have p2' : Stp m s w m' s1 w' := p2.same rfl rfl rfl rfl rfl rfl rfl rfl
      split at h
      · rename_i hcl
        cases h
        obtain ⟨q1, q2⟩ := hR.restore p1 p2' hrow hlp
        exact ⟨m, q1, q2, p3.clean hR.dom p2'.ext hcl⟩
      · cases h
        exact ⟨m', p1.same rfl rfl rfl rfl, p2'.same rfl rfl rfl rfl rfl rfl rfl rfl, p3⟩
    | _ => exact hp.elim
  · cases h
theorem prot_sim (hK : SimK c W0 K) {f : Value} {as : List Value} {pr : Option (List Nat)} {r : Value} (h : prot K f as pr s = some (r, s')) (hR : RC c W0 m s w) {f' : Value} {as' : List Value} (hf : VR m f f') (ha : VRs m as as') :
    CallP c w f' as' (PostK c W0 m s w s' r) := by
  unfold prot at h
  split at h
  · cases h
  · exact hK m s w f as r s' f' as' h hR hf ha
  · rename_i l hl
    split at h
    · rename_i u s1 hk
      cases h
      have h1 := hK m _ w f as r s1 f' as' hk (hR.same rfl rfl rfl rfl) hf ha
      refine h1.mono fun e w' hp => ?_
      cases e with
      | returned r' =>
        obtain ⟨m', p1, p2, p3⟩ := hp
        exact ⟨m', p1.same rfl rfl rfl rfl, p2.same rfl rfl rfl rfl rfl rfl rfl rfl, p3⟩
      | _ => exact hp.elim
    · cases h
theorem callK_sim (hK : SimK c W0 K) (hG : GrK K) {f : Value} {as : List Value} {q : Bool} {pr : Option (List Nat)} {r : Value} (h : callK K f as q pr s = some (r, s')) (hR : RC c W0 m s w) {f' : Value} {as' : List Value} (hf : VR m f f') (ha : VRs m as as') :
    CallP c w f' as' (PostK c W0 m s w s' r) := by
  unfold callK at h
  split at h
  · exact quiet_sim hK hG h hR hf ha
  · exact prot_sim hK h hR hf ha
abbrev Fr (r : Option Nat) : Fence := { Fence.wide with round := r }
theorem callsIn_Fr {r : Option Nat} {n : Nat} {P : Program} {f : FuncId} {args : Array Value} {Q : Ending → World → Prop} (h : CallsIn Fence.wide n P f args w Q) : CallsIn (Fr r) n P f args w Q := h
theorem roundIn_Fr {r : Option Nat} {n : Nat} {P : Program} {l f : Nat} {t : Array Value} {asg bdy : Code} {Q : Ending → World → Prop} (h : RoundIn Fence.wide n P l f t asg bdy w Q) : RoundIn (Fr r) n P l f t asg bdy w Q := h
theorem cOp_noDefer {x p : P} (h : cOp c o.op x = some p) : ∀ k, o.op ≠ .defer k := by
  intro k hk
  rw [hk] at h
  simp [cOp] at h
def Foll (c : Cfg) (W0 : World) (m : Mp) (a : Act) (w : World) (o : Oper) (s : St) (s' : St) (v : Value) (next : Act → World → Prop) : Prop :=
  ∀ m' v' w', RC c W0 m' s' w' → Stp m s w m' s' w' → VR m' v v' → next (a.put o.dst v') w'
theorem op_call {k : Call} {f : Operand} {r : Option Nat} {n : Nat} (ho : o.op = .call k) (hf : k.callee = .value f) {u : Value} (h : CallP c w (a.eval f) (k.args.toList.map a.eval) (PostK c W0 m s w s' u)) {next : Act → World → Prop} {Q : Exit → Act → World → Prop}
    (hn : Foll c W0 m a w o s s' u next) : o.wpIn (Fr r) n c.G a w next Q := by
  obtain ⟨d, nx, h1, h2, h3, _⟩ := h
  have hrun : (o.semAt (Fr r).round a.eval).run c.G w = .ok nx w := by
    rw [Oper.semAt_eq _ _ _ (fun k' hk' => by rw [ho] at hk'; cases hk')]
    have hargs : (k.args.toList.map a.eval).toArray = k.args.map a.eval := by rw [← Array.toList_inj]; simp
    rw [hargs] at h1
    simp [execOp, ho, resolve, hf, h1, h2]
  refine ⟨fun _ _ => trivial, ?_⟩
  rw [hrun]
  cases nx with
  | enter g args =>
    refine ⟨fun hh => by simp [Fence.wide] at hh, CallsIn.mono (callsIn_Fr (h3 (n - 1))) fun e w' hp => ?_⟩
    cases e with
    | returned r' => obtain ⟨m', p1, p2, p3⟩ := hp; exact hn m' r' w' p1 p2 p3
    | _ => exact hp.elim
  | round l g t asg bdy =>
    refine ⟨fun hh => by simp [Fence.wide] at hh, RoundIn.mono (roundIn_Fr (h3 (n - 1))) fun e w' hp => ?_⟩
    cases e with
    | returned r' => obtain ⟨m', p1, p2, p3⟩ := hp; exact hn m' r' w' p1 p2 p3
    | _ => exact hp.elim
  | _ => exact h3.elim
theorem op1_sim (hc : c.Ok) (hro : RoOk ro W0) (hK : SimK c W0 K) (hG : GrK K) {x p : P} (hp : cOp c o.op x = some p) (hR : RC c W0 m s w) (hE : EnvR m e a.tmps) (h : op1 ro K p e s = some (v, s')) {r : Option Nat} {n : Nat} {next : Act → World → Prop} {Q : Exit → Act → World → Prop}
    (hn : Foll c W0 m a w o s s' v next) : o.wpIn (Fr r) n c.G a w next Q := by
  by_cases hk : klass p = 4
  · cases ho : o.op with
    | call k =>
      simp only [cOp, ho, cCall] at hp
      split at hp
      · rename_i f hf
        split at hp
        · obtain ⟨h1, rfl⟩ := ok_eq hp; cases hk
        · split at hp
          · obtain ⟨h1, rfl⟩ := ok_eq hp; cases hk
          · obtain ⟨h1, rfl⟩ := ok_eq hp
            simp only [Bool.and_eq_true] at h1
            simp only [op1] at h
            split at h
            · rename_i vs hvs
              exact op_call ho hf (callK_sim hK hG h hR (show VR m (.func (.func f) #[] #[]) (a.eval (.func f)) from .fn f #[] #[] rfl (by simp)) (opds_sim hE h1.1 hvs)) hn
            · cases h
      · rename_i t hf
        obtain ⟨h1, rfl⟩ := ok_eq hp
        simp only [Bool.and_eq_true] at h1
        simp only [op1] at h
        split at h
        · rename_i u vs hu hvs
          exact op_call ho hf (callK_sim hK hG h hR (opd_sim hE (x := .tmp t) rfl hu) (opds_sim hE h1.1 hvs)) hn
        · cases h
      · cases hp
      · cases hp
      · split at hp <;> (repeat' (first | (cases hp; done) | (obtain ⟨h1, rfl⟩ := ok_eq hp; cases hk; done) | split at hp))
    | _ =>
      simp only [cOp, ho, cNew, cBuild, cBuildS, cLd, cSt, cBin, cUn, cConv, cMkf, cMks, cSli, cFa, cFld, cIa, cIx] at hp
      repeat' (first | (cases hp; done) | (obtain ⟨h1, rfl⟩ := ok_eq hp; cases hk; done) | (cases hp; cases hk; done) | split at hp)
  · obtain ⟨m', w', v', h1, h2, h3, h4⟩ := mem_sim hc hR hro hp hk hE h
    refine ⟨fun _ _ => trivial, ?_⟩
    rw [Oper.semAt_eq _ _ _ (cOp_noDefer hp)]
    rcases h1 with h1 | ⟨h1, rfl⟩
    · rw [h1]; exact hn m' v' w' h2 h3 h4
    · rw [h1]; exact hn m' undef w' h2 h3 h4
theorem guard_sim {N : Nat} {ops : Array Oper} {i : I} {x : I} (hi : cOper c N ops o x = some i) (hE : EnvR m e a.tmps) {b : Bool} (h : guardOn e i.g = some b) : Region.wanted o (yielded ops a.tmps) = b := by
  unfold cOper at hi
  split at hi
  · rename_i p g hp hg
    split at hi
    · cases hi
      simp only at h
      unfold cGuard at hg
      split at hg
      · rename_i hh; cases hg; simp only [guardOn, Option.some.injEq] at h; subst h; simp [Region.wanted, hh]
      · rename_i j q hh
        split at hg
        · rename_i t ht
          cases hg
          simp only [guardOn] at h
          simp only [Region.wanted, hh]
          have hy : yielded ops a.tmps j = match a.tmps[t]? with | some (.bool b) => some b | _ => none := by
            unfold yielded; rw [ht]; rfl
          rw [hy]
          split at h
          · rename_i u hu
            cases h
            obtain ⟨v', h1, h2⟩ := hE t _ hu
            have := boolR h2; subst this
            rw [h1]; simp
          · rename_i v0 hv hu
            cases h
            obtain ⟨v', h1, h2⟩ := hE t _ hu
            rw [h1]
            cases h2 with
            | bool b => exact absurd rfl (hv _)
            | _ => simp
          · cases h
        · cases hg
    · cases hi
  · cases hi
theorem cOper_some {N : Nat} {ops : Array Oper} {i x : I} (hi : cOper c N ops o x = some i) : cOp c o.op x.p = some i.p ∧ i.d = o.dst ∧ dstOk N o.dst = true := by
  unfold cOper at hi
  split at hi
  · rename_i p g hp hg
    split at hi
    · rename_i hh; cases hi; simp only [Bool.and_eq_true] at hh; exact ⟨hp, rfl, hh.1⟩
    · cases hi
  · cases hi
theorem step_sim (hc : c.Ok) (hro : RoOk ro W0) (hK : SimK c W0 K) (hG : GrK K) {N : Nat} {ops : Array Oper} {i x : I} (hi : cOper c N ops o x = some i) (hR : RC c W0 m s w) (hE : EnvR m e a.tmps) (h : step ro K i e s = some (e', s')) {r : Option Nat} {n : Nat}
    {next : Act → World → Prop} {Q : Exit → Act → World → Prop} (hn : ∀ v, e' = setD o.dst v e → Foll c W0 m a w o s s' v next) :
    if Region.wanted o (yielded ops a.tmps) = true then o.wpIn (Fr r) n c.G a w next Q else (∀ f, o.about c.G w a.eval = some f → (Fr r).fn f) ∧ next (a.put o.dst undef) w := by
  obtain ⟨hp, hd, _⟩ := cOper_some hi
  unfold step at h
  split at h
  · rename_i hg
    rw [if_pos (guard_sim hi hE hg)]
    split at h
    · rename_i v s1 hv
      cases h
      exact op1_sim hc hro hK hG hp hR hE hv (hn v (by rw [hd]))
    · cases h
  · rename_i hg
    rw [if_neg (by rw [guard_sim hi hE hg]; decide)]
    cases h
    exact ⟨fun _ _ => trivial, hn _ (by rw [hd]) m undef w hR (Stp.refl _ _ _) (VR.undef m)⟩
  · cases h
theorem EnvR.setD {N : Nat} {m' : Mp} {n nl : Nat} (hd : Dom n nl m) (he : Ext n nl m m') (hE : EnvR m e a.tmps) {v v' : Value} (hv : VR m' v v') {d : Option Nat} (hN : a.tmps.size = N) (hok : dstOk N d = true) :
    EnvR m' (EV.setD d v e) (a.put d v').tmps ∧ (a.put d v').tmps.size = N ∧ (a.put d v').defers = a.defers := by
  cases d with
  | none => exact ⟨hE.ext hd he, hN, rfl⟩
  | some d =>
    simp only [dstOk, decide_eq_true_eq] at hok
    refine ⟨fun t u hu => ?_, by simpa [Act.put] using hN, rfl⟩
    simp only [EV.setD, lk] at hu
    simp only [Act.put]
    split at hu
    · rename_i e1; subst e1; cases hu
      exact ⟨v', by simp [hN, hok], hv⟩
    · rename_i e1
      obtain ⟨u', h1, h2⟩ := hE t u hu
      exact ⟨u', by rw [Array.getElem?_setIfInBounds_ne e1]; exact h1, h2.ext hd he⟩
end Go.Proofs.YtakdnpafdadblaaGreat.EV
