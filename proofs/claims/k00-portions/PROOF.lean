import PyProof.Rows.All
import HandS.ForMost
import HandS.ForExc
import HandS.Lambda
import HandS.Wide
import HandS.Gcd
import HandS.IsInst
import HandS.TupAny
import HandS.TupMul
import HandS.Deep
import HandS.ExcIs
import HandS.ExcOwn
import HandS.ExcSuper
import HandS.ExcField
import HandS.CallLocal
import HandS.CallSlots
import HandS.Hot
import HandS.HotCalls
import HandS.Flow
import HandS.Style
import HandS.Zip
import HandS.Head0
import HandS.Head1
import HandS.Head2
import HandS.Head3
import HandS.Head4
import HandS.HeadEnd
import HandS.HeadHook1
import HandS.HeadHook2
import HandS.HeadHook3
import HandS.HeadHook4
import HandS.HeadWalk
import HandS.Comp
import HandS.TryOnly
import PyProof.TupleIter
import HandS.Defaults
import HandS.Codes
import HandS.Words
import PySem.Challenge.RW_latticequarry_k00_whole_portions
set_option Elab.async false
set_option linter.all false
set_option maxRecDepth 100000
set_option maxHeartbeats 4000000
/-! Mini, part A: values, results, the small language and what its pieces compute. -/
namespace Mini
open PySem PySem.Spec PyProof.Rows L2

inductive U where
  | non | bl (b : Bool) | int (i : Int) | str (s : Str)
  | tup (xs : List U) | lst (xs : List U) | rol (xs : List U)
  | ref (n : Nat) | fn (j : Nat) | exn
abbrev Mem := List (List U)
structure Exn where
  cls : Str
  lim : Option Int
inductive R (α : Type) where
  | ok (a : α) (μ : Mem)
  | exc (c : Exn) (μ : Mem)
  | bad
def R.bind {α β : Type} : R α → (α → Mem → R β) → R β
  | .ok a μ, f => f a μ
  | .exc c μ, _ => .exc c μ
  | .bad, _ => .bad
abbrev Slots := List (Option U)
inductive Fl where
  | next (ρ : Slots) | ret (u : U) | brk (ρ : Slots) | cont (ρ : Slots)

mutual
inductive IE where
  | var (i : Nat)
  | int (n : Int) | str (s : Str) | bl (b : Bool) | non
  | gint (x : Str) (n : Int)
  | fnv (j : Nat)
  | bin (m : Bool) (op : Operator) (a b : IE)
  | neg (a : IE) | not (a : IE)
  | cmp (op : CmpOp) (a b : IE)
  | chain (o1 o2 : CmpOp) (a b c : IE)
  | and (a b : IE) | or (a b : IE)
  | ite (c a b : IE)
  | tup (es : IEs) | lst (m : Bool) (es : IEs)
  | idx (a b : IE)
  | slc (a : IE) (lo hi : IEs)
  | call (j : Nat) (es : IEs)
  | cvar (i : Nat) (es : IEs)
  | bi (m : Bool) (b : Str) (es : IEs)
  | isi (e : IE) (t : Str)
  | comp (m : Bool) (own : List Nat) (elt : IE) (tg : IT) (it : II) (ifs : IEs)
  | lam (j : Nat) (e : IE)
  | app (o e : IE)
  | isE (i : Nat) (c : Str) | eLim (i : Nat)
  | join (o e : IE)
inductive IEs where
  | nil | cons (e : IE) (es : IEs)
inductive II where
  | of (e : IE) | rng1 (a : IE) | rng2 (a b : IE) | zip2 (a b : IE) | enum (a : IE)
inductive IT where
  | name (i : Nat) | tup (ts : ITs)
inductive ITs where
  | nil | cons (t : IT) (ts : ITs)
end
mutual
inductive IS where
  | set (t : IT) (e : IE)
  | seti (o i e : IE)
  | par (i j : Nat) (a b : IE)
  | aug (i : Nat) (op : Operator) (e : IE)
  | exp (e : IE)
  | ite (c : IE) (a b : ISs)
  | ret (e : IE) | retN
  | for_ (t : IT) (it : II) (b : ISs)
  | while_ (n : Nat) (c : IE) (b : ISs)
  | raise (c : Str) (msg : Str)
  | raiseL (c : Str) (e : IE)
  | pass | brk | cont
inductive ISs where
  | nil | cons (s : IS) (ss : ISs)
end

/-! ### values -/
def bigL : Nat := 16777216
/-- the items of a list or tuple -/
def seqOf (μ : Mem) : U → Option (List U)
  | .tup xs => some xs
  | .lst xs => some xs
  | .rol xs => some xs
  | .ref n => μ[n]?
  | _ => none
def lstOf (μ : Mem) : U → Option (List U)
  | .lst xs => some xs
  | .ref n => μ[n]?
  | _ => none
/-- a new list: of its own place in the memory, or never changed -/
def alloc (m : Bool) (xs : List U) (μ : Mem) : R U := if m then .ok (.ref μ.length) (μ ++ [xs]) else .ok (.lst xs) μ
mutual
def toD : U → Option PyData
  | .non => some .none
  | .bl b => some (.bool b)
  | .int i => some (.int i)
  | .str s => some (.str s)
  | .tup xs => (toDs xs).map .tuple
  | .lst xs => (toDs xs).map .list
  | .rol xs => (toDs xs).map .list
  | .ref _ => none
  | .fn _ => none
  | .exn => none
def toDs : List U → Option (List PyData)
  | [] => some []
  | x :: xs => match toD x, toDs xs with
    | some d, some ds => some (d :: ds)
    | _, _ => none
end
def toDM (μ : Mem) : U → Option PyData
  | .ref n => match μ[n]? with
    | some xs => (toDs xs).map .list
    | none => none
  | u => toD u
def truth (μ : Mem) : U → Option Bool
  | .non => some false
  | .bl b => some b
  | .int i => some (i != 0)
  | .str _ => none
  | .tup xs => some (!xs.isEmpty)
  | .lst xs => some (!xs.isEmpty)
  | .rol xs => some (!xs.isEmpty)
  | .ref n => match μ[n]? with
    | some xs => some (!xs.isEmpty)
    | none => none
  | .fn _ => none
  | .exn => none

/-! ### operators -/
def mulOk (i j : Int) : Bool := decide (i.natAbs < 2 ^ 64) || decide (j.natAbs < 2 ^ 64) || (decide (i.natAbs < 2 ^ 9000) && decide (j.natAbs < 2 ^ 9000))
def divOk (j : Int) : Bool := j != 0 && decide (j.natAbs < 2 ^ 9000)
def powOk (i j : Int) : Bool := decide (0 ≤ j) && decide (j ≤ 1000000) && decide (i.natAbs < 2 ^ 64)
def repOk (n : Nat) (k : Int) : Bool := decide (-(2 ^ 62) ≤ k) && decide (k < 2 ^ 62) && decide (n * k.toNat ≤ bigL)
def rep (xs : List U) (k : Int) : List U := (List.replicate k.toNat xs).flatten
def binD (m : Bool) (op : Operator) (a b : U) (μ : Mem) : R U :=
  match op with
  | .Add => match a, b with
    | .int i, .int j => .ok (.int (i + j)) μ
    | .str x, .str y => if x.length + y.length ≤ bigL then .ok (.str (x ++ y)) μ else .bad
    | .tup xs, .tup ys => if xs.length + ys.length ≤ bigL then .ok (.tup (xs ++ ys)) μ else .bad
    | a, b => match lstOf μ a, lstOf μ b with
      | some xs, some ys => if xs.length + ys.length ≤ bigL then alloc m (xs ++ ys) μ else .bad
      | _, _ => .bad
  | .Sub => match a, b with
    | .int i, .int j => .ok (.int (i - j)) μ
    | _, _ => .bad
  | .Mult => match a, b with
    | .int i, .int j => if mulOk i j then .ok (.int (i * j)) μ else .bad
    | a, .int k => match lstOf μ a with
      | some xs => if repOk xs.length k then alloc m (rep xs k) μ else .bad
      | none => .bad
    | _, _ => .bad
  | .FloorDiv => match a, b with
    | .int i, .int j => if divOk j then .ok (.int (i.fdiv j)) μ else .bad
    | _, _ => .bad
  | .Mod => match a, b with
    | .int i, .int j => if j != 0 then .ok (.int (i.fmod j)) μ else .bad
    | _, _ => .bad
  | .Pow => match a, b with
    | .int i, .int j => if powOk i j then .ok (.int (i ^ j.toNat)) μ else .bad
    | _, _ => .bad
  | .LShift => match a, b with
    | .int i, .int j => if powOk i j then .ok (.int (i * 2 ^ j.toNat)) μ else .bad
    | _, _ => .bad
  | _ => .bad
def negD (a : U) (μ : Mem) : R U := match a with
  | .int i => .ok (.int (-i)) μ
  | _ => .bad
def eqD (μ : Mem) (a b : U) : Option Bool := match a, b with
  | .int i, .int j => some (i == j)
  | .str x, .str y => some (x == y)
  | a, b => match toDM μ a, toDM μ b with
    | some d, some e => if SeqAt.shaped d && SeqAt.shaped e then some (PyData.eqv d e) else none
    | _, _ => none
def inD (μ : Mem) (a b : U) : Option Bool := match toD a, toDM μ b with
  | some d, some (.list ds) => if SeqAt.shaped d && SeqAt.shaped (.list ds) then some (ds.any fun z => PyData.eqv z d) else none
  | some d, some (.tuple ds) => if SeqAt.shaped d && SeqAt.shaped (.tuple ds) then some (ds.any fun z => PyData.eqv z d) else none
  | _, _ => none
def cmpD (op : CmpOp) (a b : U) (μ : Mem) : Option Bool :=
  match op with
  | .Eq => eqD μ a b
  | .NotEq => (eqD μ a b).map (!·)
  | .Lt => match a, b with
    | .int i, .int j => some (decide (i < j))
    | _, _ => none
  | .LtE => match a, b with
    | .int i, .int j => some (decide (i ≤ j))
    | _, _ => none
  | .Gt => match a, b with
    | .int i, .int j => some (decide (j < i))
    | _, _ => none
  | .GtE => match a, b with
    | .int i, .int j => some (decide (j ≤ i))
    | _, _ => none
  | .Is => match b with
    | .non => match a with
      | .non => some true
      | _ => some false
    | _ => none
  | .IsNot => match b with
    | .non => match a with
      | .non => some false
      | _ => some true
    | _ => none
  | .In => inD μ a b
  | .NotIn => (inD μ a b).map (!·)
def cmpR (op : CmpOp) (a b : U) (μ : Mem) : R U := match cmpD op a b μ with
  | some k => .ok (.bl k) μ
  | none => .bad
/-- the place in a row of n -/
def atU (xs : List U) (i : Int) : Option U := (ixN xs.length i).bind fun j => xs[j]?
def idxD (a b : U) (μ : Mem) : R U := match b with
  | .int i => match seqOf μ a with
    | some xs => match atU xs i with
      | some u => .ok u μ
      | none => .bad
    | none => .bad
  | _ => .bad
def cutU (xs : List U) (lo hi : Option Int) : List U := (xs.drop (HT.sIx xs.length 0 lo)).take (HT.sIx xs.length xs.length hi - HT.sIx xs.length 0 lo)
def slcD (a : U) (lo hi : Option Int) (μ : Mem) : R U := match a with
  | .tup xs => .ok (.tup (cutU xs lo hi)) μ
  | a => match lstOf μ a with
    | some xs => .ok (.lst (cutU xs lo hi)) μ
    | none => .bad

/-- a written end of a slice, or none -/
def optI : List U → Option (Option Int)
  | [] => some none
  | [.int i] => some (some i)
  | _ => none

/-! ### built-in functions -/
def sumI : List U → Option Int
  | [] => some 0
  | .int i :: xs => (sumI xs).map (i + ·)
  | _ => none
def boolsOf : List U → Option (List Bool)
  | [] => some []
  | .bl b :: xs => (boolsOf xs).map (b :: ·)
  | _ => none
def intsOf : List U → Option (List Int)
  | [] => some []
  | .int b :: xs => (intsOf xs).map (b :: ·)
  | _ => none
def strsOf : List U → Option (List Str)
  | [] => some []
  | .str b :: xs => (strsOf xs).map (b :: ·)
  | _ => none
def one1 : List U → Option U
  | [x] => some x
  | _ => none
def int1 : List U → Option Int
  | [.int i] => some i
  | _ => none
def int2 : List U → Option (Int × Int)
  | [.int i, .int j] => some (i, j)
  | _ => none
def seq1 (μ : Mem) (us : List U) : Option (List U) := (one1 us).bind (seqOf μ)
def getOr {A : Type} (o : Option A) (f : A → R U) : R U := match o with
  | some a => f a
  | none => .bad
def biD (m : Bool) (b : Str) (us : List U) (μ : Mem) : R U :=
  if b = "len" then getOr (seq1 μ us) fun xs => .ok (.int xs.length) μ
  else if b = "abs" then getOr (int1 us) fun i => .ok (.int (if i < 0 then -i else i)) μ
  else if b = "int" then getOr (int1 us) fun i => .ok (.int i) μ
  else if b = "gcd" then getOr (int2 us) fun p => .ok (.int (Nat.gcd p.1.natAbs p.2.natAbs : Nat)) μ
  else if b = "list" then getOr (seq1 μ us) fun xs => alloc m xs μ
  else if b = "tuple" then getOr (seq1 μ us) fun xs => .ok (.tup xs) μ
  else .bad
/-- sep.join(rows) -/
def joinD (a : Str) (v : U) (μ : Mem) : R U := getOr ((seqOf μ v).bind strsOf) fun ys => if (ys.map (·.length)).sum + ys.length * a.length ≤ bigL then .ok (.str (Txt.join a ys)) μ else .bad
/-- isinstance by a class's name -/
def isiD (t : Str) (u : U) : Option Bool :=
  if t = "int" then match u with
    | .int _ => some true
    | .bl _ => some true
    | .fn _ => none
    | .exn => none
    | _ => some false
  else if t = "bool" then match u with
    | .bl _ => some true
    | .fn _ => none
    | .exn => none
    | _ => some false
  else if t = "str" then match u with
    | .str _ => some true
    | .fn _ => none
    | .exn => none
    | _ => some false
  else if t = "tuple" then match u with
    | .tup _ => some true
    | .fn _ => none
    | .exn => none
    | _ => some false
  else if t = "list" then match u with
    | .lst _ => some true
    | .rol _ => some true
    | .ref _ => some true
    | .fn _ => none
    | .exn => none
    | _ => some false
  else none

/-! ### targets, loops -/
mutual
def setT : IT → U → Mem → Slots → Option Slots
  | .name i, u, _, ρ => some (ρ.set i (some u))
  | .tup ts, u, μ, ρ => match seqOf μ u with
    | some xs => setTs ts xs μ ρ
    | none => none
def setTs : ITs → List U → Mem → Slots → Option Slots
  | .nil, [], _, ρ => some ρ
  | .cons t ts, x :: xs, μ, ρ => match setT t x μ ρ with
    | some ρ1 => setTs ts xs μ ρ1
    | none => none
  | _, _, _, _ => none
end
mutual
def tgS : IT → List Nat
  | .name i => [i]
  | .tup ts => tgSs ts
def tgSs : ITs → List Nat
  | .nil => []
  | .cons t ts => tgS t ++ tgSs ts
end
def wipeU (ρ : Slots) : List Nat → Slots
  | [] => ρ
  | v :: vs => (wipeU ρ vs).set v none
def compLoop (step : Slots → Mem → R (Option U)) (set : U → Mem → Option Slots) : List U → Mem → R (List U)
  | [], μ => .ok [] μ
  | x :: xs, μ => match set x μ with
    | none => .bad
    | some ρ => match step ρ μ with
      | .ok none μ1 => compLoop step set xs μ1
      | .ok (some u) μ1 => match compLoop step set xs μ1 with
        | .ok us μ2 => .ok (u :: us) μ2
        | _ => .bad
      | _ => .bad
def forLoop (body : Slots → Mem → R Fl) (set : U → Mem → Slots → Option Slots) : List U → Slots → Mem → R Fl
  | [], ρ, μ => .ok (.next ρ) μ
  | x :: xs, ρ, μ => match set x μ ρ with
    | none => .bad
    | some ρ1 => match body ρ1 μ with
      | .ok (.next ρ2) μ1 => forLoop body set xs ρ2 μ1
      | .ok (.cont ρ2) μ1 => forLoop body set xs ρ2 μ1
      | .ok (.brk ρ2) μ1 => .ok (.next ρ2) μ1
      | .ok (.ret u) μ1 => .ok (.ret u) μ1
      | .exc c μ1 => .exc c μ1
      | .bad => .bad
def whileLoop (test : Slots → Mem → R Bool) (body : Slots → Mem → R Fl) : Nat → Slots → Mem → R Fl
  | 0, _, _ => .bad
  | n + 1, ρ, μ => match test ρ μ with
    | .ok false μ1 => .ok (.next ρ) μ1
    | .ok true μ1 => match body ρ μ1 with
      | .ok (.next ρ2) μ2 => whileLoop test body n ρ2 μ2
      | .ok (.cont ρ2) μ2 => whileLoop test body n ρ2 μ2
      | .ok (.brk ρ2) μ2 => .ok (.next ρ2) μ2
      | .ok (.ret u) μ2 => .ok (.ret u) μ2
      | .exc c μ2 => .exc c μ2
      | .bad => .bad
    | .exc c μ1 => .exc c μ1
    | .bad => .bad
def truR (r : R U) : R Bool := r.bind fun u μ => match truth μ u with
  | some b => .ok b μ
  | none => .bad
def rngOk (i : Int) : Bool := decide (-(2 ^ 62) ≤ i) && decide (i < 2 ^ 62)
def rngL (lo hi : Int) : List U := (List.range (hi - lo).toNat).map fun k => .int (lo + (k : Nat))
def zipU : List U → List U → List U
  | x :: xs, y :: ys => .tup [x, y] :: zipU xs ys
  | _, _ => []
def enumU (n : Nat) : List U → List U
  | [] => []
  | x :: xs => .tup [.int n, x] :: enumU (n + 1) xs

def stored (o : Option Slots) (μ : Mem) : R Fl := match o with
  | some ρ => .ok (.next ρ) μ
  | none => .bad
/-- one turn of a comprehension -/
def stepD (dt : Slots → Mem → R Bool) (de : Slots → Mem → R U) (ρ : Slots) (μ : Mem) : R (Option U) := match dt ρ μ with
  | .ok true μ1 => (de ρ μ1).bind fun u μ2 => .ok (some u) μ2
  | .ok false μ1 => .ok none μ1
  | .exc c μ1 => .exc c μ1
  | .bad => .bad
/-! ### what calls do: by the def's number -/
structure Orc where
  call : Nat → List U → Mem → R U
  lam : Nat → R U → R U
  exn : Option Exn

mutual
def denE (C : Orc) : IE → Slots → Mem → R U
  | .var i, ρ, μ => match ρ[i]? with
    | some (some u) => .ok u μ
    | _ => .bad
  | .int n, _, μ => .ok (.int n) μ
  | .str s, _, μ => .ok (.str s) μ
  | .bl b, _, μ => .ok (.bl b) μ
  | .non, _, μ => .ok .non μ
  | .gint _ n, _, μ => .ok (.int n) μ
  | .fnv j, _, μ => .ok (.fn j) μ
  | .bin m op a b, ρ, μ => (denE C a ρ μ).bind fun u μ1 => (denE C b ρ μ1).bind fun v μ2 => binD m op u v μ2
  | .neg a, ρ, μ => (denE C a ρ μ).bind negD
  | .not a, ρ, μ => (truR (denE C a ρ μ)).bind fun k μ1 => .ok (.bl (!k)) μ1
  | .cmp op a b, ρ, μ => (denE C a ρ μ).bind fun u μ1 => (denE C b ρ μ1).bind fun v μ2 => cmpR op u v μ2
  | .chain o1 o2 a b c, ρ, μ => (denE C a ρ μ).bind fun u μ1 => (denE C b ρ μ1).bind fun v μ2 => match cmpD o1 u v μ2 with
    | some true => (denE C c ρ μ2).bind fun z μ3 => cmpR o2 v z μ3
    | some false => .ok (.bl false) μ2
    | none => .bad
  | .and a b, ρ, μ => (denE C a ρ μ).bind fun u μ1 => match u with
    | .bl true => denE C b ρ μ1
    | .bl false => .ok (.bl false) μ1
    | _ => .bad
  | .or a b, ρ, μ => (denE C a ρ μ).bind fun u μ1 => match u with
    | .bl true => .ok (.bl true) μ1
    | .bl false => denE C b ρ μ1
    | _ => .bad
  | .ite c a b, ρ, μ => (truR (denE C c ρ μ)).bind fun k μ1 => match k with
    | true => denE C a ρ μ1
    | false => denE C b ρ μ1
  | .tup es, ρ, μ => (denEs C es ρ μ).bind fun us μ1 => if us.length ≤ bigL then .ok (.tup us) μ1 else .bad
  | .lst m es, ρ, μ => (denEs C es ρ μ).bind fun us μ1 => if us.length ≤ bigL then alloc m us μ1 else .bad
  | .idx a b, ρ, μ => (denE C a ρ μ).bind fun u μ1 => (denE C b ρ μ1).bind fun v μ2 => idxD u v μ2
  | .slc a lo hi, ρ, μ => (denE C a ρ μ).bind fun u μ1 => (denEs C lo ρ μ1).bind fun l μ2 => match optI l with
    | none => .bad
    | some x => (denEs C hi ρ μ2).bind fun h μ3 => match optI h with
      | none => .bad
      | some y => slcD u x y μ3
  | .call j es, ρ, μ => (denEs C es ρ μ).bind fun us μ1 => C.call j us μ1
  | .cvar i es, ρ, μ => match ρ[i]? with
    | some (some (.fn j)) => (denEs C es ρ μ).bind fun us μ1 => C.call j us μ1
    | _ => .bad
  | .bi m b es, ρ, μ => (denEs C es ρ μ).bind fun us μ1 => biD m b us μ1
  | .isi e t, ρ, μ => (denE C e ρ μ).bind fun u μ1 => match isiD t u with
    | some b => .ok (.bl b) μ1
    | none => .bad
  | .comp m own elt tg it ifs, ρ, μ => (denI C it ρ μ).bind fun xs μ1 =>
    match compLoop (stepD (fun ρ μ => denTs C ifs ρ μ) (fun ρ μ => denE C elt ρ μ)) (fun u μ => setT tg u μ (wipeU ρ own)) xs μ1 with
    | .ok us μ2 => if us.length ≤ bigL then alloc m us μ2 else .bad
    | _ => .bad
  | .lam j e, ρ, μ => C.lam j (denE C e ρ μ)
  | .app o e, ρ, μ => (denE C o ρ μ).bind fun u μ1 => match u with
    | .ref n => (denE C e ρ μ1).bind fun v μ2 => match μ2[n]? with
      | some xs => if xs.length < bigL then .ok .non (μ2.set n (xs ++ [v])) else .bad
      | none => .bad
    | _ => .bad
  | .isE i c, ρ, μ => match ρ[i]? with
    | some (some .exn) => match C.exn with
      | some ⟨k, none⟩ => .ok (.bl (k == c)) μ
      | _ => .bad
    | _ => .bad
  | .eLim i, ρ, μ => match ρ[i]? with
    | some (some .exn) => match C.exn with
      | some ⟨_, some n⟩ => .ok (.int n) μ
      | _ => .bad
    | _ => .bad
  | .join o e, ρ, μ => (denE C o ρ μ).bind fun u μ1 => match u with
    | .str a => (denE C e ρ μ1).bind fun v μ2 => joinD a v μ2
    | _ => .bad
def denEs (C : Orc) : IEs → Slots → Mem → R (List U)
  | .nil, _, μ => .ok [] μ
  | .cons e es, ρ, μ => (denE C e ρ μ).bind fun u μ1 => (denEs C es ρ μ1).bind fun us μ2 => .ok (u :: us) μ2
/-- tests of a comprehension: all of them -/
def denTs (C : Orc) : IEs → Slots → Mem → R Bool
  | .nil, _, μ => .ok true μ
  | .cons e es, ρ, μ => (truR (denE C e ρ μ)).bind fun k μ1 => match k with
    | true => denTs C es ρ μ1
    | false => .ok false μ1
def denI (C : Orc) : II → Slots → Mem → R (List U)
  | .of e, ρ, μ => (denE C e ρ μ).bind fun u μ1 => match u with
    | .tup xs => .ok xs μ1
    | .lst xs => .ok xs μ1
    | .rol xs => .ok xs μ1
    | _ => .bad
  | .rng1 a, ρ, μ => (denE C a ρ μ).bind fun u μ1 => match u with
    | .int i => if rngOk i then .ok (rngL 0 i) μ1 else .bad
    | _ => .bad
  | .rng2 a b, ρ, μ => (denE C a ρ μ).bind fun u μ1 => (denE C b ρ μ1).bind fun v μ2 => match u, v with
    | .int i, .int j => if rngOk i && rngOk j then .ok (rngL i j) μ2 else .bad
    | _, _ => .bad
  | .zip2 a b, ρ, μ => (denE C a ρ μ).bind fun u μ1 => (denE C b ρ μ1).bind fun v μ2 => match u, v with
    | .lst xs, .lst ys => .ok (zipU xs ys) μ2
    | .tup xs, .tup ys => .ok (zipU xs ys) μ2
    | _, _ => .bad
  | .enum a, ρ, μ => (denE C a ρ μ).bind fun u μ1 => match u with
    | .lst xs => .ok (enumU 0 xs) μ1
    | _ => .bad
end
mutual
def denS (C : Orc) : IS → Slots → Mem → R Fl
  | .set t e, ρ, μ => (denE C e ρ μ).bind fun u μ1 => stored (setT t u μ1 ρ) μ1
  | .seti o i e, ρ, μ => (denE C e ρ μ).bind fun v μ1 => (denE C o ρ μ1).bind fun u μ2 => (denE C i ρ μ2).bind fun k μ3 => match u, k with
    | .ref n, .int k => match μ3[n]? with
      | some xs => match ixN xs.length k with
        | some j => .ok (.next ρ) (μ3.set n (xs.set j v))
        | none => .bad
      | none => .bad
    | _, _ => .bad
  | .par i j a b, ρ, μ => (denE C a ρ μ).bind fun u μ1 => (denE C b ρ μ1).bind fun v μ2 => .ok (.next ((ρ.set i (some u)).set j (some v))) μ2
  | .aug i op e, ρ, μ => match ρ[i]? with
    | some (some u) => (denE C e ρ μ).bind fun v μ1 => match u, v with
      | .int x, .int y => (binD false op (.int x) (.int y) μ1).bind fun z μ2 => .ok (.next (ρ.set i (some z))) μ2
      | _, _ => .bad
    | _ => .bad
  | .exp e, ρ, μ => (denE C e ρ μ).bind fun _ μ1 => .ok (.next ρ) μ1
  | .ite c a b, ρ, μ => (truR (denE C c ρ μ)).bind fun k μ1 => match k with
    | true => denSs C a ρ μ1
    | false => denSs C b ρ μ1
  | .ret e, ρ, μ => (denE C e ρ μ).bind fun u μ1 => .ok (.ret u) μ1
  | .retN, _, μ => .ok (.ret .non) μ
  | .for_ t it b, ρ, μ => (denI C it ρ μ).bind fun xs μ1 => forLoop (fun ρ μ => denSs C b ρ μ) (fun u μ ρ => setT t u μ ρ) xs ρ μ1
  | .while_ n c b, ρ, μ => whileLoop (fun ρ μ => truR (denE C c ρ μ)) (fun ρ μ => denSs C b ρ μ) n ρ μ
  | .raise c _, _, μ => .exc ⟨c, none⟩ μ
  | .raiseL c e, ρ, μ => (denE C e ρ μ).bind fun u μ1 => match u with
    | .int n => .exc ⟨c, some n⟩ μ1
    | _ => .bad
  | .pass, ρ, μ => .ok (.next ρ) μ
  | .brk, ρ, μ => .ok (.brk ρ) μ
  | .cont, ρ, μ => .ok (.cont ρ) μ
def denSs (C : Orc) : ISs → Slots → Mem → R Fl
  | .nil, ρ, μ => .ok (.next ρ) μ
  | .cons s ss, ρ, μ => match denS C s ρ μ with
    | .ok (.next ρ1) μ1 => denSs C ss ρ1 μ1
    | .ok (.ret u) μ1 => .ok (.ret u) μ1
    | .ok (.brk ρ1) μ1 => .ok (.brk ρ1) μ1
    | .ok (.cont ρ1) μ1 => .ok (.cont ρ1) μ1
    | .exc c μ1 => .exc c μ1
    | .bad => .bad
end

/-! ### defs -/
structure DefS where
  name : Str
  np : Nat
  N : List Str
  gc : Bool
  body : ISs
/-- def name(call): try: call() / except ..: suite; rest -/
structure DefX where
  name : Str
  q : Str
  ei : Nat
  N : List Str
  suite : ISs
  rest : Str
inductive Def where
  | std (d : DefS) | err (d : DefX)
mutual
def frz (get : Nat → Option U) : U → Option U
  | .tup xs => (frzs get xs).map .tup
  | .lst xs => (frzs get xs).map .lst
  | .rol xs => (frzs get xs).map .rol
  | .ref n => get n
  | .non => some .non
  | .bl b => some (.bl b)
  | .int i => some (.int i)
  | .str x => some (.str x)
  | .fn j => some (.fn j)
  | .exn => none
def frzs (get : Nat → Option U) : List U → Option (List U)
  | [] => some []
  | x :: xs => match frz get x, frzs get xs with
    | some u, some us => some (u :: us)
    | _, _ => none
end
def getF (μ : Mem) (n0 : Nat) : Nat → Nat → Option U
  | 0, _ => none
  | k + 1, n => if n < n0 then some (.ref n) else match μ[n]? with
    | some xs => (frzs (getF μ n0 k) xs).map .lst
    | none => none
/-! no place from n0 on is named -/
mutual
def below (n0 : Nat) : U → Bool
  | .tup xs => belows n0 xs
  | .lst xs => belows n0 xs
  | .rol xs => belows n0 xs
  | .ref n => decide (n < n0)
  | .non => true
  | .bl _ => true
  | .int _ => true
  | .str _ => true
  | .fn _ => true
  | .exn => false
def belows (n0 : Nat) : List U → Bool
  | [] => true
  | x :: xs => below n0 x && belows n0 xs
end
def swept (n0 : Nat) (μ : Mem) : Bool := (μ.take n0).all (belows n0)
/-- behind a def that made lists: they are never changed from here on -/
def sweep (n0 : Nat) : R U → R U
  | .ok u μ => if swept n0 μ then match frz (getF μ n0 9) u with
    | some v => .ok v (μ.take n0)
    | none => .bad else .bad
  | .exc c μ => if swept n0 μ then .exc c (μ.take n0) else .bad
  | .bad => .bad
def ended : R Fl → R U
  | .ok (.ret u) μ => .ok u μ
  | .ok (.next _) μ => .ok .non μ
  | .ok _ _ => .bad
  | .exc c μ => .exc c μ
  | .bad => .bad
def startU (N : List Str) (us : List U) : Slots := us.map some ++ List.replicate (N.length - us.length) none
def runD (d : DefS) (C : Orc) (us : List U) (μ : Mem) : R U :=
  if us.length = d.np then (if d.gc then sweep μ.length (ended (denSs C d.body (startU d.N us) μ)) else ended (denSs C d.body (startU d.N us) μ)) else .bad
def noOrc (x : Option Exn) : Orc := ⟨fun _ _ _ => .bad, fun _ _ => .bad, x⟩
def retOnly : R Fl → R U
  | .ok (.ret u) μ => .ok u μ
  | _ => .bad
def lamX (d : DefX) : R U → R U
  | .ok _ μ => .ok (.str d.rest) μ
  | .exc c μ => sweep μ.length (retOnly (denSs (noOrc (some c)) d.suite ((List.replicate d.N.length none).set d.ei (some .exn)) μ))
  | .bad => .bad
def lamD (Ds : List Def) (j : Nat) (r : R U) : R U := match Ds[j]? with
  | some (.err d) => lamX d r
  | _ => .bad
def callD (Ds : List Def) : Nat → Nat → List U → Mem → R U
  | 0, _, _, _ => .bad
  | k + 1, j, us, μ => match Ds[j]? with
    | some (.std d) => runD d ⟨callD Ds k, lamD Ds, none⟩ us μ
    | _ => .bad
abbrev orc (Ds : List Def) (k : Nat) : Orc := ⟨callD Ds k, lamD Ds, none⟩
end Mini

set_option maxHeartbeats 4000000
/-! Mini, part B: how values and memories lie in the model's heap. -/
namespace Mini
open PySem PySem.Spec PyProof.Rows L2 LamX

/-- where defs and classes stand; the tables of code objects -/
structure En where
  ad : Nat → Addr
  ca : Str → Addr
  fld : Str → Str
  dfn : Nat → Prop
  T : List (Addr × Str)
  ea : Option Addr
  exs : List Str

def KL (K : PySem.W.Frag) (a : Addr) (vs : List V) : Prop :=
  ∃ (o : Obj) (its : Array Value) (n : Nat), K.lookup a = some o ∧ o.cls = .type "list" ∧ o.dict = none ∧ o.data = .seq its n ∧ its.size ≤ sizeLine ∧ Vals vs its.toList
def KT (K : PySem.W.Frag) (a : Addr) (vs : List V) : Prop :=
  ∃ (o : Obj) (its : Array Value) (n : Nat), K.lookup a = some o ∧ o.cls = .type "tuple" ∧ o.data = .seq its n ∧ its.size ≤ sizeLine ∧ Vals vs its.toList
/-- read and never changed -/
def Fz (α β : List Addr) (H : Hp) (a : Addr) (u : HO) : Prop := Rd H a u ∧ a ∉ α ∧ a ∉ β
def LstAt (K : PySem.W.Frag) (α β : List Addr) (H : Hp) (a : Addr) (vs : List V) : Prop := Fz α β H a (.lst vs) ∨ KL K a vs
def TupAt (K : PySem.W.Frag) (α β : List Addr) (H : Hp) (a : Addr) (vs : List V) : Prop := Fz α β H a (.tup vs) ∨ KT K a vs
theorem LstAt.seq {K : PySem.W.Frag} {α β : List Addr} {H : Hp} {a : Addr} {vs : List V} (h : LstAt K α β H a vs) : SqL K H a vs := by
  rcases h with h | h
  · exact .inl h.1
  · exact .inr h
theorem TupAt.seq {K : PySem.W.Frag} {α β : List Addr} {H : Hp} {a : Addr} {vs : List V} (h : TupAt K α β H a vs) : SqT K H a vs := by
  rcases h with h | h
  · exact .inl h.1
  · exact .inr h

mutual
def VR (K : PySem.W.Frag) (G : En) (α β : List Addr) (H : Hp) : U → V → Prop
  | .non, v => v = .non
  | .bl b, v => v = .bl b
  | .int i, v => v = .int i
  | .str s, v => v = .str s
  | .tup xs, v => ∃ a vs, v = .ref a ∧ TupAt K α β H a vs ∧ VRs K G α β H xs vs
  | .lst xs, v => ∃ a vs, v = .ref a ∧ (H a = some (.lst vs) ∧ a ∉ α ∧ a ∉ β) ∧ VRs K G α β H xs vs
  | .rol xs, v => ∃ a vs, v = .ref a ∧ LstAt K α β H a vs ∧ VRs K G α β H xs vs
  | .ref n, v => ∃ a, v = .ref a ∧ α[n]? = some a
  | .fn j, v => v = .ref (G.ad j) ∧ G.dfn j
  | .exn, v => ∃ a, G.ea = some a ∧ v = .ref a
def VRs (K : PySem.W.Frag) (G : En) (α β : List Addr) (H : Hp) : List U → List V → Prop
  | [], vs => vs = []
  | x :: xs, vs => ∃ v r, vs = v :: r ∧ VR K G α β H x v ∧ VRs K G α β H xs r
end

/-- all that is not of the memory stays, but for the tables -/
structure Ext (α : List Addr) (H : Hp) (α' : List Addr) (H' : Hp) : Prop where
  pre : α <+: α'
  keep : ∀ a o, H a = some o → (∀ ps, o ≠ .tbl ps) → a ∉ α → H' a = some o
  froz : ∀ a o, H a = some o → (∀ ps, o ≠ .tbl ps) → a ∉ α → a ∉ α'
theorem Ext.refl (α : List Addr) (H : Hp) : Ext α H α H := ⟨List.prefix_refl _, fun _ _ h _ _ => h, fun _ _ _ _ n => n⟩
theorem Ext.keepN {α α' : List Addr} {H H' : Hp} (e : Ext α H α' H') {a : Addr} {o : HO} (h : H a = some o) (n : a ∉ α) (t : ∀ ps, o ≠ .tbl ps) : H' a = some o := e.keep a o h t n
theorem Ext.trans {α α1 α2 : List Addr} {H H1 H2 : Hp} (a : Ext α H α1 H1) (b : Ext α1 H1 α2 H2) : Ext α H α2 H2 :=
  ⟨a.pre.trans b.pre, fun c o h t n => b.keep c o (a.keep c o h t n) t (a.froz c o h t n), fun c o h t n => b.froz c o (a.keep c o h t n) t (a.froz c o h t n)⟩
theorem pre_get {α α' : List Addr} (p : α <+: α') {n : Nat} {a : Addr} (h : α[n]? = some a) : α'[n]? = some a := by
  obtain ⟨t, rfl⟩ := p
  rw [List.getElem?_append_left (List.getElem?_eq_some_iff.mp h).1]
  exact h

section
variable {K : PySem.W.Frag} {G : En} {α α' β β' : List Addr} {H H' : Hp}
theorem Fz.mono (e : Ext α H α' H') {a : Addr} {u : HO} (hu : ∀ ps, u ≠ .tbl ps) (h : Fz α β H a u) : Fz α' β H' a u := by
  obtain ⟨r, n, m⟩ := h
  rcases r with r | ⟨o, r⟩
  · exact ⟨.inl (e.keepN r n hu), e.froz a _ r hu n, m⟩
  · exact ⟨.inr ⟨o, e.keepN r n (fun ps z => by cases z)⟩, e.froz a _ r (fun ps z => by cases z) n, m⟩
mutual
theorem VR.mono (e : Ext α H α' H') : ∀ {u : U} {v : V}, VR K G α β H u v → VR K G α' β H' u v
  | .non, _, h => h
  | .bl _, _, h => h
  | .int _, _, h => h
  | .str _, _, h => h
  | .tup xs, _, h => by
    obtain ⟨a, vs, rfl, h1, h2⟩ := h
    exact ⟨a, vs, rfl, h1.imp (Fz.mono e (fun _ z => by cases z)) id, VRs.mono e h2⟩
  | .lst xs, _, h => by
    obtain ⟨a, vs, rfl, ⟨h1, h3, h4⟩, h2⟩ := h
    exact ⟨a, vs, rfl, ⟨e.keepN h1 h3 (fun _ z => by cases z), e.froz a _ h1 (fun _ z => by cases z) h3, h4⟩, VRs.mono e h2⟩
  | .rol xs, _, h => by
    obtain ⟨a, vs, rfl, h1, h2⟩ := h
    exact ⟨a, vs, rfl, h1.imp (Fz.mono e (fun _ z => by cases z)) id, VRs.mono e h2⟩
  | .ref n, _, h => by
    obtain ⟨a, rfl, h1⟩ := h
    exact ⟨a, rfl, pre_get e.pre h1⟩
  | .fn _, _, h => h
  | .exn, _, h => h
theorem VRs.mono (e : Ext α H α' H') : ∀ {us : List U} {vs : List V}, VRs K G α β H us vs → VRs K G α' β H' us vs
  | [], _, h => h
  | _ :: _, _, h => by
    obtain ⟨v, r, rfl, h1, h2⟩ := h
    exact ⟨v, r, rfl, VR.mono e h1, VRs.mono e h2⟩
end
/-! with other private places -/
mutual
theorem VR.priv (hb : ∀ a o, H a = some o → a ∉ α → a ∉ β → a ∉ β') : ∀ {u : U} {v : V}, VR K G α β H u v → VR K G α β' H u v
  | .non, _, h => h
  | .bl _, _, h => h
  | .int _, _, h => h
  | .str _, _, h => h
  | .tup xs, _, h => by
    obtain ⟨a, vs, rfl, h1, h2⟩ := h
    refine ⟨a, vs, rfl, h1.imp (fun ⟨r, n, m⟩ => ⟨r, n, ?_⟩) id, VRs.priv hb h2⟩
    rcases r with r | ⟨o, r⟩
    · exact hb a _ r n m
    · exact hb a _ r n m
  | .lst xs, _, h => by
    obtain ⟨a, vs, rfl, ⟨h1, h3, h4⟩, h2⟩ := h
    exact ⟨a, vs, rfl, ⟨h1, h3, hb a _ h1 h3 h4⟩, VRs.priv hb h2⟩
  | .rol xs, _, h => by
    obtain ⟨a, vs, rfl, h1, h2⟩ := h
    refine ⟨a, vs, rfl, h1.imp (fun ⟨r, n, m⟩ => ⟨r, n, ?_⟩) id, VRs.priv hb h2⟩
    rcases r with r | ⟨o, r⟩
    · exact hb a _ r n m
    · exact hb a _ r n m
  | .ref n, _, h => h
  | .fn _, _, h => h
  | .exn, _, h => h
theorem VRs.priv (hb : ∀ a o, H a = some o → a ∉ α → a ∉ β → a ∉ β') : ∀ {us : List U} {vs : List V}, VRs K G α β H us vs → VRs K G α β' H us vs
  | [], _, h => h
  | _ :: _, _, h => by
    obtain ⟨v, r, rfl, h1, h2⟩ := h
    exact ⟨v, r, rfl, VR.priv hb h1, VRs.priv hb h2⟩
end
theorem VRs.len : ∀ {us : List U} {vs : List V}, VRs K G α β H us vs → us.length = vs.length
  | [], _, h => by cases h; rfl
  | _ :: _, _, h => by
    obtain ⟨v, r, rfl, _, h2⟩ := h
    simp [VRs.len h2]
theorem VRs.get : ∀ {us : List U} {vs : List V} {i : Nat} {u : U}, VRs K G α β H us vs → us[i]? = some u → ∃ v, vs[i]? = some v ∧ VR K G α β H u v
  | [], _, _, _, _, h => by simp at h
  | _ :: _, _, 0, _, h, e => by
    obtain ⟨v, r, rfl, h1, _⟩ := h
    simp at e; subst e
    exact ⟨v, rfl, h1⟩
  | _ :: _, _, i + 1, _, h, e => by
    obtain ⟨v, r, rfl, _, h2⟩ := h
    simp at e
    obtain ⟨w', h3, h4⟩ := VRs.get (i := i) h2 e
    exact ⟨w', by simpa using h3, h4⟩
theorem VRs.app : ∀ {us ws : List U} {vs zs : List V}, VRs K G α β H us vs → VRs K G α β H ws zs → VRs K G α β H (us ++ ws) (vs ++ zs)
  | [], _, _, _, h, g => by cases h; exact g
  | _ :: _, _, _, _, h, g => by
    obtain ⟨v, r, rfl, h1, h2⟩ := h
    exact ⟨v, _, rfl, h1, VRs.app h2 g⟩
theorem VRs.set {u : U} {v : V} (h : VR K G α β H u v) : ∀ {us : List U} {vs : List V} (i : Nat), VRs K G α β H us vs → VRs K G α β H (us.set i u) (vs.set i v)
  | [], _, _, g => by cases g; rfl
  | _ :: _, _, 0, g => by
    obtain ⟨w', r, rfl, _, h2⟩ := g
    exact ⟨v, r, rfl, h, h2⟩
  | _ :: _, _, i + 1, g => by
    obtain ⟨w', r, rfl, h1, h2⟩ := g
    exact ⟨w', _, rfl, h1, VRs.set h i h2⟩
theorem VRs.take : ∀ {us : List U} {vs : List V} (n : Nat), VRs K G α β H us vs → VRs K G α β H (us.take n) (vs.take n)
  | _, _, 0, _ => rfl
  | [], _, _ + 1, h => by cases h; rfl
  | _ :: _, _, n + 1, h => by
    obtain ⟨v, r, rfl, h1, h2⟩ := h
    exact ⟨v, _, rfl, h1, VRs.take n h2⟩
theorem VRs.drop : ∀ {us : List U} {vs : List V} (n : Nat), VRs K G α β H us vs → VRs K G α β H (us.drop n) (vs.drop n)
  | _, _, 0, h => h
  | [], _, _ + 1, h => by cases h; rfl
  | _ :: _, _, n + 1, h => by
    obtain ⟨v, r, rfl, _, h2⟩ := h
    exact VRs.drop n h2

/-! ### the memory -/
structure HR (K : PySem.W.Frag) (G : En) (μ : Mem) (α β : List Addr) (H : Hp) : Prop where
  len : α.length = μ.length
  nd : α.Nodup
  dis : ∀ a ∈ α, a ∉ β
  priv : ∀ a ∈ β, ∃ vs, H a = some (.lst vs)
  at_ : ∀ (n : Nat) (xs : List U), μ[n]? = some xs → ∃ a vs, α[n]? = some a ∧ H a = some (.lst vs) ∧ VRs K G α β H xs vs
  tabs : Tabs G.T H
variable {μ : Mem}
theorem HR.trk (h : HR K G μ α β H) {a : Addr} (ha : a ∈ α) : ∃ vs, H a = some (.lst vs) := by
  obtain ⟨n, hn⟩ := List.getElem?_of_mem ha
  have hl : n < μ.length := by
    rw [← h.len]
    exact (List.getElem?_eq_some_iff.mp hn).1
  obtain ⟨a', vs, e1, e2, _⟩ := h.at_ n _ (List.getElem?_eq_getElem hl)
  rw [hn] at e1
  cases e1
  exact ⟨vs, e2⟩
theorem HR.fresh (h : HR K G μ α β H) {p : Addr} (hp : H p = none) : p ∉ α ∧ p ∉ β := by
  refine ⟨fun z => ?_, fun z => ?_⟩
  · obtain ⟨vs, e⟩ := h.trk z
    rw [hp] at e; cases e
  · obtain ⟨vs, e⟩ := h.priv p z
    rw [hp] at e; cases e
theorem tabs_upd {T : List (Addr × Str)} {p : Addr} {o : HO} (hp : H p = none) (h : Tabs T H) : Tabs T (upd H p o) := h.ext fun b u e => by
  rw [upd_ne (ne_of_none e hp)]; exact e
/-- a new object that is not of the memory -/
theorem Ext.new {p : Addr} {o : HO} (hp : H p = none) : Ext α H α (upd H p o) :=
  ⟨List.prefix_refl _, fun a u h _ _ => by rw [upd_ne (ne_of_none h hp)]; exact h, fun _ _ _ _ n => n⟩
theorem HR.ext1 (h : HR K G μ α β H) (e : Ext α H α H') (ha : ∀ a ∈ α, H' a = H a) (t : Tabs G.T H') : HR K G μ α β H' := by
  refine ⟨h.len, h.nd, h.dis, fun a hb => ?_, fun n xs hx => ?_, t⟩
  · obtain ⟨o, ho⟩ := h.priv a hb
    exact ⟨o, e.keep _ _ ho (fun _ z => by cases z) fun z => h.dis a z hb⟩
  · obtain ⟨a, vs, e1, e2, e3⟩ := h.at_ n xs hx
    exact ⟨a, vs, e1, by rw [ha a (List.mem_of_getElem? e1)]; exact e2, e3.mono e⟩
theorem HR.new (h : HR K G μ α β H) {p : Addr} {o : HO} (hp : H p = none) : HR K G μ α β (upd H p o) :=
  h.ext1 (Ext.new hp) (fun a ha => upd_ne fun z => by
    rw [z] at ha
    exact (h.fresh hp).1 ha) (tabs_upd hp h.tabs)
/-- a new list of the memory -/
theorem Ext.newRef {p : Addr} {o : HO} (hp : H p = none) : Ext α H (α ++ [p]) (upd H p o) :=
  ⟨List.prefix_append _ _, fun a u h _ _ => by rw [upd_ne (ne_of_none h hp)]; exact h, fun a u h _ n z => by
    rcases List.mem_append.mp z with z | z
    · exact n z
    · exact ne_of_none h hp (by simpa using z)⟩
theorem HR.newRef (h : HR K G μ α β H) {p : Addr} {xs : List U} {vs : List V} (hp : H p = none) (hx : VRs K G α β H xs vs) : HR K G (μ ++ [xs]) (α ++ [p]) β (upd H p (.lst vs)) := by
  obtain ⟨f1, f2⟩ := h.fresh hp
  have e : Ext α H (α ++ [p]) (upd H p (.lst vs)) := Ext.newRef hp
  refine ⟨by simp [h.len], List.nodup_append.mpr ⟨h.nd, by simp, fun a ha b hb z => ?_⟩, fun a ha => ?_, fun a ha => ?_, fun n ys hy => ?_, tabs_upd hp h.tabs⟩
  · have hb' : b = p := by simpa using hb
    exact f1 (by rw [← hb', ← z]; exact ha)
  · rcases List.mem_append.mp ha with z | z
    · exact h.dis a z
    · have z' : a = p := by simpa using z
      rw [z']; exact f2
  · obtain ⟨o, ho⟩ := h.priv a ha
    exact ⟨o, by rw [upd_ne (ne_of_none ho hp)]; exact ho⟩
  · by_cases hn : n < μ.length
    · rw [List.getElem?_append_left hn] at hy
      obtain ⟨a, ws, e1, e2, e3⟩ := h.at_ n ys hy
      exact ⟨a, ws, pre_get e.pre e1, by rw [upd_ne (ne_of_none e2 hp)]; exact e2, e3.mono e⟩
    · have hn' : n = μ.length := by
        have := (List.getElem?_eq_some_iff.mp hy).1
        simp at this
        omega
      subst hn'
      rw [List.getElem?_append_right (Nat.le_refl _)] at hy
      simp at hy
      subst hy
      refine ⟨p, vs, ?_, upd_same, hx.mono e⟩
      rw [← h.len, List.getElem?_append_right (Nat.le_refl _)]
      simp
/-- a list of the memory is written -/
theorem HR.set (h : HR K G μ α β H) {n : Nat} {a : Addr} {xs : List U} {ws vs : List V} (hn : α[n]? = some a) (ha : H a = some (.lst ws)) (hx : VRs K G α β H xs vs) :
    Ext α H α (upd H a (.lst vs)) ∧ HR K G (μ.set n xs) α β (upd H a (.lst vs)) := by
  have hm : a ∈ α := List.mem_of_getElem? hn
  have e : Ext α H α (upd H a (.lst vs)) := ⟨List.prefix_refl _, fun b o hb _ hc => by
    rw [upd_ne (fun z => hc (by rw [z]; exact hm))]; exact hb, fun _ _ _ _ z => z⟩
  refine ⟨e, by simpa using h.len, h.nd, h.dis, fun b hb => ?_, fun m ys hy => ?_, fun p hp => ?_⟩
  · obtain ⟨o, ho⟩ := h.priv b hb
    exact ⟨o, e.keep _ _ ho (fun _ z => by cases z) fun z => h.dis b z hb⟩
  · by_cases hmn : m = n
    · subst hmn
      have hl : m < μ.length := by
        have := (List.getElem?_eq_some_iff.mp hy).1
        simpa using this
      rw [List.getElem?_set_self hl] at hy
      cases hy
      exact ⟨a, vs, hn, upd_same, hx.mono e⟩
    · rw [List.getElem?_set_ne (Ne.symm hmn)] at hy
      obtain ⟨b, zs, e1, e2, e3⟩ := h.at_ m ys hy
      have nb : b ≠ a := fun z => by
        subst z
        obtain ⟨h1, g1⟩ := List.getElem?_eq_some_iff.mp hn
        obtain ⟨h2, g2⟩ := List.getElem?_eq_some_iff.mp e1
        exact hmn ((List.getElem_inj h.nd).mp (g2.trans g1.symm))
      exact ⟨b, zs, e1, by rw [upd_ne nb]; exact e2, e3.mono e⟩
  · obtain ⟨ps, h1, h2, h3⟩ := h.tabs p hp
    have n1 : p.1 ≠ a := fun z => by rw [z, ha] at h1; cases h1
    refine ⟨ps, by rw [upd_ne n1]; exact h1, h2, fun pos cv hc => ?_⟩
    obtain ⟨c, e1, e2⟩ := h3 pos cv hc
    refine ⟨c, e1, ?_⟩
    rw [upd_ne (fun z => by rw [z, ha] at e2; cases e2)]
    exact e2
/-- a private place is taken -/
theorem HR.hide (h : HR K G μ α β H) {p : Addr} {ws : List V} (hp : H p = none) : HR K G μ α (p :: β) (upd H p (.lst ws)) := by
  obtain ⟨f1, f2⟩ := h.fresh hp
  have h1 := h.new (o := .lst ws) hp
  have pv : ∀ a u, upd H p (.lst ws) a = some u → a ∉ α → a ∉ β → a ≠ p → a ∉ p :: β := fun a u _ _ n m z => (List.mem_cons.mp z).elim m n
  refine ⟨h.len, h.nd, fun a ha z => ?_, fun a ha => ?_, fun n xs hx => ?_, h1.tabs⟩
  · rcases List.mem_cons.mp z with z | z
    · exact f1 (by rw [← z]; exact ha)
    · exact h.dis a ha z
  · rcases List.mem_cons.mp ha with z | z
    · exact ⟨ws, by rw [z, upd_same]⟩
    · exact h1.priv a z
  · obtain ⟨a, vs, e1, e2, e3⟩ := h.at_ n xs hx
    refine ⟨a, vs, e1, by rw [upd_ne (ne_of_none e2 hp)]; exact e2, ?_⟩
    have e4 : VRs K G α (p :: β) H xs vs := e3.priv fun b u hb _ n z => by
      rcases List.mem_cons.mp z with z | z
      · exact ne_of_none hb hp z
      · exact n z
    exact e4.mono (Ext.new hp)
/-- .. and given up -/
theorem HR.show_ {p : Addr} (h : HR K G μ α (p :: β) H) : HR K G μ α β H := by
  refine ⟨h.len, h.nd, fun a ha z => h.dis a ha (List.mem_cons_of_mem _ z), fun a ha => h.priv a (List.mem_cons_of_mem _ ha), fun n xs hx => ?_, h.tabs⟩
  obtain ⟨a, vs, e1, e2, e3⟩ := h.at_ n xs hx
  exact ⟨a, vs, e1, e2, e3.priv fun b u hb _ n z => n (List.mem_cons_of_mem _ z)⟩
theorem VR.hide {u : U} {v : V} {p : Addr} (hp : H p = none) (h : VR K G α β H u v) : VR K G α (p :: β) H u v := h.priv fun b u hb _ n z => by
  rcases List.mem_cons.mp z with z | z
  · exact ne_of_none hb hp z
  · exact n z
theorem VR.show_ {u : U} {v : V} {p : Addr} (h : VR K G α (p :: β) H u v) : VR K G α β H u v := h.priv fun b u hb _ n z => n (List.mem_cons_of_mem _ z)
theorem VRs.show_ {u : List U} {v : List V} {p : Addr} (h : VRs K G α (p :: β) H u v) : VRs K G α β H u v := h.priv fun b u hb _ n z => n (List.mem_cons_of_mem _ z)

/-! ### slots -/
def SR (K : PySem.W.Frag) (G : En) (α β : List Addr) (H : Hp) (ρ : Slots) (σ : L2.St) : Prop := ρ.length = σ.length ∧ ∀ (i : Nat) (u : U), ρ[i]? = some (some u) → ∃ v, σ[i]? = some (some v) ∧ VR K G α β H u v
variable {ρ : Slots} {σ : L2.St}
theorem SR.mono (e : Ext α H α' H') (h : SR K G α β H ρ σ) : SR K G α' β H' ρ σ := ⟨h.1, fun i u hu => by
  obtain ⟨v, h1, h2⟩ := h.2 i u hu
  exact ⟨v, h1, h2.mono e⟩⟩
theorem SR.hide {p : Addr} (hp : H p = none) (h : SR K G α β H ρ σ) : SR K G α (p :: β) H ρ σ := ⟨h.1, fun i u hu => by
  obtain ⟨v, h1, h2⟩ := h.2 i u hu
  exact ⟨v, h1, h2.hide hp⟩⟩
theorem SR.set (h : SR K G α β H ρ σ) {u : U} {v : V} (r : VR K G α β H u v) (i : Nat) : SR K G α β H (ρ.set i (some u)) (σ.set i (some v)) := by
  refine ⟨by simpa using h.1, fun j w' hw => ?_⟩
  by_cases hj : i = j
  · subst hj
    have hl : i < ρ.length := by
      have := (List.getElem?_eq_some_iff.mp hw).1
      simpa using this
    rw [List.getElem?_set_self hl] at hw
    cases hw
    exact ⟨v, List.getElem?_set_self (by rw [← h.1]; exact hl), r⟩
  · rw [List.getElem?_set_ne hj] at hw
    obtain ⟨z, h1, h2⟩ := h.2 j w' hw
    exact ⟨z, by rw [List.getElem?_set_ne hj]; exact h1, h2⟩
theorem SR.setN (h : SR K G α β H ρ σ) (i : Nat) (x : Option V) : SR K G α β H (ρ.set i none) (σ.set i x) := by
  refine ⟨by simpa using h.1, fun j w' hw => ?_⟩
  by_cases hj : i = j
  · subst hj
    have hl : i < ρ.length := by
      have := (List.getElem?_eq_some_iff.mp hw).1
      simpa using this
    rw [List.getElem?_set_self hl] at hw
    cases hw
  · rw [List.getElem?_set_ne hj] at hw
    obtain ⟨z, h1, h2⟩ := h.2 j w' hw
    exact ⟨z, by rw [List.getElem?_set_ne hj]; exact h1, h2⟩
theorem SR.wipe (h : SR K G α β H ρ σ) : ∀ vs : List Nat, SR K G α β H (wipeU ρ vs) (wipe σ vs)
  | [] => h
  | v :: vs => by
    unfold wipeU L2.wipe
    exact (SR.wipe h vs).setN v none
end

/-! ### what is wanted of a result -/
def XR (G : En) (c : Exn) (cls : Value) (d : Option Addr) (H : Hp) : Prop :=
  cls = .ref (G.ca c.cls) ∧ c.cls ∈ G.exs ∧ match c.lim with
    | none => d = none
    | some n => ∃ dd, d = some dd ∧ H dd = some (.xd [(G.fld c.cls, .int n)])
def PostG {A : Type} (K : PySem.W.Frag) (G : En) (β : List Addr) (W : WX) (r : R A) (α : List Addr) (H : Hp) (F : A → Mem → List Addr → Hp → Prop) : Prop :=
  match r with
  | .ok a μ => ∀ H' α', HR K G μ α' β H' → Ext α H α' H' → F a μ α' H'
  | .exc c μ => ∀ cls d σ H' α', XR G c cls d H' → HR K G μ α' β H' → Ext α H α' H' → W cls d σ H'
  | .bad => False
section
variable {K : PySem.W.Frag} {G : En} {α α1 β : List Addr} {H H1 : Hp} {W : WX} {A B : Type} {r : R A} {F F' : A → Mem → List Addr → Hp → Prop}
theorem PostG.rebase (e : Ext α H α1 H1) (h : PostG K G β W r α H F) : PostG K G β W r α1 H1 F := by
  cases r with
  | ok a μ => exact fun H' α' hr e' => h H' α' hr (e.trans e')
  | exc c μ => exact fun cls d σ H' α' x hr e' => h cls d σ H' α' x hr (e.trans e')
  | bad => exact h
theorem PostG.mono (h : PostG K G β W r α H F) (f : ∀ a μ α' H', HR K G μ α' β H' → Ext α H α' H' → F a μ α' H' → F' a μ α' H') : PostG K G β W r α H F' := by
  cases r with
  | ok a μ => exact fun H' α' hr e' => f _ _ _ _ hr e' (h H' α' hr e')
  | exc c μ => exact h
  | bad => exact h
theorem PostG.bind {f : A → Mem → R B} {F : B → Mem → List Addr → Hp → Prop} (h : PostG K G β W (r.bind f) α H F) : PostG K G β W r α H (fun a μ α1 H1 => PostG K G β W (f a μ) α1 H1 F) := by
  cases r with
  | ok a μ => exact fun H' α' hr e' => PostG.rebase e' h
  | exc c μ => exact h
  | bad => exact h
theorem PostG.ok {a : A} {μ : Mem} (hr : HR K G μ α β H) (h : PostG K G β W (.ok a μ) α H F) : F a μ α H := h H α hr (Ext.refl _ _)
end
end Mini

set_option maxHeartbeats 4000000
/-! Mini, part C: operators and built-in functions of the model do what binD, cmpD, biD say. -/
namespace Mini
open PySem PySem.Spec PyProof.Rows L2 LamX

/-- a result that is a value -/
abbrev PostV (K : PySem.W.Frag) (G : En) (β : List Addr) (W : WX) (r : R U) (α : List Addr) (H : Hp) (Q : VK) : Prop :=
  PostG K G β W r α H (fun u _ α' H' => ∀ v, VR K G α' β H' u v → Q v H')
def rM (K : PySem.W.Frag) (G : En) (W : WX) (f : U → U → Mem → R U) : R2 := fun x y H Q =>
  ∃ u w μ α β, HR K G μ α β H ∧ VR K G α β H u x ∧ VR K G α β H w y ∧ PostV K G β W (f u w μ) α H Q
def rMs (K : PySem.W.Frag) (G : En) (W : WX) (f : List U → Mem → R U) : List V → Hp → VK → Prop := fun xs H Q =>
  ∃ us μ α β, HR K G μ α β H ∧ VRs K G α β H us xs ∧ PostV K G β W (f us μ) α H Q
section
variable {K : PySem.W.Frag} {G : En} {α β : List Addr} {H : Hp} {W : WX} {μ : Mem} {Q : VK}
theorem PostV.val {u : U} {v : V} (h : PostV K G β W (.ok u μ) α H Q) (hr : HR K G μ α β H) (r : VR K G α β H u v) : Q v H := h H α hr (Ext.refl _ _) v r
/-- a new tuple -/
theorem post_tup {xs : List U} {vs : List V} (h : PostV K G β W (.ok (.tup xs) μ) α H Q) (hr : HR K G μ α β H) (r : VRs K G α β H xs vs) {p : Addr} (hp : H p = none) : Q (.ref p) (upd H p (.tup vs)) := by
  obtain ⟨f1, f2⟩ := hr.fresh hp
  exact h _ α (hr.new hp) (Ext.new hp) _ ⟨p, vs, rfl, .inl ⟨.inl upd_same, f1, f2⟩, r.mono (Ext.new hp)⟩
/-- a new list -/
theorem post_alloc {m : Bool} {xs : List U} {vs : List V} (h : PostV K G β W (alloc m xs μ) α H Q) (hr : HR K G μ α β H) (r : VRs K G α β H xs vs) {p : Addr} (hp : H p = none) : Q (.ref p) (upd H p (.lst vs)) := by
  obtain ⟨f1, f2⟩ := hr.fresh hp
  cases m with
  | false => exact h _ α (hr.new hp) (Ext.new hp) _ ⟨p, vs, rfl, ⟨upd_same, f1, f2⟩, r.mono (Ext.new hp)⟩
  | true =>
    refine h _ (α ++ [p]) (hr.newRef hp r) (Ext.newRef hp) _ ⟨p, rfl, ?_⟩
    rw [← hr.len, List.getElem?_append_right (Nat.le_refl _)]
    simp
theorem lstOf_at (hr : HR K G μ α β H) {u : U} {v : V} {xs : List U} (r : VR K G α β H u v) (h : lstOf μ u = some xs) : ∃ a vs, v = .ref a ∧ H a = some (.lst vs) ∧ VRs K G α β H xs vs := by
  cases u with
  | lst ys =>
    have e : some ys = some xs := h
    cases e
    obtain ⟨a, vs, h1, h2, h3⟩ := r
    exact ⟨a, vs, h1, h2.1, h3⟩
  | ref n =>
    have e : μ[n]? = some xs := h
    obtain ⟨a, h1, h2⟩ := r
    obtain ⟨a', vs, e1, e2, e3⟩ := hr.at_ n xs e
    rw [h2] at e1
    cases e1
    exact ⟨a, vs, h1, e2, e3⟩
  | _ => exact nomatch (show none = some xs from h)
theorem seqOf_at (hr : HR K G μ α β H) {u : U} {v : V} {xs : List U} (r : VR K G α β H u v) (h : seqOf μ u = some xs) : ∃ a vs, v = .ref a ∧ (SqL K H a vs ∨ SqT K H a vs) ∧ VRs K G α β H xs vs := by
  cases u with
  | tup ys =>
    have e : some ys = some xs := h
    cases e
    obtain ⟨a, vs, h1, h2, h3⟩ := r
    exact ⟨a, vs, h1, .inr h2.seq, h3⟩
  | lst ys =>
    have e : some ys = some xs := h
    cases e
    obtain ⟨a, vs, h1, h2, h3⟩ := r
    exact ⟨a, vs, h1, .inl (SqL.of h2.1), h3⟩
  | rol ys =>
    have e : some ys = some xs := h
    cases e
    obtain ⟨a, vs, h1, h2, h3⟩ := r
    exact ⟨a, vs, h1, .inl h2.seq, h3⟩
  | ref n =>
    obtain ⟨a, vs, h1, h2, h3⟩ := lstOf_at hr r (show lstOf μ (.ref n) = some xs from h)
    exact ⟨a, vs, h1, .inl (SqL.of h2), h3⟩
  | _ => exact nomatch (show none = some xs from h)
mutual
theorem toD_dp : ∀ {u : U} {v : V} {d : PyData}, VR K G α β H u v → toD u = some d → Dp K H v d
  | .non, _, _, h, e => by cases h; cases e; exact .non
  | .bl _, _, _, h, e => by cases h; cases e; exact .bl _
  | .int _, _, _, h, e => by cases h; cases e; exact .int _
  | .str _, _, _, h, e => by cases h; cases e; exact .str _
  | .tup xs, _, _, h, e => by
    obtain ⟨a, vs, rfl, h1, h2⟩ := h
    have e : (toDs xs).map PyData.tuple = _ := e
    cases q : toDs xs with
    | none => rw [q] at e; cases e
    | some ds => rw [q] at e; cases e; exact .tup h1.seq (toDs_dp h2 q)
  | .lst xs, _, _, h, e => by
    obtain ⟨a, vs, rfl, h1, h2⟩ := h
    have e : (toDs xs).map PyData.list = _ := e
    cases q : toDs xs with
    | none => rw [q] at e; cases e
    | some ds => rw [q] at e; cases e; exact .lst (SqL.of h1.1) (toDs_dp h2 q)
  | .rol xs, _, _, h, e => by
    obtain ⟨a, vs, rfl, h1, h2⟩ := h
    have e : (toDs xs).map PyData.list = _ := e
    cases q : toDs xs with
    | none => rw [q] at e; cases e
    | some ds => rw [q] at e; cases e; exact .lst h1.seq (toDs_dp h2 q)
  | .ref _, _, _, _, e => nomatch e
  | .fn _, _, _, _, e => nomatch e
theorem toDs_dp : ∀ {us : List U} {vs : List V} {ds : List PyData}, VRs K G α β H us vs → toDs us = some ds → DpAll K H vs ds
  | [], _, _, h, e => by cases h; cases e; exact .nil
  | u :: us, _, _, h, e => by
    obtain ⟨v, r, rfl, h1, h2⟩ := h
    unfold toDs at e
    cases q : toD u with
    | none => rw [q] at e; cases e
    | some d =>
      cases q2 : toDs us with
      | none => rw [q, q2] at e; cases e
      | some ds =>
        rw [q, q2] at e
        cases e
        exact .cons (toD_dp h1 q) (toDs_dp h2 q2)
end
theorem toDM_dp (hr : HR K G μ α β H) {u : U} {v : V} {d : PyData} (r : VR K G α β H u v) (e : toDM μ u = some d) : Dp K H v d := by
  cases u with
  | ref n =>
    obtain ⟨a, rfl, h2⟩ := r
    have e : (match μ[n]? with | some xs => (toDs xs).map PyData.list | none => none) = some d := e
    cases q : μ[n]? with
    | none => rw [q] at e; cases e
    | some xs =>
      rw [q] at e
      obtain ⟨a', vs, e1, e2, e3⟩ := hr.at_ n xs q
      rw [h2] at e1
      cases e1
      cases q2 : toDs xs with
      | none => simp only [q2] at e; cases e
      | some ds =>
        simp only [q2] at e
        cases e
        exact .lst (SqL.of e2) (toDs_dp e3 q2)
  | _ => exact toD_dp r e
end

/-! ### arithmetic -/
theorem mulOk_ok {i j : Int} (h : mulOk i j = true) : IntMulOk i j := by
  unfold mulOk at h
  simp only [Bool.or_eq_true, Bool.and_eq_true, decide_eq_true_eq] at h
  rcases h with (h | h) | ⟨h1, h2⟩
  · exact CMul.ok (.inl (by omega))
  · exact CMul.ok (.inr (by omega))
  · exact (wide_mul (a := 9000) (b := 9000) h1 h2 (by decide) (by decide) (by decide)).ok
section
variable {X : Cx} {G : En} {W : WX}
theorem o_add {m : Bool} : OpR X (binaryOp .Add) (rM X.K G W (binD m .Add)) := by
  intro pins s σ H x y v u Q I rx ry h
  obtain ⟨a, b, μ, α, β, hr, ra, rb, q⟩ := h
  have lists : ∀ xs ys, lstOf μ a = some xs → lstOf μ b = some ys → PostV X.K G β W (if xs.length + ys.length ≤ bigL then alloc m (xs ++ ys) μ else .bad) α H Q → wpAny (model X.prog X.w) X.A (binaryOp .Add v u) (EP X pins σ Q) X.xe s := by
    intro xs ys h1 h2 q
    obtain ⟨p, vs, rfl, e1, r1⟩ := lstOf_at hr ra h1
    obtain ⟨p2, ws, rfl, e2, r2⟩ := lstOf_at hr rb h2
    by_cases hz : xs.length + ys.length ≤ bigL
    · rw [if_pos hz] at q
      exact op_cat pins s σ H _ _ v u Q I rx ry ⟨p, p2, vs, ws, rfl, rfl, e1, e2, by rw [← r1.len, ← r2.len, sizeLine_eq]; exact hz, fun p3 hp => post_alloc q hr (r1.app r2) hp⟩
    · rw [if_neg hz] at q
      exact q.elim
  have gen : PostV X.K G β W (match lstOf μ a, lstOf μ b with
      | some xs, some ys => if xs.length + ys.length ≤ bigL then alloc m (xs ++ ys) μ else .bad
      | _, _ => .bad) α H Q → wpAny (model X.prog X.w) X.A (binaryOp .Add v u) (EP X pins σ Q) X.xe s := by
    intro q
    cases h1 : lstOf μ a with
    | none => rw [h1] at q; exact q.elim
    | some xs =>
      cases h2 : lstOf μ b with
      | none => rw [h1, h2] at q; exact q.elim
      | some ys => rw [h1, h2] at q; exact lists xs ys h1 h2 q
  cases a with
  | int i =>
    cases b with
    | int j =>
      cases ra; cases rb
      exact op_add pins s σ H _ _ v u Q I rx ry ⟨i, j, rfl, rfl, PostV.val q hr rfl⟩
    | _ => exact gen q
  | str i =>
    cases b with
    | str j =>
      cases ra; cases rb
      have q : PostV X.K G β W (if i.length + j.length ≤ bigL then .ok (.str (i ++ j)) μ else .bad) α H Q := q
      by_cases hz : i.length + j.length ≤ bigL
      · rw [if_pos hz] at q
        exact op_add_str pins s σ H _ _ v u Q I rx ry ⟨i, j, rfl, rfl, by rw [sizeLine_eq]; exact hz, PostV.val q hr rfl⟩
      · rw [if_neg hz] at q
        exact q.elim
    | _ => exact gen q
  | tup xs =>
    cases b with
    | tup ys =>
      have q : PostV X.K G β W (if xs.length + ys.length ≤ bigL then .ok (.tup (xs ++ ys)) μ else .bad) α H Q := q
      by_cases hz : xs.length + ys.length ≤ bigL
      · rw [if_pos hz] at q
        obtain ⟨p, vs, rfl, e1, r1⟩ := ra
        obtain ⟨p2, ws, rfl, e2, r2⟩ := rb
        refine op_catA pins s σ H _ _ v u Q I rx ry ⟨p, p2, vs, ws, rfl, rfl, e1.seq, e2.seq, by rw [← r1.len, ← r2.len, sizeLine_eq]; exact hz, fun z => ?_, fun _ z => ?_, fun _ _ p3 hp => post_tup q hr (r1.app r2) hp⟩
        · subst z
          have e : xs = [] := List.eq_nil_of_length_eq_zero (by rw [r1.len]; rfl)
          subst e
          exact PostV.val q hr ⟨p2, ws, rfl, e2, r2⟩
        · subst z
          have e : ys = [] := List.eq_nil_of_length_eq_zero (by rw [r2.len]; rfl)
          subst e
          rw [List.append_nil] at q
          exact PostV.val q hr ⟨p, vs, rfl, e1, r1⟩
      · rw [if_neg hz] at q
        exact q.elim
    | _ => exact gen q
  | _ => exact gen q
theorem o_sub {m : Bool} : OpR X (binaryOp .Sub) (rM X.K G W (binD m .Sub)) := by
  intro pins s σ H x y v u Q I rx ry h
  obtain ⟨a, b, μ, α, β, hr, ra, rb, q⟩ := h
  cases a with
  | int i =>
    cases b with
    | int j =>
      cases ra; cases rb
      exact op_sub pins s σ H _ _ v u Q I rx ry ⟨i, j, rfl, rfl, PostV.val q hr rfl⟩
    | _ => exact q.elim
  | _ => exact q.elim
theorem VRs.rep {K : PySem.W.Frag} {α β : List Addr} {H : Hp} {us : List U} {vs : List V} (h : VRs K G α β H us vs) : ∀ n : Nat, VRs K G α β H (List.replicate n us).flatten (List.replicate n vs).flatten
  | 0 => rfl
  | n + 1 => by
    rw [List.replicate_succ, List.replicate_succ, List.flatten_cons, List.flatten_cons]
    exact h.app (VRs.rep h n)
theorem o_mul {m : Bool} : OpR X (binaryOp .Mult) (rM X.K G W (binD m .Mult)) := by
  intro pins s σ H x y v u Q I rx ry h
  obtain ⟨a, b, μ, α, β, hr, ra, rb, q⟩ := h
  have gen : ∀ k, b = .int k → PostV X.K G β W (match lstOf μ a with
      | some xs => if repOk xs.length k then alloc m (rep xs k) μ else .bad
      | none => .bad) α H Q → wpAny (model X.prog X.w) X.A (binaryOp .Mult v u) (EP X pins σ Q) X.xe s := by
    intro k e q'
    subst e
    cases rb
    cases h1 : lstOf μ a with
    | none => rw [h1] at q'; exact q'.elim
    | some xs =>
      rw [h1] at q'
      obtain ⟨p, vs, rfl, e1, r1⟩ := lstOf_at hr ra h1
      have q : PostV X.K G β W (if repOk xs.length k = true then alloc m (Mini.rep xs k) μ else .bad) α H Q := q'
      by_cases hz : repOk xs.length k = true
      · rw [if_pos hz] at q
        unfold repOk at hz
        simp only [Bool.and_eq_true, decide_eq_true_eq] at hz
        obtain ⟨⟨z1, z2⟩, z3⟩ := hz
        exact op_rep pins s σ H _ _ v u Q I rx ry ⟨p, k, vs, rfl, rfl, e1, by omega, by omega, by rw [← r1.len, sizeLine_eq]; exact z3, fun p3 hp => post_alloc q hr (VRs.rep r1 _) hp⟩
      · rw [if_neg hz] at q
        exact q.elim
  cases b with
  | int j =>
    cases a with
    | int i =>
      cases ra; cases rb
      have q : PostV X.K G β W (if mulOk i j = true then .ok (.int (i * j)) μ else .bad) α H Q := q
      by_cases hz : mulOk i j = true
      · rw [if_pos hz] at q
        obtain ⟨t, rfl⟩ := rx
        obtain ⟨t', rfl⟩ := ry
        exact mul_int ⟨.int _, H, I.tok _, ⟨_, rfl⟩, PostV.val q hr rfl⟩ (mulOk_ok hz)
      · rw [if_neg hz] at q
        exact q.elim
    | _ => exact gen j rfl q
  | _ => cases a <;> exact q.elim
theorem o_fdiv {m : Bool} : OpR X (binaryOp .FloorDiv) (rM X.K G W (binD m .FloorDiv)) := by
  intro pins s σ H x y v u Q I rx ry h
  obtain ⟨a, b, μ, α, β, hr, ra, rb, q⟩ := h
  cases a with
  | int i =>
    cases b with
    | int j =>
      cases ra; cases rb
      have q : PostV X.K G β W (if divOk j = true then .ok (.int (i.fdiv j)) μ else .bad) α H Q := q
      by_cases hz : divOk j = true
      · rw [if_pos hz] at q
        unfold divOk at hz
        simp only [Bool.and_eq_true, decide_eq_true_eq, bne_iff_ne, ne_eq] at hz
        obtain ⟨t, rfl⟩ := rx
        obtain ⟨t', rfl⟩ := ry
        exact floordiv_int hz.1 ⟨.int _, H, I.tok _, ⟨_, rfl⟩, PostV.val q hr rfl⟩ (.inl (PyProof.noPylong_of_log2 (PySem.Flt.log2_lt_of (by decide) hz.2)))
      · rw [if_neg hz] at q
        exact q.elim
    | _ => exact q.elim
  | _ => exact q.elim
theorem o_mod {m : Bool} : OpR X (binaryOp .Mod) (rM X.K G W (binD m .Mod)) := by
  intro pins s σ H x y v u Q I rx ry h
  obtain ⟨a, b, μ, α, β, hr, ra, rb, q⟩ := h
  cases a with
  | int i =>
    cases b with
    | int j =>
      cases ra; cases rb
      have q : PostV X.K G β W (if (j != 0) = true then .ok (.int (i.fmod j)) μ else .bad) α H Q := q
      by_cases hz : (j != 0) = true
      · rw [if_pos hz] at q
        exact op_modN pins s σ H _ _ v u Q I rx ry ⟨i, j, rfl, rfl, by simpa using hz, PostV.val q hr rfl⟩
      · rw [if_neg hz] at q
        exact q.elim
    | _ => exact q.elim
  | _ => exact q.elim
theorem powOk_ok {i j : Int} (h : powOk i j = true) : CPow i j := by
  unfold powOk at h
  simp only [Bool.and_eq_true, decide_eq_true_eq] at h
  exact ⟨h.1.1, h.1.2, h.2⟩
theorem o_pow {m : Bool} : OpR X (binaryOp .Pow) (rM X.K G W (binD m .Pow)) := by
  intro pins s σ H x y v u Q I rx ry h
  obtain ⟨a, b, μ, α, β, hr, ra, rb, q⟩ := h
  cases a with
  | int i =>
    cases b with
    | int j =>
      cases ra; cases rb
      have q : PostV X.K G β W (if powOk i j = true then .ok (.int (i ^ j.toNat)) μ else .bad) α H Q := q
      by_cases hz : powOk i j = true
      · rw [if_pos hz] at q
        exact op_pow pins s σ H _ _ v u Q I rx ry ⟨i, j, rfl, rfl, powOk_ok hz, PostV.val q hr rfl⟩
      · rw [if_neg hz] at q
        exact q.elim
    | _ => exact q.elim
  | _ => exact q.elim
theorem o_shl {m : Bool} : OpR X (binaryOp .LShift) (rM X.K G W (binD m .LShift)) := by
  intro pins s σ H x y v u Q I rx ry h
  obtain ⟨a, b, μ, α, β, hr, ra, rb, q⟩ := h
  cases a with
  | int i =>
    cases b with
    | int j =>
      cases ra; cases rb
      have q : PostV X.K G β W (if powOk i j = true then .ok (.int (i * 2 ^ j.toNat)) μ else .bad) α H Q := q
      by_cases hz : powOk i j = true
      · rw [if_pos hz] at q
        exact op_shl pins s σ H _ _ v u Q I rx ry ⟨i, j, rfl, rfl, powOk_ok hz, PostV.val q hr rfl⟩
      · rw [if_neg hz] at q
        exact q.elim
    | _ => exact q.elim
  | _ => exact q.elim
/-- the operators that binD knows -/
def opOk : Operator → Bool
  | .Add | .Sub | .Mult | .FloorDiv | .Mod | .Pow | .LShift => true
  | _ => false
theorem o_bin {m : Bool} {op : Operator} (h : opOk op = true) : OpR X (binaryOp op) (rM X.K G W (binD m op)) := by
  cases op <;> first | exact o_add | exact o_sub | exact o_mul | exact o_fdiv | exact o_mod | exact o_pow | exact o_shl | cases h
theorem o_neg : UnR X (unaryOp .USub) (fun x H Q => ∃ u μ α β, HR X.K G μ α β H ∧ VR X.K G α β H u x ∧ PostV X.K G β W (negD u μ) α H Q) := by
  intro pins s σ H x v Q I rx h
  obtain ⟨a, μ, α, β, hr, ra, q⟩ := h
  cases a with
  | int i =>
    cases ra
    exact un_neg pins s σ H _ v Q I rx ⟨i, rfl, PostV.val q hr rfl⟩
  | _ => exact q.elim

/-! ### comparisons -/
/-- a result that is a bool -/
theorem cmp_bl {K : PySem.W.Frag} {μ : Mem} {α β : List Addr} {H : Hp} {Q : VK} {op : CmpOp} {a b : U} {k : Bool} (hr : HR K G μ α β H) (h : cmpD op a b μ = some k) (q : PostV K G β W (cmpR op a b μ) α H Q) : Q (.bl k) H := by
  unfold cmpR at q
  rw [h] at q
  exact PostV.val q hr rfl
theorem cmp_some {K : PySem.W.Frag} {μ : Mem} {α β : List Addr} {H : Hp} {Q : VK} {op : CmpOp} {a b : U} (q : PostV K G β W (cmpR op a b μ) α H Q) : ∃ k, cmpD op a b μ = some k := by
  unfold cmpR at q
  cases h : cmpD op a b μ with
  | none => rw [h] at q; exact q.elim
  | some k => exact ⟨k, rfl⟩
theorem eqD_gen {μ : Mem} {α β : List Addr} {H : Hp} {a b : U} {x y : V} {k : Bool} (hr : HR X.K G μ α β H) (ra : VR X.K G α β H a x) (rb : VR X.K G α β H b y) (h : (match toDM μ a, toDM μ b with
    | some d, some e => if SeqAt.shaped d && SeqAt.shaped e then some (PyData.eqv d e) else none
    | _, _ => none) = some k) :
    ∃ d e, Dp X.K H x d ∧ Dp X.K H y e ∧ SeqAt.shaped d = true ∧ SeqAt.shaped e = true ∧ PyData.eqv d e = k := by
  cases h1 : toDM μ a with
  | none => rw [h1] at h; cases h
  | some d =>
    cases h2 : toDM μ b with
    | none => rw [h1, h2] at h; cases h
    | some e =>
      rw [h1, h2] at h
      have h : (if (SeqAt.shaped d && SeqAt.shaped e) = true then some (PyData.eqv d e) else none) = some k := h
      by_cases hz : (SeqAt.shaped d && SeqAt.shaped e) = true
      · rw [if_pos hz] at h
        cases h
        simp only [Bool.and_eq_true] at hz
        exact ⟨d, e, toDM_dp hr ra h1, toDM_dp hr rb h2, hz.1, hz.2, rfl⟩
      · rw [if_neg hz] at h; cases h
/-- == : by scalars, or by data -/
theorem eqD_ok {μ : Mem} {α β : List Addr} {H : Hp} {a b : U} {x y : V} {k : Bool} (hr : HR X.K G μ α β H) (ra : VR X.K G α β H a x) (rb : VR X.K G α β H b y) (h : eqD μ a b = some k) :
    (scal x y = true ∧ decide (x = y) = k) ∨ ∃ d e, Dp X.K H x d ∧ Dp X.K H y e ∧ SeqAt.shaped d = true ∧ SeqAt.shaped e = true ∧ PyData.eqv d e = k := by
  cases a with
  | int i =>
    cases b with
    | int j =>
      have h : some (i == j) = some k := h
      cases h
      cases ra; cases rb
      exact .inl ⟨rfl, dec_int⟩
    | _ => exact .inr (eqD_gen hr ra rb h)
  | str i =>
    cases b with
    | str j =>
      have h : some (i == j) = some k := h
      cases h
      cases ra; cases rb
      exact .inl ⟨rfl, dec_str⟩
    | _ => exact .inr (eqD_gen hr ra rb h)
  | _ => exact .inr (eqD_gen hr ra rb h)
theorem o_eq (hu : X.A.units + 64 < cLine) : OpR X (compareOp .Eq) (rM X.K G W (cmpR .Eq)) := by
  intro pins s σ H x y v u Q I rx ry h
  obtain ⟨a, b, μ, α, β, hr, ra, rb, q⟩ := h
  obtain ⟨k, hk⟩ := cmp_some q
  have q := cmp_bl hr hk q
  rcases eqD_ok hr ra rb hk with ⟨h1, h2⟩ | ⟨d, e, h1, h2, h3, h4, h5⟩
  · exact L2.op_eq pins s σ H x y v u Q I rx ry ⟨h1, by rw [h2]; exact q⟩
  · exact op_eqD hu pins s σ H x y v u Q I rx ry ⟨d, e, h1, h2, h3, h4, by rw [h5]; exact q⟩
theorem o_ne (hu : X.A.units + 64 < cLine) : OpR X (compareOp .NotEq) (rM X.K G W (cmpR .NotEq)) := by
  intro pins s σ H x y v u Q I rx ry h
  obtain ⟨a, b, μ, α, β, hr, ra, rb, q⟩ := h
  obtain ⟨k, hk⟩ := cmp_some q
  have q := cmp_bl hr hk q
  have hk : (eqD μ a b).map (!·) = some k := hk
  cases hk2 : eqD μ a b with
  | none => rw [hk2] at hk; cases hk
  | some k2 =>
    rw [hk2] at hk
    cases hk
    rcases eqD_ok hr ra rb hk2 with ⟨h1, h2⟩ | ⟨d, e, h1, h2, h3, h4, h5⟩
    · exact L2.op_ne pins s σ H x y v u Q I rx ry ⟨h1, by rw [h2]; exact q⟩
    · exact op_neD hu pins s σ H x y v u Q I rx ry ⟨d, e, h1, h2, h3, h4, by rw [h5]; exact q⟩
theorem cmp_ints {op : CmpOp} {p : Int → Int → Bool} (o : OpR X (compareOp op) (rI0 fun i j => .bl (p i j))) (hp : ∀ a b μ k, cmpD op a b μ = some k → ∃ i j, a = .int i ∧ b = .int j ∧ k = p i j) : OpR X (compareOp op) (rM X.K G W (cmpR op)) := by
  intro pins s σ H x y v u Q I rx ry h
  obtain ⟨a, b, μ, α, β, hr, ra, rb, q⟩ := h
  obtain ⟨k, hk⟩ := cmp_some q
  have q := cmp_bl hr hk q
  obtain ⟨i, j, rfl, rfl, rfl⟩ := hp a b μ k hk
  cases ra; cases rb
  exact o pins s σ H _ _ v u Q I rx ry ⟨i, j, rfl, rfl, q⟩
theorem o_lt : OpR X (compareOp .Lt) (rM X.K G W (cmpR .Lt)) := cmp_ints op_lt fun a b μ k h => by
  cases a <;> cases b <;> first | (cases h; exact ⟨_, _, rfl, rfl, rfl⟩) | cases h
theorem o_le : OpR X (compareOp .LtE) (rM X.K G W (cmpR .LtE)) := cmp_ints op_le fun a b μ k h => by
  cases a <;> cases b <;> first | (cases h; exact ⟨_, _, rfl, rfl, rfl⟩) | cases h
theorem o_gt : OpR X (compareOp .Gt) (rM X.K G W (cmpR .Gt)) := cmp_ints op_gt fun a b μ k h => by
  cases a <;> cases b <;> first | (cases h; exact ⟨_, _, rfl, rfl, rfl⟩) | cases h
theorem o_ge : OpR X (compareOp .GtE) (rM X.K G W (cmpR .GtE)) := cmp_ints op_ge fun a b μ k h => by
  cases a <;> cases b <;> first | (cases h; exact ⟨_, _, rfl, rfl, rfl⟩) | cases h
theorem is_non {K : PySem.W.Frag} {α β : List Addr} {H : Hp} {a : U} {x : V} (r : VR K G α β H a x) : decide (x = V.non) = (match a with | .non => true | _ => false) := by
  cases a with
  | non => cases r; rfl
  | bl _ => cases r; rfl
  | int _ => cases r; rfl
  | str _ => cases r; rfl
  | fn _ => obtain ⟨rfl, _⟩ := r; rfl
  | exn => obtain ⟨_, _, rfl⟩ := r; rfl
  | tup _ => obtain ⟨_, _, rfl, _⟩ := r; rfl
  | lst _ => obtain ⟨_, _, rfl, _⟩ := r; rfl
  | rol _ => obtain ⟨_, _, rfl, _⟩ := r; rfl
  | ref _ => obtain ⟨_, rfl, _⟩ := r; rfl
theorem o_is : OpR X (compareOp .Is) (rM X.K G W (cmpR .Is)) := by
  intro pins s σ H x y v u Q I rx ry h
  obtain ⟨a, b, μ, α, β, hr, ra, rb, q⟩ := h
  obtain ⟨k, hk⟩ := cmp_some q
  have q := cmp_bl hr hk q
  cases b with
  | non =>
    cases rb
    refine op_isN pins s σ H x _ v u Q I rx ry ⟨rfl, ?_⟩
    rw [is_non ra]
    cases a <;> cases hk <;> exact q
  | _ => cases hk
theorem o_isnot : OpR X (compareOp .IsNot) (rM X.K G W (cmpR .IsNot)) := by
  intro pins s σ H x y v u Q I rx ry h
  obtain ⟨a, b, μ, α, β, hr, ra, rb, q⟩ := h
  obtain ⟨k, hk⟩ := cmp_some q
  have q := cmp_bl hr hk q
  cases b with
  | non =>
    cases rb
    refine op_notN pins s σ H x _ v u Q I rx ry ⟨rfl, ?_⟩
    rw [is_non ra]
    cases a <;> cases hk <;> exact q
  | _ => cases hk
theorem inD_ok {μ : Mem} {α β : List Addr} {H : Hp} {a b : U} {x y : V} {k : Bool} (hr : HR X.K G μ α β H) (ra : VR X.K G α β H a x) (rb : VR X.K G α β H b y) (h : inD μ a b = some k) :
    ∃ d ds, Dp X.K H x d ∧ SeqAt.shaped d = true ∧ (ds.any fun z => PyData.eqv z d) = k ∧ ((Dp X.K H y (.list ds) ∧ SeqAt.shaped (.list ds) = true) ∨ (Dp X.K H y (.tuple ds) ∧ SeqAt.shaped (.tuple ds) = true)) := by
  unfold inD at h
  cases h1 : toD a with
  | none => rw [h1] at h; cases h
  | some d =>
    cases h2 : toDM μ b with
    | none => rw [h1, h2] at h; cases h
    | some e =>
      rw [h1, h2] at h
      cases e with
      | list ds =>
        have h : (if (SeqAt.shaped d && SeqAt.shaped (.list ds)) = true then some (ds.any fun z => PyData.eqv z d) else none) = some k := h
        by_cases hz : (SeqAt.shaped d && SeqAt.shaped (.list ds)) = true
        · rw [if_pos hz] at h
          cases h
          simp only [Bool.and_eq_true] at hz
          exact ⟨d, ds, toD_dp ra h1, hz.1, rfl, .inl ⟨toDM_dp hr rb h2, hz.2⟩⟩
        · rw [if_neg hz] at h; cases h
      | tuple ds =>
        have h : (if (SeqAt.shaped d && SeqAt.shaped (.tuple ds)) = true then some (ds.any fun z => PyData.eqv z d) else none) = some k := h
        by_cases hz : (SeqAt.shaped d && SeqAt.shaped (.tuple ds)) = true
        · rw [if_pos hz] at h
          cases h
          simp only [Bool.and_eq_true] at hz
          exact ⟨d, ds, toD_dp ra h1, hz.1, rfl, .inr ⟨toDM_dp hr rb h2, hz.2⟩⟩
        · rw [if_neg hz] at h; cases h
      | _ => cases h
theorem shaped_all {ds : List PyData} (h : SeqAt.shaped (.tuple ds) = true) : PyData.canLayAll0 ds = true := by
  have := SeqAt.canLay_of_shaped h
  simpa [PyData.canLay0] using this
theorem o_in (hu : X.A.units + 65 < cLine) : OpR X (compareOp .In) (rM X.K G W (cmpR .In)) := by
  intro pins s σ H x y v u Q I rx ry h
  obtain ⟨a, b, μ, α, β, hr, ra, rb, q⟩ := h
  obtain ⟨k, hk⟩ := cmp_some q
  have q := cmp_bl hr hk q
  obtain ⟨d, ds, h1, h2, h3, h4⟩ := inD_ok hr ra rb hk
  rcases h4 with ⟨h4, h5⟩ | ⟨h4, h5⟩
  · exact op_inD hu pins s σ H x y v u Q I rx ry ⟨d, ds, h1, h4, h2, h5, by rw [h3]; exact q⟩
  · obtain ⟨as, r1⟩ := Dp.reads I d x v h1 rx
    obtain ⟨bs, r2⟩ := Dp.reads I (.tuple ds) y u h4 ry
    exact SeqAt.in_tuple_reads r2 r1 (shaped_all h5) (SeqAt.canLay_of_shaped h2) (room_in_shaped h2 hu) ⟨.bl _, H, I, rfl, by rw [h3]; exact q⟩
theorem o_notin (hu : X.A.units + 65 < cLine) : OpR X (compareOp .NotIn) (rM X.K G W (cmpR .NotIn)) := by
  intro pins s σ H x y v u Q I rx ry h
  obtain ⟨a, b, μ, α, β, hr, ra, rb, q⟩ := h
  obtain ⟨k, hk⟩ := cmp_some q
  have q := cmp_bl hr hk q
  have hk : (inD μ a b).map (!·) = some k := hk
  cases hk2 : inD μ a b with
  | none => rw [hk2] at hk; cases hk
  | some k2 =>
    rw [hk2] at hk
    cases hk
    obtain ⟨d, ds, h1, h2, h3, h4⟩ := inD_ok hr ra rb hk2
    rcases h4 with ⟨h4, h5⟩ | ⟨h4, h5⟩
    · exact op_notInD hu pins s σ H x y v u Q I rx ry ⟨d, ds, h1, h4, h2, h5, by rw [h3]; exact q⟩
    · obtain ⟨as, r1⟩ := Dp.reads I d x v h1 rx
      obtain ⟨bs, r2⟩ := Dp.reads I (.tuple ds) y u h4 ry
      exact SeqAt.notIn_tuple_reads r2 r1 (shaped_all h5) (SeqAt.canLay_of_shaped h2) (room_in_shaped h2 hu) ⟨.bl _, H, I, rfl, by rw [h3]; exact q⟩
theorem o_cmp (hu : X.A.units + 65 < cLine) (op : CmpOp) : OpR X (compareOp op) (rM X.K G W (cmpR op)) := by
  cases op with
  | Eq => exact o_eq (by omega)
  | NotEq => exact o_ne (by omega)
  | Lt => exact o_lt
  | LtE => exact o_le
  | Gt => exact o_gt
  | GtE => exact o_ge
  | Is => exact o_is
  | IsNot => exact o_isnot
  | In => exact o_in hu
  | NotIn => exact o_notin hu

/-! ### places, slices -/
theorem VRs.at {K : PySem.W.Frag} {α β : List Addr} {H : Hp} {us : List U} {vs : List V} {i : Int} {u : U} (h : VRs K G α β H us vs) (e : atU us i = some u) : ∃ v, atI vs i = some v ∧ VR K G α β H u v := by
  unfold atU at e
  unfold atI
  rw [← h.len]
  cases q : ixN us.length i with
  | none => rw [q] at e; cases e
  | some j =>
    rw [q] at e
    exact h.get e
theorem o_idx : IxR X (rM X.K G W idxD) := by
  intro value slice pins s σ H x y v u Q I rx ry h hs
  obtain ⟨a, b, μ, α, β, hr, ra, rb, q⟩ := h
  cases b with
  | int i =>
    cases rb
    have q : PostV X.K G β W (match seqOf μ a with
      | some xs => match atU xs i with
        | some u => .ok u μ
        | none => .bad
      | none => .bad) α H Q := q
    cases h1 : seqOf μ a with
    | none => rw [h1] at q; exact q.elim
    | some xs =>
      rw [h1] at q
      have q : PostV X.K G β W (match atU xs i with
        | some u => .ok u μ
        | none => .bad) α H Q := q
      cases h2 : atU xs i with
      | none => rw [h2] at q; exact q.elim
      | some z =>
        rw [h2] at q
        obtain ⟨p, vs, rfl, h3, h4⟩ := seqOf_at hr ra h1
        obtain ⟨zv, h5, h6⟩ := h4.at h2
        have q := PostV.val q hr h6
        rcases h3 with h3 | h3
        · exact ix_list value slice pins s σ H _ _ v u Q I rx ry ⟨p, vs, i, zv, rfl, rfl, h3, h5, q⟩ hs
        · exact ix_tup value slice pins s σ H _ _ v u Q I rx ry ⟨p, vs, i, zv, rfl, rfl, h3, h5, q⟩ hs
  | _ => exact q.elim
theorem VRs.cut {K : PySem.W.Frag} {α β : List Addr} {H : Hp} {us : List U} {vs : List V} (h : VRs K G α β H us vs) (lo hi : Option Int) : VRs K G α β H (cutU us lo hi) (cutV vs lo hi) := by
  unfold cutU cutV
  rw [h.len]
  exact (h.drop _).take _
theorem cutU_whole {us : List U} {lo hi : Option Int} (h : HT.sIx us.length 0 lo = 0 ∧ HT.sIx us.length us.length hi = us.length) : cutU us lo hi = us := by
  unfold cutU
  rw [h.1, h.2]
  simp
theorem o_slc : SlR X (fun x lo hi H Q => ∃ u μ α β, HR X.K G μ α β H ∧ VR X.K G α β H u x ∧ PostV X.K G β W (slcD u lo hi μ) α H Q) := by
  intro pins s σ H x v vl vu lo hi sl Q I rx hsl pl pu h
  obtain ⟨a, μ, α, β, hr, ra, q⟩ := h
  have gen : PostV X.K G β W (match lstOf μ a with
      | some xs => .ok (.lst (cutU xs lo hi)) μ
      | none => .bad) α H Q → ∃ T id, typeLookup (.type T) "__getitem__" = pure (some (.builtin id)) ∧ s.TypeIs v T ∧ wpAny (model X.prog X.w) X.A (getItem v (.ref sl)) (EP X pins σ Q) X.xe s := by
    intro q
    cases h1 : lstOf μ a with
    | none => rw [h1] at q; exact q.elim
    | some xs =>
      rw [h1] at q
      obtain ⟨p, vs, rfl, h3, h4⟩ := lstOf_at hr ra h1
      exact sl_list pins s σ H _ v vl vu lo hi sl Q I rx hsl pl pu ⟨p, vs, rfl, SqL.of h3, fun p3 hp => post_alloc (m := false) q hr (h4.cut lo hi) hp⟩
  cases a with
  | tup xs =>
    have q : PostV X.K G β W (.ok (.tup (cutU xs lo hi)) μ) α H Q := q
    obtain ⟨p, vs, rfl, h3, h4⟩ := ra
    refine sl_tupA pins s σ H _ v vl vu lo hi sl Q I rx hsl pl pu ⟨p, vs, rfl, h3.seq, fun hw => ?_, fun _ p3 hp => post_tup q hr (h4.cut lo hi) hp⟩
    have hw' := hw
    rw [← h4.len] at hw'
    rw [cutU_whole hw'] at q
    exact PostV.val q hr ⟨p, vs, rfl, h3, h4⟩
  | _ => exact gen q
end
end Mini

set_option maxHeartbeats 4000000
/-! Mini, part D: which piece of the text a piece of the small language stands for. -/
namespace Mini
open PySem PySem.Spec PyProof.Rows L2 LamX

/-- what the text's pieces are held against: the defs, the names that no module binds, built-ins and ints of the module -/
structure Sg where
  Ds : List Def
  fr : List Str
  mb : List (Str × String)
  gi : List (Str × Int)
  exs : List Str
  q : Str
/-- where a piece stands: the names whose cells are its own; may lambdas be made; the slot of the exception that is handled -/
structure Md where
  cell : Str → Bool
  lam : Bool
  hot : Option Nat
def Md.blk (md : Md) (scope : Scope) : Md := ⟨fun x => scope.names.lookup x == some .cell, md.lam, md.hot⟩
def Md.inner : Md := ⟨fun _ => false, false, none⟩
def Md.calm (md : Md) : Bool := md.hot.isNone
def nameOk (x : Str) : Bool := !(x == ("__debug__" : Str)) && !(x == ("__classdict__" : Str)) && !(x == ("__name__" : Str))
def visB (sc : Scope) (x : Str) : Bool := match sc.names.lookup x with
  | some .local | some .cell | some .free => true
  | _ => false
def locB (fb : Md) (sc : Scope) (x : Str) : Bool := match sc.names.lookup x with
  | some .local => true
  | some .cell => fb.cell x
  | _ => false
def gloB (sc : Scope) (x : Str) : Bool := decide (sc.names.lookup x = some .globalImplicit) && nameOk x
def notStar : Expr → Bool
  | .Starred .. => false
  | _ => true
def notComp : Expr → Bool
  | .ListComp .. | .SetComp .. | .DictComp .. => false
  | _ => true
def notCall : Expr → Bool
  | .Call .. => false
  | _ => true
def notSlice : Expr → Bool
  | .Slice .. => false
  | _ => true
def notSet : Expr → Bool
  | .Set .. => false
  | _ => true
def notTup : Expr → Bool
  | .Tuple .. => false
  | _ => true
def augOk : Operator → Bool
  | .Add => true
  | .Sub => true
  | _ => false
def noArgs : Arguments → Bool
  | ⟨[], [], none, [], [], none, []⟩ => true
  | _ => false
def freeB (S : Sg) (sc : Scope) (x : Str) : Bool := gloB sc x && S.fr.contains x
/-- the built-in functions that biD knows -/
def biFun : List (Str × String) := [("len", "len"), ("abs", "abs")]
def biTy : List (Str × String) := [("int", "int"), ("list", "list"), ("tuple", "tuple")]
def biMod : List (Str × String) := [("gcd", "math.gcd")]
def biB (S : Sg) (sc : Scope) (b x : Str) : Bool :=
  (b == x) && gloB sc x && ((S.fr.contains x && ((biFun.any fun p => p.1 == x) || (biTy.any fun p => p.1 == x))) || (biMod.any fun p => p.1 == x && S.mb.contains p))
def isTys : List Str := ["int", "bool", "str", "tuple", "list"]
/-- the comprehension's own names with their places -/
def ownOf (N : List Str) (own : List Nat) : List (Str × Nat) := own.map fun i => (N.getD i "", i)
mutual
def chkT (N : List Str) (fb : Md) (sc : Scope) : IT → Expr → Bool
  | .name i, e => match e with
    | .Name x _ => decide (N[i]? = some x) && locB fb sc x
    | _ => false
  | .tup ts, e => match e with
    | .Tuple es _ _ => chkTs N fb sc ts es
    | _ => false
def chkTs (N : List Str) (fb : Md) (sc : Scope) : ITs → List Expr → Bool
  | .nil, [] => true
  | .cons t ts, e :: es => chkT N fb sc t e && notStar e && chkTs N fb sc ts es
  | _, _ => false
end
/-- the second half of an and, an or -/
def boRest (op : BoolOp) (b : Expr) (rest : List Expr) (pos : Pos) : Expr := match rest with
  | [] => b
  | _ :: _ => .BoolOp op (b :: rest) pos
mutual
def chkE (S : Sg) (N : List Str) : Md → Scope → IE → Expr → Bool
  | _, sc, .var i, e => match e with
    | .Name x _ => decide (N[i]? = some x) && visB sc x && nameOk x
    | _ => false
  | _, _, .int n, e => match e with
    | .Constant (.int m) _ _ => n == m
    | _ => false
  | _, _, .str n, e => match e with
    | .Constant (.str m) _ _ => n == m
    | _ => false
  | _, _, .bl n, e => match e with
    | .Constant (.bool m) _ _ => n == m
    | _ => false
  | _, _, .non, e => match e with
    | .Constant .none _ _ => true
    | _ => false
  | _, sc, .gint x n, e => match e with
    | .Name y _ => (x == y) && gloB sc x && S.gi.contains (x, n)
    | _ => false
  | _, sc, .fnv j, e => match e with
    | .Name y _ => gloB sc y && (match S.Ds[j]? with
      | some (.std d) => d.name == y
      | _ => false)
    | _ => false
  | fb, sc, .bin _ op a b, e => match e with
    | .BinOp a' op' b' _ => decide (op = op') && opOk op && chkE S N fb sc a a' && chkE S N fb sc b b'
    | _ => false
  | fb, sc, .neg a, e => match e with
    | .UnaryOp .USub a' _ => chkE S N fb sc a a'
    | _ => false
  | fb, sc, .not a, e => match e with
    | .UnaryOp .Not a' _ => chkE S N fb sc a a'
    | _ => false
  | fb, sc, .cmp op a b, e => match e with
    | .Compare a' [op'] [b'] _ => decide (op = op') && chkE S N fb sc a a' && chkE S N fb sc b b' && notSet b'
    | _ => false
  | fb, sc, .chain o1 o2 a b c, e => match e with
    | .Compare a' [p1, p2] [b', c'] _ => decide (o1 = p1) && decide (o2 = p2) && chkE S N fb sc a a' && chkE S N fb sc b b' && chkE S N fb sc c c' && notSet c'
    | _ => false
  | fb, sc, .and a b, e => match e with
    | .BoolOp .And (a' :: b' :: rest) pos => chkE S N fb sc a a' && chkE S N fb sc b (boRest .And b' rest pos)
    | _ => false
  | fb, sc, .or a b, e => match e with
    | .BoolOp .Or (a' :: b' :: rest) pos => chkE S N fb sc a a' && chkE S N fb sc b (boRest .Or b' rest pos)
    | _ => false
  | fb, sc, .ite c a b, e => match e with
    | .IfExp c' a' b' _ => chkE S N fb sc c c' && chkE S N fb sc a a' && chkE S N fb sc b b'
    | _ => false
  | fb, sc, .tup es, e => match e with
    | .Tuple es' _ _ => chkEs S N fb sc es es'
    | _ => false
  | fb, sc, .lst _ es, e => match e with
    | .List es' _ => chkEs S N fb sc es es'
    | _ => false
  | fb, sc, .idx a b, e => match e with
    | .Subscript a' b' _ => chkE S N fb sc a a' && chkE S N fb sc b b' && notSlice b'
    | _ => false
  | fb, sc, .slc a lo hi, e => match e with
    | .Subscript a' (.Slice lo' hi' none _) _ => chkE S N fb sc a a' && chkEs S N fb sc lo lo'.toList && chkEs S N fb sc hi hi'.toList
    | _ => false
  | fb, sc, .call j es, e => match e with
    | .Call (.Name x _) es' [] _ => fb.calm && gloB sc x && (match S.Ds[j]? with
      | some (.std d) => d.name == x
      | _ => false) && chkEs S N fb sc es es'
    | _ => false
  | fb, sc, .cvar i es, e => match e with
    | .Call (.Name x _) es' [] _ => fb.calm && decide (N[i]? = some x) && visB sc x && nameOk x && !es'.isEmpty && chkEs S N fb sc es es'
    | _ => false
  | fb, sc, .bi _ b es, e => match e with
    | .Call (.Name x _) es' [] _ => biB S sc b x && !es'.isEmpty && chkEs S N fb sc es es'
    | _ => false
  | fb, sc, .isi a t, e => match e with
    | .Call (.Name x _) [a', .Name t' _] [] _ => (x == ("isinstance" : Str)) && freeB S sc x && (t == t') && freeB S sc t && isTys.contains t && chkE S N fb sc a a' && notStar a'
    | _ => false
  | fb, sc, .comp _ own elt tg it ifs, e => match e with
    | .ListComp elt' [⟨tg', it', ifs', 0⟩] scope _ =>
      (tgS tg).all (fun i => own.contains i) && chkI S N fb sc it tg' it' && blkC N sc scope (ownOf N own) && chkT N (fb.blk scope) (relS scope sc) tg tg' &&
        chkE S N (fb.blk scope) (relS scope sc) elt elt' && chkEs S N (fb.blk scope) (relS scope sc) ifs ifs' && decide (ifs'.length ≤ 1)
    | _ => false
  | fb, sc, .lam j a, e => match e with
    | .Call (.Name x _) [.Lambda params body scope _] [] _ => fb.lam && fb.calm && gloB sc x && (match S.Ds[j]? with
      | some (.err d) => d.name == x
      | _ => false) && noArgs params && lamSB sc scope && chkE S N Md.inner scope a body
    | _ => false
  | fb, sc, .app o a, e => match e with
    | .Call (.Attribute o' m apos) [a'] [] cpos => (m == ("append" : Str)) && (apos.endLine == cpos.line) && notCall o' && notStar a' && chkE S N fb sc o o' && chkE S N fb sc a a'
    | _ => false
  | fb, sc, .isE i c, e => match e with
    | .Call (.Name x _) [.Name y _, .Name z _] [] _ => !fb.calm && (x == ("isinstance" : Str)) && freeB S sc x && decide (N[i]? = some y) && visB sc y && nameOk y && (c == z) && gloB sc z && S.exs.contains c
    | _ => false
  | _, _, .eLim _, _ => false
  | fb, sc, .join o a, e => match e with
    | .Call (.Attribute o' m apos) [a'] [] cpos => (m == ("join" : Str)) && (apos.endLine == cpos.line) && notCall o' && notStar a' && chkE S N fb sc o o' && chkE S N fb sc a a'
    | _ => false
def chkEs (S : Sg) (N : List Str) : Md → Scope → IEs → List Expr → Bool
  | _, _, .nil, es => es.isEmpty
  | fb, sc, .cons a as, es => match es with
    | e :: es => chkE S N fb sc a e && notStar e && chkEs S N fb sc as es
    | [] => false
/-- what a loop walks; tg: its target -/
def chkI (S : Sg) (N : List Str) : Md → Scope → II → Expr → Expr → Bool
  | fb, sc, .of a, _, e => chkE S N fb sc a e && notSet e
  | fb, sc, .rng1 a, _, e => match e with
    | .Call (.Name x _) [a'] [] _ => fb.calm && (x == ("range" : Str)) && freeB S sc x && chkE S N fb sc a a' && notStar a'
    | _ => false
  | fb, sc, .rng2 a b, _, e => match e with
    | .Call (.Name x _) [a', b'] [] _ => fb.calm && (x == ("range" : Str)) && freeB S sc x && chkE S N fb sc a a' && notStar a' && chkE S N fb sc b b' && notStar b'
    | _ => false
  | fb, sc, .zip2 a b, tg, e => match tg, e with
    | .Tuple _ _ _, .Call (.Name x _) [a', b'] [] _ => fb.calm && (x == ("zip" : Str)) && freeB S sc x && chkE S N fb sc a a' && notStar a' && chkE S N fb sc b b' && notStar b'
    | _, _ => false
  | fb, sc, .enum a, tg, e => match tg, e with
    | .Tuple _ _ _, .Call (.Name x _) [a'] [] _ => fb.calm && (x == ("enumerate" : Str)) && freeB S sc x && chkE S N fb sc a a' && notStar a'
    | _, _ => false
end
/-- name = [..] goes with the comprehension's own frame -/
def lcSet (sc : Scope) (y : Str) (py : Pos) (e : Expr) : Bool := match e with
  | .ListComp _ _ scope pos => decide (sc.names.lookup y = some .local) && (py.line == pos.line) && !(scope.names.any fun (n, k) => n == y && (k == .local || k == .cell))
  | _ => false
/-- the text of a raise -/
def chkRaise (S : Sg) (sc : Scope) (c msg : Str) : Expr → Bool
  | .Call (.Name x _) [.Constant (.str m) _ _] [] _ => (x == c) && gloB sc x && S.exs.contains c && (m == msg)
  | _ => false
/-- the pair's stores are made in their order: the tuple is made and taken apart -/
def swNone (sc : Scope) : Expr → Expr → Bool
  | .Tuple ts _ _, .Tuple vs _ _ =>
    let line := (ts.head?.map (·.pos.line)).getD 0
    let names := ts.filterMap fun
      | .Name id pos => if sc.names.lookup id == some .local && pos.line == line then some id else none
      | _ => none
    (!(ts.length == 2 || ts.length == 3) || vs.length != ts.length) || (vs.any (fun | .Starred .. => true | _ => false) || ((names.length != ts.length || names.eraseDups.length != names.length) || vs.all (foldedForSure 8)))
  | _, _ => false
mutual
def chkS (S : Sg) (N : List Str) (md : Md) (sc : Scope) : IS → Stmt → Bool
  | .set t e, st => match st with
    | .Assign [t'] e' _ => chkT N md sc t t' && chkE S N md sc e e' && (match t' with
      | .Name y py => lcSet sc y py e' || notComp e'
      | .Tuple .. => notComp e' && (notTup e' || swNone sc t' e')
      | _ => false)
    | _ => false
  | .seti o i e, st => match st with
    | .Assign [.Subscript o' i' _] e' _ => chkE S N md sc o o' && chkE S N md sc i i' && chkE S N md sc e e' && notSlice i' && notComp e'
    | _ => false
  | .par i j a b, st => match st with
    | .Assign [.Tuple [.Name x px, .Name y py] _ _] (.Tuple [a', b'] _ _) _ => md.calm && decide (N[i]? = some x) && decide (N[j]? = some y) && decide (i ≠ j) && decide (sc.names.lookup x = some .local) && decide (sc.names.lookup y = some .local) &&
        (px.line == py.line) && !(([a', b'] : List Expr).all (foldedForSure 8)) && !(([a', b'] : List Expr).all (constantsAlone 8)) && chkE S N md sc a a' && chkE S N md sc b b' && notStar a' && notStar b'
    | _ => false
  | .aug i op e, st => match st with
    | .AugAssign (.Name x _) op' e' _ => decide (N[i]? = some x) && locB md sc x && decide (op = op') && augOk op && chkE S N md sc e e'
    | _ => false
  | .exp e, st => match st with
    | .Expr e' _ => chkE S N md sc e e' && notComp e'
    | _ => false
  | .ite c a b, st => match st with
    | .If c' a' b' _ => chkE S N md sc c c' && chkSs S N md sc a a' && chkSs S N md sc b b'
    | _ => false
  | .ret e, st => match st with
    | .Return (some e') _ => chkE S N md sc e e'
    | _ => false
  | .retN, st => match st with
    | .Return none _ => true
    | _ => false
  | .for_ t it b, st => match st with
    | .For t' it' b' [] _ => md.calm && chkT N md sc t t' && chkI S N md sc it t' it' && chkSs S N md sc b b'
    | _ => false
  | .while_ _ c b, st => match st with
    | .While c' b' [] _ => chkE S N md sc c c' && chkSs S N md sc b b'
    | _ => false
  | .raise c msg, st => match st with
    | .Raise (some e) none _ => md.calm && chkRaise S sc c msg e
    | _ => false
  | .raiseL _ _, _ => false
  | .pass, st => match st with
    | .Pass _ => true
    | _ => false
  | .brk, st => match st with
    | .Break _ => true
    | _ => false
  | .cont, st => match st with
    | .Continue _ => true
    | _ => false
def chkSs (S : Sg) (N : List Str) (md : Md) (sc : Scope) : ISs → List Stmt → Bool
  | .nil, ss => ss.isEmpty
  | .cons a as, ss => match ss with
    | s :: ss => chkS S N md sc a s && chkSs S N md sc as ss
    | [] => false
end
/-! ### defs -/
/-- the names of its parameters, nothing else in their list -/
def argNames : Arguments → Option (List Str)
  | ⟨[], as, none, [], [], none, []⟩ => if as.length ≤ 9 then some (as.map (·.arg)) else none
  | _ => none
def scopeB (N : List Str) (np : Nat) (sc : Scope) : Bool :=
  decide (sc.kind = .function) && !sc.isCoroutine && !sc.isGenerator && decide N.Nodup && decide ((N.take np).length = np) &&
    (N.take np).all (fun x => decide (sc.names.lookup x = some .local) || decide (sc.names.lookup x = some .cell)) && sc.names.all (fun y => !decide (y.2 = .free))
theorem scope_of {N : List Str} {np : Nat} {sc : Scope} (h : scopeB N np sc = true) : FnScope N (N.take np) sc ∧ (N.take np).length = np := by
  unfold scopeB at h
  simp only [Bool.and_eq_true, decide_eq_true_eq, Bool.not_eq_true', List.all_eq_true, Bool.or_eq_true, decide_eq_false_iff_not] at h
  obtain ⟨⟨⟨⟨⟨⟨h1, h2⟩, h3⟩, h4⟩, h5⟩, h6⟩, h7⟩ := h
  exact ⟨⟨h1, h2, h3, h4, by rw [h5], h6, h7⟩, h5⟩
/-- a plain def; lam: are there lambdas in it -/
def chkDef (S : Sg) (lam : Bool) (d : DefS) (params : Arguments) (body : List Stmt) (sc : Scope) : Bool :=
  scopeB d.N d.np sc && decide (argNames params = some (d.N.take d.np)) && chkSs S d.N ⟨fun _ => true, lam, none⟩ sc d.body body
/-- def x(a): try: a() / except q as e: suite; return rest -/
def chkErr (S : Sg) (d : DefX) (params : Arguments) (body : List Stmt) (sc : Scope) : Bool := match body with
  | [.Try [.Expr (.Call (.Name a _) [] [] _) _] [.ExceptHandler (some (.Name q _)) (some e) (b0 :: suite) _] [] [] _, .Return (some (.Constant (.str r) _ _)) _] =>
    scopeB d.N 1 sc && decide (argNames params = some [a]) && decide (d.N[0]? = some a) && visB sc a && nameOk a && (q == d.q) && (q == S.q) && gloB sc q && decide (d.N[d.ei]? = some e) && decide (sc.names.lookup e = some .local) && decide (1 ≤ d.ei) && (r == d.rest) &&
      chkSs S d.N ⟨fun _ => true, false, some d.ei⟩ sc d.suite (b0 :: suite)
  | _ => false
end Mini

set_option maxHeartbeats 4000000
/-! Mini, part Hot: lists walked while an exception is handled. -/
namespace MiniHot
open PySem PySem.Spec PyProof.Rows L2 HotX L2H
section
variable {prog : Program} {w : World} {A : Around} {E : Value → Shared → Prop} {s : Shared}
theorem next_list_end_hot {it l x1 : Addr} {i : Nat} {items} {Q : Option Value → Shared → Prop} (hot : HotAt A x1 s.heap) (hne : x1 ≠ it)
    (hit : s.heap.IsListIter it l i) (hl : s.heap.IsList l items) (hx : items[i]? = none)
    (hQ : ∀ h', Heap.ExtBut it s.heap h' → Q none { s with heap := h' }) : wpAny (model prog w) A (pyNext (.ref it)) Q E s := by
  obtain ⟨o, ho, hc, hd⟩ := id hit
  obtain ⟨ol, hol, _, nl, hdl⟩ := hl
  obtain ⟨hh, o1, vs1, h1, d1, c1⟩ := hot
  unfold pyNext
  refine wpAny_bind (wpAny_attempt (wpAny_callSpecial?_slot (name := Str.ofString "__next__") hit.typeIs slot_listiter_next
    (wpAny_call_entry slot_listiter_next hit.typeIs entry_listiter_next ?_ (args_listiter_next _))))
  show wpAny _ _ (field (.ref it) 0 >>= _) _ _ s
  refine wpAny_bind (wpAny_field ho hd (x := .ref l) rfl ?_)
  show wpAny _ _ (if (Value.ref l == Value.none) = true then _ else _) _ _ s
  rw [if_neg (show ¬ ((Value.ref l == Value.none) = true) from Bool.false_ne_true)]
  show wpAny _ _ (field (.ref it) 1 >>= _) _ _ s
  refine wpAny_bind (wpAny_field ho hd (x := .int i 0) rfl ?_)
  show wpAny _ _ (seqItems? (.ref l) >>= _) _ _ s
  refine wpAny_bind (wpAny_seqItems hol hdl ?_)
  simp only [Int.toNat_natCast, hx]
  refine wpAny_bind (wpAny_rule (wpAny_bind (wpAny_setField ho hd (by simp) ?_)))
  have h1' : (s.heap.update it (Obj.mapFields (·.setIfInBounds 0 Value.none))).get? x1 = some o1 := by
    rw [Heap.get?_update_other _ _ (Ne.symm hne)]; exact h1
  show wpAny _ _ (newExc (.type "StopIteration") [] >>= _) _ _ _
  refine wpAny_bind ?_
  simp only [newExc, newTuple]
  refine wpAny_bind (wpAny_newObj_type ?_ (by size_fits))
  refine wpAny_bind (m := firstArgMember _ _) (wpAny_of_eq (a := Value.none) (by first | rfl | (simp only [firstArgMember]; rfl)) ?_)
  refine wpAny_newObj_type ?_ (by size_fits)
  refine raiseNew_hot ⟨hh, o1, vs1, Heap.get?_push_of_some _ (Heap.get?_push_of_some _ h1'), d1, c1⟩ (Nat.ne_of_lt (Heap.lt_size (Heap.get?_push_of_some _ h1'))) (Heap.get?_push_size _ rfl) rfl (by first | (simp; done) | (simp; omega) | (simp only [Array.size_append]; simp; omega)) ?_
  refine wpAny_bind (wpAny_isInstance (T := "StopIteration") (b := true) ⟨_, Heap.get?_update_self _ (Heap.get?_push_size _ rfl) rfl, rfl⟩ isSubtype_stop ?_)
  refine wpAny_pure (hQ _ fun b o hb e => ?_)
  have e2 : (s.heap.update it (Obj.mapFields (·.setIfInBounds 0 Value.none))).get? b = some o := by
    rw [Heap.get?_update_other _ _ (Ne.symm hb)]; exact e
  rw [Heap.get?_update_other _ _ (Nat.ne_of_gt (Heap.lt_size (Heap.get?_push_of_some _ e2)))]
  exact Heap.get?_push_of_some _ (Heap.get?_push_of_some _ e2)
theorem next_tup_end_hot {it t x1 : Addr} {i : Nat} {items : Array Value} {Q : Option Value → Shared → Prop} (hot : HotAt A x1 s.heap) (hne : x1 ≠ it)
    (hit : s.heap.IsTupleIter it t i) (ht : s.heap.IsTuple t items) (hx : items[i]? = none)
    (hQ : ∀ h', Heap.ExtBut it s.heap h' → Q none { s with heap := h' }) : wpAny (model prog w) A (pyNext (.ref it)) Q E s := by
  obtain ⟨o, ho, hc, hd⟩ := id hit
  obtain ⟨ol, hol, _, nl, hdl⟩ := ht
  obtain ⟨hh, o1, vs1, h1, d1, c1⟩ := hot
  unfold pyNext
  refine wpAny_bind (wpAny_attempt (wpAny_callSpecial?_slot (name := Str.ofString "__next__") hit.typeIs F.slot_tuple_iterator_next
    (wpAny_call_entry F.slot_tuple_iterator_next hit.typeIs F.entry_tuple_iterator_next ?_ (F.args_tuple_iterator_next_1 _))))
  show wpAny _ _ (field (.ref it) 0 >>= _) _ _ s
  refine wpAny_bind (wpAny_field ho hd (x := .ref t) rfl ?_)
  show wpAny _ _ (if (Value.ref t == Value.none) = true then _ else _) _ _ s
  rw [if_neg (show ¬ ((Value.ref t == Value.none) = true) from Bool.false_ne_true)]
  show wpAny _ _ (field (.ref it) 1 >>= _) _ _ s
  refine wpAny_bind (wpAny_field ho hd (x := .int i 0) rfl ?_)
  show wpAny _ _ (seqItems? (.ref t) >>= _) _ _ s
  refine wpAny_bind (wpAny_seqItems hol hdl ?_)
  simp only [Int.toNat_natCast, hx]
  refine wpAny_bind (wpAny_rule (wpAny_bind (wpAny_setField ho hd (by simp) ?_)))
  have h1' : (s.heap.update it (Obj.mapFields (·.setIfInBounds 0 Value.none))).get? x1 = some o1 := by
    rw [Heap.get?_update_other _ _ (Ne.symm hne)]; exact h1
  show wpAny _ _ (newExc (.type "StopIteration") [] >>= _) _ _ _
  refine wpAny_bind ?_
  simp only [newExc, newTuple]
  refine wpAny_bind (wpAny_newObj_type ?_ (by size_fits))
  refine wpAny_bind (m := firstArgMember _ _) (wpAny_of_eq (a := Value.none) (by first | rfl | (simp only [firstArgMember]; rfl)) ?_)
  refine wpAny_newObj_type ?_ (by size_fits)
  refine raiseNew_hot ⟨hh, o1, vs1, Heap.get?_push_of_some _ (Heap.get?_push_of_some _ h1'), d1, c1⟩ (Nat.ne_of_lt (Heap.lt_size (Heap.get?_push_of_some _ h1'))) (Heap.get?_push_size _ rfl) rfl (by first | (simp; done) | (simp; omega) | (simp only [Array.size_append]; simp; omega)) ?_
  refine wpAny_bind (wpAny_isInstance (T := "StopIteration") (b := true) ⟨_, Heap.get?_update_self _ (Heap.get?_push_size _ rfl) rfl, rfl⟩ isSubtype_stop ?_)
  refine wpAny_pure (hQ _ fun b o hb e => ?_)
  have e2 : (s.heap.update it (Obj.mapFields (·.setIfInBounds 0 Value.none))).get? b = some o := by
    rw [Heap.get?_update_other _ _ (Ne.symm hb)]; exact e
  rw [Heap.get?_update_other _ _ (Nat.ne_of_gt (Heap.lt_size (Heap.get?_push_of_some _ e2)))]
  exact Heap.get?_push_of_some _ (Heap.get?_push_of_some _ e2)
theorem unpackItems_tuple_hot {t x1 : Addr} {items : Array Value} {Q : List Value → Shared → Prop} (hot : HotAt A x1 s.heap) (ht : IsTup s.heap t items)
    (hQ : ∀ h', Heap.ExtBut s.heap.objs.size s.heap h' → Q items.toList { s with heap := h' }) : wpAny (model prog w) A (unpackItems (.ref t) items.size none) Q E s := by
  have hlt : t ≠ s.heap.objs.size := by obtain ⟨o, ho, _⟩ := ht; exact Nat.ne_of_lt (Heap.lt_size ho)
  obtain ⟨hh, o1, vs1, h1, d1, c1⟩ := hot
  have hx1 : x1 ≠ s.heap.objs.size := Nat.ne_of_lt (Heap.lt_size h1)
  unfold unpackItems
  refine wpAny_bind ?_
  · unfold notIterableAtAll
    refine wpAny_bind (wpAny_specialOf ht.typeIs slot_tuple_iter.lookup ?_)
    refine wpAny_pure ?_
    simp only [Bool.false_eq_true, if_false]
    refine wpAny_bind (wpAny_holding (iter_tuple ht ?_))
    refine wpAny_bind (wpAny_holding (draw_tuple hlt items.size 0 _ _ ⟨_, Heap.get?_push_size _ rfl, rfl, rfl⟩ (ht.push _) (by omega) fun h₁ hit₁ hs₁ => ?_))
    have hall : List.take items.size (List.drop 0 items.toList) = items.toList := by
      rw [List.drop_zero]; exact List.take_of_length_le (by simp)
    rw [hall]
    rw [if_neg (by simp)]
    have ht₁ : IsTup h₁ t items := (ht.push _).extBut hs₁.extBut hlt
    have hx₁ : h₁.get? x1 = some o1 := hs₁.extBut x1 o1 hx1 (Heap.get?_push_of_some _ h1)
    refine wpAny_bind (wpAny_holding (next_tup_end_hot ⟨hh, o1, vs1, hx₁, d1, c1⟩ hx1 hit₁ ht₁ (by simp) fun h₂ he₂ => ?_))
    simp only [Option.isSome_none, Bool.false_eq_true, if_false]
    refine wpAny_pure (hQ h₂ fun b o hb e => he₂ b o hb (hs₁.extBut b o hb (Heap.get?_push_of_some _ e)))
theorem items_list_hot {l x1 : Addr} {items : Array Value} {Q : List Value → Shared → Prop} (hot : HotAt A x1 s.heap) (hl : s.heap.IsList l items)
    (hQ : ∀ h', Heap.ExtBut s.heap.objs.size s.heap h' → Q items.toList { s with heap := h' }) : wpAny (model prog w) A (unpackItems (.ref l) items.size none) Q E s := by
  obtain ⟨hh, o1, vs1, h1, d1, c1⟩ := hot
  have ne : l ≠ s.heap.objs.size := by
    obtain ⟨o, ho, _⟩ := hl
    exact Nat.ne_of_lt (Heap.lt_size ho)
  have nx : x1 ≠ s.heap.objs.size := Nat.ne_of_lt (Heap.lt_size h1)
  unfold unpackItems
  refine wpAny_bind ?_
  · unfold notIterableAtAll
    refine wpAny_bind (wpAny_specialOf hl.typeIs slot_list_iter.lookup (wpAny_pure ?_))
    simp only [Bool.false_eq_true, if_false]
    refine wpAny_bind (wpAny_holding (wpAny_pyIter_list hl (wpAny_bind (wpAny_holding (PySem.W.kun_draw ne items.size 0 _ _ ⟨_, Heap.get?_push_size _ rfl, rfl, rfl⟩ (hl.push _) (by omega) fun h₁ it₁ b₁ => ?_)))))
    have all : List.take items.size (List.drop 0 items.toList) = items.toList := by
      rw [List.drop_zero]; exact List.take_of_length_le (by simp)
    rw [all, if_neg (by simp)]
    have l₁ : h₁.IsList l items := (hl.push _).extBut b₁.extBut ne
    have x₁ : h₁.get? x1 = some o1 := b₁.extBut x1 o1 nx (Heap.get?_push_of_some _ h1)
    refine wpAny_bind (wpAny_holding (next_list_end_hot ⟨hh, o1, vs1, x₁, d1, c1⟩ nx it₁ l₁ (by simp) fun h₂ e₂ => ?_))
    simp only [Option.isSome_none, Bool.false_eq_true, if_false]
    exact wpAny_pure (hQ h₂ fun b o hb e => e₂ b o hb (b₁.extBut b o hb (Heap.get?_push_of_some _ e)))
theorem assign_Tuple_tuple_hot {env : Env} {elts : List Expr} {x0} {pos : Pos} {t x1 : Addr} {items : Array Value} {Q : Unit → Shared → Prop} (hot : HotAt A x1 s.heap) (ht : IsTup s.heap t items)
    (hn : (assignEach elts env).length = items.size) (hstar : (assignEach elts env).findIdx? (·.1) = none)
    (h : ∀ h', Heap.ExtBut s.heap.objs.size s.heap h' → wpAny (model prog w) A (assignInOrder ((assignEach elts env).map (·.2)) items.toList) Q E { s with heap := h' }) :
    wpAny (model prog w) A (assign (.Tuple elts x0 pos) env (.ref t)) Q E s := by
  rw [PyProof.Rows.assign_Tuple]
  refine wpAny_bind (wpAny_standAt ?_)
  unfold unpack
  rw [hn, hstar]
  exact wpAny_bind (wpAny_holding (unpackItems_tuple_hot hot ht h))
end
section
variable {X : Cx} {pos : Pos}
theorem HotC.at2 {pins : List (Addr × Obj)} {σ : L2.St} {H : Hp} {s : Shared} (c : HotC X) (I : Inv X pins σ H s) : ∃ x1, HotAt X.A x1 s.heap ∧ ∀ b, FpOk X pins H b → x1 ≠ b := by
  obtain ⟨p, ⟨hh, v1, e1, c1⟩, hp⟩ := c
  exact ⟨p.1, ⟨hh, p.2, v1, (I.pin p (List.mem_append_left _ hp)).1, e1, c1⟩, fun b hb => hb.2.2.2.2.2 p (List.mem_append_left _ hp)⟩
theorem pg_tupH {es : List Expr} {k : Nat} {t : TGs} {n : Nat} (hc : HotC X) (h : PGs X es t)
    (hn : (assignEach es X.env).length = n := by rfl) (hst : (assignEach es X.env).findIdx? (·.1) = none := by rfl) : PG X (.Tuple es k pos) (gTup X.K n t) := by
  refine ⟨fun pins s σ H v u Q I r hw => ?_⟩
  obtain ⟨a, xs, e1, hq, hl, hw⟩ := hw
  subst e1
  cases r
  obtain ⟨its, rv, ht, hz⟩ := I.tuple hq
  obtain ⟨x1, hot⟩ := hc.at I
  refine assign_Tuple_tuple_hot hot ht (by simp [hn, ← hl, rv.length]) hst fun h' hx => ?_
  have I1 : Inv X pins σ H { s with heap := h' } := I.kept (t' := s.toks) fun b o e => hx b o (Nat.ne_of_lt (Heap.lt_size e)) e
  exact h.run pins _ σ H xs _ Q I1 (by simpa using rv) hw
theorem pg_lstH {es : List Expr} {k : Nat} {t : TGs} {n : Nat} (hc : HotC X) (h : PGs X es t)
    (hn : (assignEach es X.env).length = n := by rfl) (hst : (assignEach es X.env).findIdx? (·.1) = none := by rfl) : PG X (.Tuple es k pos) (gLst X.K n t) := by
  refine ⟨fun pins s σ H v u Q I r hw => ?_⟩
  obtain ⟨a, xs, rfl, hq, hl, hw⟩ := hw
  cases r
  obtain ⟨its, rv, pl, hz⟩ := I.list hq
  obtain ⟨x1, hot⟩ := hc.at I
  have hsz : (assignEach es X.env).length = its.toArray.size := by simp [hn, ← hl, rv.length]
  rw [PyProof.Rows.assign_Tuple]
  refine wpAny_bind (wpAny_standAt ?_)
  unfold unpack
  rw [hsz, hst]
  refine wpAny_bind (wpAny_holding (items_list_hot hot pl.isList fun h' hx => ?_))
  have J : Inv X pins σ H { s with heap := h' } := I.kept (t' := s.toks) fun b o e => hx b o (Nat.ne_of_lt (Heap.lt_size e)) e
  exact h.run pins _ σ H xs _ Q J (by simpa using rv) hw
end
theorem turn_tupleH {P : Program} {w : World} {K : PySem.W.Frag} {tg : Expr} (a it : Addr) : TurnH P w K tg (Itt K a) [it] it (fun i h => h.IsTupleIter it a i) where
  mem := List.mem_singleton.mpr rfl
  obj := fun i h st b hb => by
    rw [List.mem_singleton.mp hb]
    obtain ⟨o, e, c, d⟩ := st
    exact ⟨o, e, fun v z => by rw [d] at z; cases z⟩
  keep := fun i h h' st k => st.at fun o e => k it (List.mem_singleton.mpr rfl) o e
  item := by
    intro X hP hw hK hc i pins s σ H E I hf st hg
    subst hP hw hK
    obtain ⟨xs, x, hq, hx⟩ := hg
    obtain ⟨its, rv, p, hz⟩ := I.tuple hq
    obtain ⟨u, hu, ru⟩ := rv.get hx
    obtain ⟨f0, f1, f2, f3, f4, f5⟩ := hf it (List.mem_singleton.mpr rfl)
    refine wpAny_pyNext_tuple_item st (show s.heap.IsTuple a its.toArray from p) (x := u) (by simpa using hu) fun h' st' sb => ?_
    have J : Inv X pins σ H { s with heap := h' } := I.turned (t' := s.toks) (fun b o hb e => (sb.2 b hb).trans e) f0 f1 f3 f4 f5
    obtain ⟨o, e, c, d⟩ := id st'
    exact ⟨u, rfl, go_of (s := { s with heap := h' }) e c d (by decide) ⟨x, H, J, ru, ⟨rfl, fun ys hy => by rw [I.tuple_inj hy hq]; exact hx⟩, st', fun b hb => (hf b hb).1⟩⟩
  done := by
    intro X hP hw hK hc i pins s σ H E I hf st hg
    subst hP hw hK
    obtain ⟨xs, hq, hx⟩ := hg
    obtain ⟨its, rv, p, hz⟩ := I.tuple hq
    obtain ⟨x1, hot, hb1⟩ := HotC.at2 hc I
    have ne := hb1 it (hf it (List.mem_singleton.mpr rfl))
    obtain ⟨f0, f1, f2, f3, f4, f5⟩ := hf it (List.mem_singleton.mpr rfl)
    have hl := rv.length
    exact next_tup_end_hot hot ne st (show s.heap.IsTuple a its.toArray from p) (by simp; omega) fun h' eb => ⟨rfl, I.turned (t' := s.toks) (fun b o hb e => eb b o hb e) f0 f1 f3 f4 f5⟩
  self := fun _ _ _ _ _ st h => wpAny_pyIter_tupleiter st h
theorem turn_listH {P : Program} {w : World} {K : PySem.W.Frag} {tg : Expr} (a it : Addr) : TurnH P w K tg (Itl K a) [it] it (fun i h => h.IsListIter it a i) where
  mem := by simp
  obj := fun i h st b hb => by
    have e : b = it := by simpa using hb
    subst e
    obtain ⟨o, e, c, d⟩ := st
    exact ⟨o, e, fun v z => by rw [d] at z; cases z⟩
  keep := fun i h h' st k => st.at fun o e => k it (by simp) o e
  item := by
    intro X hP hw hK hc i pins s σ H E I hf st hg
    subst hP hw hK
    obtain ⟨xs, x, hq, hx⟩ := hg
    obtain ⟨its, rv, p, hz⟩ := I.list hq
    obtain ⟨u, hu, ru⟩ := rv.get hx
    obtain ⟨f0, f1, f2, f3, f4, f5⟩ := hf it (by simp)
    refine wpAny_pyNext_list_item st p.isList (x := u) (by simpa using hu) fun h' st' sb => ?_
    have I1 : Inv X pins σ H { s with heap := h' } := I.turned (t' := s.toks) (fun b o hb e => (sb.2 b hb).trans e) f0 f1 f3 f4 f5
    obtain ⟨o, e, c, d⟩ := id st'
    exact ⟨u, rfl, go_of (s := { s with heap := h' }) e c d (by decide) ⟨x, H, I1, ru, ⟨rfl, fun ys hy => by rw [I.list_inj hy hq]; exact hx⟩, st', fun b hb => (hf b hb).1⟩⟩
  done := by
    intro X hP hw hK hc i pins s σ H E I hf st hg
    subst hP hw hK
    obtain ⟨xs, hq, hx⟩ := hg
    obtain ⟨its, rv, p, hz⟩ := I.list hq
    obtain ⟨x1, hot, hb1⟩ := HotC.at2 hc I
    have hne := hb1 it (hf it (by simp))
    obtain ⟨f0, f1, f2, f3, f4, f5⟩ := hf it (by simp)
    have hl := rv.length
    exact next_list_end_hot hot hne st p.isList (by simp; omega) fun h' eb => ⟨rfl, I.turned (t' := s.toks) (fun b o hb e => eb b o hb e) f0 f1 f3 f4 f5⟩
  self := fun _ _ _ _ _ st h => wpAny_pyIter_listiter st h
section
variable {X : Cx} {tg : Expr}
theorem pi_listH {l : Expr} {tl : TE} (hl : PE X l tl) : PIH X tg l (iList X.K tl) := by
  refine ⟨fun pins s σ H R I h => ?_⟩
  refine thn (hl.run pins s σ H _ I h) fun v s1 ⟨x, H1, I1, r1, q1⟩ => ?_
  obtain ⟨a, e, ⟨xs, hq⟩, q⟩ := q1
  subst e
  cases r1
  obtain ⟨its, rv, p, hz⟩ := I1.list hq
  refine wpAny_pyIter_list p.isList ?_
  refine ⟨s1.heap.objs.size, [s1.heap.objs.size], _, _, H1, rfl, I1.kept (t' := s1.toks) fun b o e => Heap.get?_push_of_some _ e, turn_listH a _, ⟨_, Heap.get?_push_size _ rfl, rfl, rfl⟩, fun b hb => ?_, q⟩
  have e : b = s1.heap.objs.size := by simpa using hb
  subst e
  exact I1.fpOk (Nat.le_refl _) (I1.hok.fresh (Nat.le_refl _))
theorem pi_tupH {l : Expr} {tl : TE} (hl : PE X l tl) : PIH X tg l (iTup X.K tl) := by
  refine ⟨fun pins s σ H R I h => ?_⟩
  refine thn (hl.run pins s σ H _ I h) fun v s1 ⟨x, H1, I1, r1, a, e, ⟨xs, hq⟩, q⟩ => ?_
  subst e
  cases r1
  obtain ⟨its, rv, p, hz⟩ := I1.tuple hq
  refine wpAny_pyIter_tuple (show s1.heap.IsTuple a its.toArray from p) ?_
  refine ⟨s1.heap.objs.size, [s1.heap.objs.size], _, _, H1, rfl, I1.kept (t' := s1.toks) fun b o e => Heap.get?_push_of_some _ e, turn_tupleH a _, ⟨_, Heap.get?_push_size _ rfl, rfl, rfl⟩, fun b hb => ?_, q⟩
  rw [List.mem_singleton.mp hb]
  exact I1.fpOk (Nat.le_refl _) (I1.hok.fresh (Nat.le_refl _))
/-- the block's context, the handled exception kept in sight -/
abbrev blkH (X : Cx) (p : Addr × Obj) (s : Shared) (H : Hp) (scope : Scope) (cenv : Env) (fp : List Addr) : Cx := { X.blk s H scope cenv fp with pn := [p] }
theorem blkH_start {pins : List (Addr × Obj)} {σ : L2.St} {H : Hp} {s : Shared} {p : Addr × Obj} {scope : Scope} {own : List (Str × Nat)} {fp : List Addr} (I : Inv X pins σ H s) (hp : p ∈ X.pn) (ok : BlkOk X.N X.env.scope scope own) (hN : X.N.Nodup) (hfp : ∀ b ∈ fp, FpOk X pins H b ∧ b < s.heap.objs.size) :
    Inv (blkH X p s H scope (compEnvC scope (cellsFrom (s.heap.objs.size + 1) scope.names (cloFrom X.env.cells scope.names [])) s.heap.objs.size X.env) fp) [] (wipe σ (own.map (·.2))) H { s with heap := pushCells (s.heap.push { cls := .type "dict", data := .dict #[] }) scope.names } := by
  have J := block_start I ok hN hfp
  obtain ⟨e1, e2, e3, e4, e5⟩ := I.pin p (List.mem_append_left _ hp)
  have hlt := Heap.lt_size e1
  obtain ⟨a1, a2, a3, a4, a5, a6, a7, a8, a9, a10, a11⟩ := J
  refine ⟨?_, a2, a3, a4, a5, a6, a7, a8, fun q hq => ?_, a10, a11⟩
  · obtain ⟨b1, b2, b3, b4, b5, b6, b7, b8, b9, b10, b11, b12, b13, b14, b15, b16, b17, b18⟩ := a1
    exact ⟨b1, b2, b3, b4, b5, b6, b7, b8, b9, b10, b11, b12, b13, b14, b15, b16, b17, b18⟩
  · have eq : q = p := by simpa using (show q ∈ [p] ++ ([] : List (Addr × Obj)) from hq)
    rw [eq]
    exact ⟨pushCells_keeps _ _ _ _ (Heap.get?_push_of_some _ e1), e2, Nat.ne_of_lt hlt, fun m => (List.mem_cons.mp (I.stkSub _ m)).elim e3 e4, e5⟩
/-- the loop of the comprehension's block, the handled exception in sight: s3 is the state behind the making of the new list D -/
theorem lc_loop {pins : List (Addr × Obj)} {s3 s4 : Shared} {σ : L2.St} {H3 : Hp} {Q : VK} {elt tgt iter : Expr} {ifs : List Expr} {scope : Scope} {own : List Nat} {pos : Pos} {g : TG} {tt : TT} {te : TE} {R : Result → Shared → Prop} {p : Addr × Obj} {it D : Addr} {fp : List Addr} {tn : Nat → Heap → Prop} {J : It} {ce : Env} {W : Nat → Nat → Hp → Prop} {m0 : Nat}
    (hot : Hot1 X.A p) (I3 : Inv X pins σ H3 s3) (I4 : Inv (blkH X p s3 H3 scope ce fp) [] (wipe σ own) H3 s4) (T : TurnH X.prog X.w X.K tgt J fp it tn) (st4 : tn 0 s4.heap) (f3 : ∀ b ∈ fp, FpOk X pins H3 b) (hp3 : ∀ b ∈ fp, p.1 ≠ b) (cL : ce.locals = s3.heap.objs.size)
    (pg : PG (blkH X p s3 H3 scope ce fp) tgt g) (pt : PTs (blkH X p s3 H3 scope ce fp) ifs tt) (pe : PE (blkH X p s3 H3 scope ce fp) elt te) (w0 : W 0 m0 H3)
    (turn : ∀ i m H, W i m H → (J.stop i H ∧ Q (.ref D) H) ∨ (J.go i H ∧ ∃ Nx : Hp → Prop, (∀ H', Nx H' → ∃ m', m' < m ∧ W (i + 1) m' H') ∧ ∀ x H', J.yld i H x H' → g x (wipe σ own) H' fun σ2 H2 => wipe σ2 own = wipe σ own ∧ tt σ2 H2 fun b H3 =>
      if b = true then te σ2 H3 fun y H4 => ∃ acc, H4 D = some (.lst acc) ∧ acc.length < sizeLine ∧ Nx (upd H4 D (.lst (acc ++ [y]))) else Nx H3))
    (fin : ∀ s' m H', Inv X pins σ H' s' → Q (.ref D) H' → s'.heap.Ns s3.heap.objs.size m → FpOk X pins H' s3.heap.objs.size → R (.ok .next) s') :
    codeAny (model X.prog X.w) X.A (.compLoop (.ListComp elt [⟨tgt, iter, ifs, 0⟩] scope pos) 0 (.ref it) (.ref D) ce) R s4 := by
  have hc : HotC (blkH X p s3 H3 scope ce fp) := ⟨p, hot, List.mem_singleton.mpr rfl⟩
  -- the iterator's objects, in the block
  have stat : ∀ {σ' : L2.St} {H' : Hp} {s' : Shared}, Inv (blkH X p s3 H3 scope ce fp) [] σ' H' s' → (∀ b ∈ fp, H' b = none) → ∀ b ∈ fp, FpOk (blkH X p s3 H3 scope ce fp) [] H' b := fun {σ' H' s'} K hn b hb => by
    refine ⟨hn b hb, (K.ok.exf b hb).1, K.ok.exfs b hb, .inl hb, (K.ok.exf b hb).2, fun q hq => ?_⟩
    have eq : q = p := by simpa using (show q ∈ [p] ++ ([] : List (Addr × Obj)) from hq)
    rw [eq]
    exact hp3 b hb
  refine compLoop_any (fun n s' => ∃ i H', Inv (blkH X p s3 H3 scope ce fp) [] (wipe σ own) H' s' ∧ tn i s'.heap ∧ (∀ b ∈ fp, H' b = none) ∧ W i n H') ?_ m0 ⟨0, H3, I4, st4, fun b hb => (f3 b hb).1, w0⟩
  rintro n s5 ⟨i, H5, I5, st5, n5, w5⟩
  rcases turn i n H5 w5 with ⟨stop, qq⟩ | ⟨go, Nx, hNx, step⟩
  · refine thnF (T.done (blkH X p s3 H3 scope ce fp) rfl rfl rfl hc i [] s5 _ H5 (fun _ _ => False) I5 (stat I5 n5) st5 stop) fun r s6 ⟨hr, I6⟩ => ?_
    subst hr
    have I7 : Inv X pins σ H5 s6 := I3.call' (ch := fp) I6.os I6.base I6.hok I6.bare fun b hb => ⟨(f3 b hb).2.2.2.1, (f3 b hb).2.1, (f3 b hb).2.2.2.2.1, (f3 b hb).2.2.2.2.2⟩
    have nC : H5 s3.heap.objs.size = none := by
      rw [← cL]
      exact I6.free
    obtain ⟨m, hn, _⟩ := I6.loc
    exact fin s6 m H5 I7 qq (by rw [← cL]; exact hn) (I3.fpOk (Nat.le_refl _) nC)
  · refine thnF (T.item (blkH X p s3 H3 scope ce fp) rfl rfl rfl hc i [] s5 _ H5 (fun _ _ => False) I5 (stat I5 n5) st5 go) fun r s6 ⟨u, hr, h6⟩ => ?_
    subst hr
    refine thnF h6 fun _ s7 ⟨x, H7, I7, r7, y7, st7, n7⟩ => ?_
    refine thnF (pg.run _ s7 _ H7 x u _ (I7.pinned (stat I7 n7) (T.obj _ _ st7)) r7 (step x H7 y7)) fun _ s8 ⟨σ8, H8, I8, hw8, q8⟩ => ?_
    refine thnF (pt.run _ s8 σ8 H8 _ I8 q8) fun b s9 ⟨H9, I9, q9⟩ => ?_
    have again : ∀ {s' : Shared} {H' : Hp}, Inv (blkH X p s3 H3 scope ce fp) ([] ++ pinsAt fp s7.heap) σ8 H' s' → Nx H' → ∃ m, m < n ∧ ∃ i H', Inv (blkH X p s3 H3 scope ce fp) [] (wipe σ own) H' s' ∧ tn i s'.heap ∧ (∀ b ∈ fp, H' b = none) ∧ W i m H' := fun {s' H'} K nx => by
      obtain ⟨m', hm, w'⟩ := hNx H' nx
      have same : ∀ b ∈ fp, ∀ o, s7.heap.get? b = some o → s'.heap.get? b = some o ∧ H' b = none := fun b hb o e =>
        have z := K.pin (b, o) (List.mem_append_right _ (List.mem_append_right _ (mem_pinsAt hb e)))
        ⟨z.1, z.2.1⟩
      refine ⟨m', hm, i + 1, H', (K.unpinned (pins := [])).weak (by rw [← hw8, wipe_length]) (fun j v e => ?_), T.keep _ _ _ st7 fun b hb o e => (same b hb o e).1, fun b hb => ?_, w'⟩
      · rw [← hw8] at e
        exact (wipe_some e).1
      · obtain ⟨o, e, _⟩ := T.obj _ _ st7 b hb
        exact (same b hb o e).2
    cases b with
    | false =>
      simp only [Bool.false_eq_true, if_false] at q9 ⊢
      exact again I9 q9
    | true =>
      simp only [if_true] at q9 ⊢
      refine thnF (pe.run _ s9 σ8 H9 _ I9 q9) fun z s10 ⟨yv, H10, I10, r10, acc, hD10, hz10, nx⟩ => ?_
      exact app_ok (X := blkH X p s3 H3 scope ce fp) I10 hD10 hz10 r10 fun s11 I11 => again I11 nx
/-- a list comprehension within an except suite; what follows is told of the state behind it -/
theorem lc_hot {pins : List (Addr × Obj)} {s : Shared} {σ : L2.St} {H : Hp} {Q : VK} {elt tgt iter : Expr} {ifs : List Expr} {scope : Scope} {own : List (Str × Nat)} {pos pos' : Pos} {wi : TI} {g : TG} {tt : TT} {te : TE} {use : Option (Value → Sem Unit)} {Qf : Value → Shared → Prop} {p : Addr × Obj}
    (hot : Hot1 X.A p) (hp : p ∈ X.pn) (hN : X.N.Nodup) (I : Inv X pins σ H s) (hi : PIH X tgt iter wi) (ok : BlkOk X.N X.env.scope scope own)
    (parts : ∀ (s : Shared) (H : Hp) (C : Addr) (cl : List (Str × Addr)) (fp : List Addr), PG (blkH X p s H scope (compEnvC scope cl C X.env) fp) tgt g ∧ PTs (blkH X p s H scope (compEnvC scope cl C X.env) fp) ifs tt ∧ PE (blkH X p s H scope (compEnvC scope cl C X.env) fp) elt te)
    (hs : ∀ x, foldedSetIterable iter X.env x = pure x) (h : tLc wi g tt te (own.map (·.2)) σ H Q)
    (fin : ∀ D C s' m H', Inv X pins σ H' s' → Q (.ref D) H' → s'.heap.Ns C m → FpOk X pins H' C → compPost (model X.prog X.w) X.A X.xe use Qf (.ref D) C (.ok .next) s') :
    wpAny (model X.prog X.w) X.A (comprehension (.ListComp elt [⟨tgt, iter, ifs, 0⟩] scope pos) scope X.env pos' (newList []) false (eval iter X.env) use) Qf X.xe s := by
  have has : ∀ y ∈ scope.names, y.2 = .free → ∃ c, X.env.cells.lookup y.1 = some c := fun y hy e => (ok.free y hy e).elim (fun k => I.ok.has _ (.inl k)) fun k => I.ok.has _ (.inr k)
  refine wpAny_comprehension_free (use := use) rfl hs (closure_ok has) ok.kind (fun y hy e => by rw [ok.uniq y hy, e]) (thn (hi.run pins s σ H _ I h) fun xv s1 hx => thn hx fun itv s2 h2 => ?_)
  obtain ⟨it, fp, tn, J, H2, e0, I2, T, st2, f2, q⟩ := h2
  subst e0
  refine wpAny_newObj_type (newEnv_comp ?_) (by show 0 ≤ sizeLine; decide)
  have hDn : H2 s2.heap.objs.size = none := I2.hok.fresh (Nat.le_refl _)
  obtain ⟨W, ⟨m0, w0⟩, turn⟩ := q _ hDn
  have sz : ∀ b ∈ fp, b < s2.heap.objs.size := fun b hb => by
    obtain ⟨o, e, _⟩ := T.obj _ _ st2 b hb
    exact Heap.lt_size e
  generalize hs3 : ({ s2 with heap := s2.heap.push { cls := .type "list", data := .seq ([] : List Value).toArray } } : Shared) = s3
  have get3 : ∀ b o, s2.heap.get? b = some o → s3.heap.get? b = some o := fun b o e => by
    rw [← hs3]; exact Heap.get?_push_of_some _ e
  have I3 : Inv X pins σ (upd H2 s2.heap.objs.size (.lst [])) s3 := by
    rw [← hs3]
    exact I2.laid (t' := s2.toks) (fun b o e => Heap.get?_push_of_some _ e) (Nat.le_refl _) ⟨Nat.zero_le _, [], 0, .nil, Heap.get?_push_size _ rfl⟩
  have f3 : ∀ b ∈ fp, FpOk X pins (upd H2 s2.heap.objs.size (.lst [])) b ∧ b < s3.heap.objs.size := fun b hb => by
    obtain ⟨o, e, _⟩ := T.obj _ _ st2 b hb
    refine ⟨⟨?_, (f2 b hb).2⟩, Heap.lt_size (get3 b o e)⟩
    rw [upd_ne (Nat.ne_of_lt (sz b hb))]
    exact (f2 b hb).1
  have I4 := blkH_start I3 hp ok hN f3
  obtain ⟨pg, pt, pe⟩ := parts s3 (upd H2 s2.heap.objs.size (.lst [])) s3.heap.objs.size (cellsFrom (s3.heap.objs.size + 1) scope.names (cloFrom X.env.cells scope.names [])) fp
  have st3 : tn 0 s3.heap := T.keep _ _ _ st2 fun b _ o e => get3 b o e
  have st4 : tn 0 ({ s3 with heap := pushCells (s3.heap.push { cls := .type "dict", data := .dict #[] }) scope.names } : Shared).heap := T.keep _ _ _ st3 fun b _ o e => pushCells_keeps _ _ _ _ (Heap.get?_push_of_some _ e)
  have loop := lc_loop (Q := Q) (iter := iter) (pos := pos) (R := compPost (model X.prog X.w) X.A X.xe use Qf (.ref s2.heap.objs.size) s3.heap.objs.size) hot I3 I4 T st4 (fun b hb => (f3 b hb).1) (fun b hb => (f2 b hb).2.2.2.2.2 p (List.mem_append_left _ hp)) rfl pg pt pe w0 turn (fun s' m H' a b c d => fin _ _ s' m H' a b c d)
  exact codeAny_compStart_list loop (T.self X.A 0 _ _ _ st4 loop)
/-- as a value -/
theorem pe_lcH {elt tgt iter : Expr} {ifs : List Expr} {scope : Scope} {own : List (Str × Nat)} {pos : Pos} {wi : TI} {g : TG} {tt : TT} {te : TE} {p : Addr × Obj} (hot : Hot1 X.A p) (hp : p ∈ X.pn) (hN : X.N.Nodup) (hi : PIH X tgt iter wi) (ok : BlkOk X.N X.env.scope scope own)
    (parts : ∀ (s : Shared) (H : Hp) (C : Addr) (cl : List (Str × Addr)) (fp : List Addr), PG (blkH X p s H scope (compEnvC scope cl C X.env) fp) tgt g ∧ PTs (blkH X p s H scope (compEnvC scope cl C X.env) fp) ifs tt ∧ PE (blkH X p s H scope (compEnvC scope cl C X.env) fp) elt te)
    (hs : ∀ x, foldedSetIterable iter X.env x = pure x) : PE X (.ListComp elt [⟨tgt, iter, ifs, 0⟩] scope pos) (tLc wi g tt te (own.map (·.2))) := by
  refine ⟨fun pins s σ H Q I h => ?_⟩
  rw [eval_ListComp]
  refine lc_hot hot hp hN I hi ok parts hs h fun D C s' m H' I' q hn ⟨f0, f1, f2, f3, f4, f5⟩ => ⟨m, hn, fun h'' sb => ?_⟩
  exact ⟨.ref D, H', I'.turned (t' := s'.toks) (fun b o hb e => (sb.2 b hb).trans e) f0 f1 f3 f4 f5, rfl, q⟩
/-- name = [..] on one line, the name a local -/
theorem ps_setLcH {i : Nat} {y : Str} {py : Pos} {elt tgt iter : Expr} {ifs : List Expr} {scope : Scope} {own : List (Str × Nat)} {pos spos : Pos} {wi : TI} {g : TG} {tt : TT} {te : TE} {p : Addr × Obj} (hot : Hot1 X.A p) (hp : p ∈ X.pn) (hN : X.N.Nodup) (hy : X.N[i]? = some y) (hyl : X.env.scope.names.lookup y = some .local)
    (hsw : swapsWith (.ListComp elt [⟨tgt, iter, ifs, 0⟩] scope pos) (some (.Name y py)) spos.line X.env = pure true) (hi : PIH X tgt iter wi) (ok : BlkOk X.N X.env.scope scope own)
    (parts : ∀ (s : Shared) (H : Hp) (C : Addr) (cl : List (Str × Addr)) (fp : List Addr), PG (blkH X p s H scope (compEnvC scope cl C X.env) fp) tgt g ∧ PTs (blkH X p s H scope (compEnvC scope cl C X.env) fp) ifs tt ∧ PE (blkH X p s H scope (compEnvC scope cl C X.env) fp) elt te)
    (hs : ∀ x, foldedSetIterable iter X.env x = pure x) : PS X (.Assign [.Name y py] (.ListComp elt [⟨tgt, iter, ifs, 0⟩] scope pos) spos) (tAsg (tLc wi g tt te (own.map (·.2))) (gName i)) := by
  refine ⟨fun pins s σ H D I h => ?_⟩
  rw [exec_Assign_Name_used _ _ _ _ hsw]
  refine wpAny_bind (wpAny_standAt (wpAny_bind ?_))
  have h : tLc wi g tt te (own.map (·.2)) σ H (fun x H1 => gName i x σ H1 D.nx) := h
  refine wpAny_bind (thn (lc_hot (use := some (assign (.Name y py) X.env)) (pos' := firstIterPos [⟨tgt, iter, ifs, 0⟩] pos) (Qf := fun _ s' => SP X pins D .next s') hot hp hN I hi ok parts hs h fun L C s' m H' I' q hn ⟨f0, f1, f2, f3, f4, f5⟩ => ?_) fun _ s' hq => wpAny_pure (wpAny_pure hq))
  refine wpAny_assign_Name (store_ok2 (v := V.ref L) I' hN hy (.inl hyl) rfl (fun s2 I2 ⟨a, sb, ha⟩ => ?_) (.inr hyl))
  have ne : C ≠ a := ha.elim (fun z => by rw [z]; exact f1) fun z e => f4 y a z e.symm
  exact ⟨m, hn.sameBut sb ne, fun h3 sb3 => ⟨_, H', I2.turned (t' := s2.toks) (fun b o hb e => (sb3.2 b hb).trans e) f0 f1 f3 f4 f5, q⟩⟩
end
end MiniHot

set_option maxHeartbeats 4000000
/-! Mini, part E: expressions. -/
namespace Mini
open PySem PySem.Spec PyProof.Rows L2 LamX

/-- an exception class of the text -/
structure ExF (K : PySem.W.Frag) (mg : Str → Option Value) (c : Str) (C : Addr) : Prop where
  gl : mg c = some (.ref C)
  ex : PySem.W.excIn K C [.type "ValueError", .type "Exception", .type "BaseException", .type "object"] "ValueError.__new__" = true
  kp : PySem.W.keepIn K (.ref C) = true
  sb : PySem.W.subIn K (.ref C) (.type "BaseException") = some true
  ty : PySem.W.typeIn K (.ref C) = some (.type "type")
/-- what the module holds -/
structure MF (S : Sg) (G : En) (K : PySem.W.Frag) (mg : Str → Option Value) : Prop where
  fr : ∀ x ∈ S.fr, mg x = none
  mb : ∀ p ∈ S.mb, mg p.1 = some (.builtin p.2)
  gi : ∀ p ∈ S.gi, ∃ t, mg p.1 = some (.int p.2 t)
  exs : G.exs = S.exs
  ex : ∀ c ∈ S.exs, ExF K mg c (G.ca c)
  exc : ∀ c ∈ S.exs, ExcC K (G.ca c)
  exq : ∀ c ∈ S.exs, PySem.W.exmOne K (.ref (G.ca c)) (.ref (G.ca S.q)) = some true
  mq : mg S.q = some (.ref (G.ca S.q))
  kit : ∀ c ∈ S.exs, ∀ t ∈ S.exs, PySem.W.kitOne K (.ref (G.ca c)) (.ref (G.ca t)) = some (c == t)
  dfn : ∀ j, G.dfn j → ∃ d, S.Ds[j]? = some (.std d)
  fnd : ∀ (j : Nat) (d : DefS), S.Ds[j]? = some (.std d) → G.dfn j
  df : ∀ (j : Nat) (d : DefS), S.Ds[j]? = some (.std d) → mg d.name = some (.ref (G.ad j)) ∧ PySem.W.keepIn K (.ref (G.ad j)) = true
/-- a def's promise -/
def spD (K : PySem.W.Frag) (G : En) (f : List U → Mem → R U) (np : Nat) : Sp := fun vs H Q E =>
  ∃ us μ α β, HR K G μ α β H ∧ VRs K G α β H us vs ∧ us.length = np ∧ PostV K G β (fun cls d _ H' => E cls d H') (f us μ) α H Q
structure FF (S : Sg) (G : En) (P : Program) (w : World) (K : PySem.W.Frag) (mg : Str → Option Value) (base : Heap) (k : Nat) : Prop where
  fn : ∀ (j : Nat) (d : DefS), S.Ds[j]? = some (.std d) → ∃ fd, FnOk P w K mg base (L2N.CX P w) (3 * k) (G.ad j) fd (d.N.take d.np) (spD K G (callD S.Ds k j) d.np) ∧ Binds K fd (d.N.take d.np) []
/-- the context of the exception that is handled -/
structure HotF (S : Sg) (G : En) (C : Orc) (X : Cx) (p : Addr × Obj) (c : Exn) : Prop where
  ea : G.ea = some p.1
  pn : p ∈ X.pn
  hot : L2H.Hot1 X.A p
  orc : C = noOrc (some c)
  cls : c.cls ∈ S.exs
  zc : c.lim = none → Zc (.ref (G.ca c.cls)) none p.2
  fld : ∃ vs, p.2.data = .fields vs
def withE (G : En) (a : Addr) : En := { G with ea := some a }
abbrev WF : WX := fun _ _ _ _ => False
/-! what statements make -/
def FS (K : PySem.W.Frag) (G : En) (β : List Addr) (D : Ends) (f : Fl) (α : List Addr) (H : Hp) : Prop := match f with
  | .next ρ => ∀ σ, SR K G α β H ρ σ → D.nx σ H
  | .ret u => ∀ v, VR K G α β H u v → D.rt v H
  | .brk ρ => ∀ σ, SR K G α β H ρ σ → D.bk σ H
  | .cont ρ => ∀ σ, SR K G α β H ρ σ → D.ct σ H
abbrev PostS (K : PySem.W.Frag) (G : En) (β : List Addr) (W : WX) (r : R Fl) (α : List Addr) (H : Hp) (D : Ends) : Prop := PostG K G β W r α H (fun f _ α' H' => FS K G β D f α' H')
def tS (K : PySem.W.Frag) (G : En) (W : WX) (d : Slots → Mem → R Fl) : TS := fun D σ H =>
  ∃ ρ μ α β, SR K G α β H ρ σ ∧ HR K G μ α β H ∧ PostS K G β W (d ρ μ) α H D
/-- the suite of a def that catches says what the small language says -/
def SuS (S : Sg) (G : En) (K : PySem.W.Frag) (mg : Str → Option Value) (base : Heap) (P : Program) (w : World) (d : DefX) (sc : Scope) (ad : Addr) (suite : List Stmt) : Prop :=
  ∀ (cdv : Value) (A : Around) (outer : List Env) (s : Shared) (H : Hp) (a : Addr) (oe : Obj) (cls : Value) (dd : Option Addr) (pn : List (Addr × Obj)) (c : Exn), A.units + 3 + 65 < cLine → L2N.Zn cls dd oe → (∃ vs, oe.data = .fields vs) →
    c.cls ∈ S.exs → cls = .ref (G.ca c.cls) → (c.lim = none → dd = none) →
    PSs ((cxOf C8.CX0 P w K mg base d.N d.name sc ad cdv A outer s H C8.E0).nox.suite a ((a, oe) :: pn)) suite (tS K (withE G a) WF (denSs (noOrc (some c)) d.suite))
/-- a def that catches -/
structure ErF (S : Sg) (G : En) (K : PySem.W.Frag) (mg : Str → Option Value) (base : Heap) (P : Program) (w : World) (j : Nat) (d : DefX) : Prop where
  gl : mg d.name = some (.ref (G.ad j))
  kp : PySem.W.keepIn K (.ref (G.ad j)) = true
  ei : 1 ≤ d.ei
  fd : ∃ (params : Arguments) (sc : Scope) (fd : FuncData) (a e : Str) (b0 : Stmt) (suite : List Stmt) (p1 p2 p3 p4 p5 p6 p7 p8 : Pos) (kk : Nat),
    FunD K d.name d.name params [.Try [.Expr (.Call (.Name a p1) [] [] p2) p3] [.ExceptHandler (some (.Name S.q p4)) (some e) (b0 :: suite) p5] [] [] p6, .Return (some (.Constant (.str d.rest) kk p7)) p8] sc [] [] (G.ad j) fd ∧
      Binds K fd [a] [] ∧ FnScope d.N [a] sc ∧ d.N[0]? = some a ∧ Vis sc a ∧ nameOk a = true ∧ gloB sc S.q = true ∧ d.N[d.ei]? = some e ∧ sc.names.lookup e = some .local ∧ SuS S G K mg base P w d sc (G.ad j) (b0 :: suite)
/-- what the making of lambdas asks -/
structure LmF (S : Sg) (G : En) (k : Nat) (X : Cx) : Prop where
  er : ∀ (j : Nat) (d : DefX), S.Ds[j]? = some (.err d) → ErF S G X.K X.mg X.base X.prog X.w j d
  room : Room (3 * k + 2) X.A
  ea : G.ea = none
  tab : ∃ c P, X.env.code = .ref c ∧ TabB X.base X.mg c P ∧ (P, X.env.qual ++ "<lambda>") ∈ G.T ∧ ∀ p ∈ G.T, p.1 = P → p.2 = X.env.qual ++ "<lambda>"
/-- where a piece of code runs -/
structure GX (S : Sg) (G : En) (k : Nat) (C : Orc) (N : List Str) (sc : Scope) (fb : Md) (W : WX) (X : Cx) : Prop where
  mf : MF S G X.K X.mg
  ff : FF S G X.prog X.w X.K X.mg X.base k
  hN : X.N = N
  nd : X.N.Nodup
  hs : X.env.scope = sc
  kd : sc.kind = .function
  calm : fb.calm = true → X.calm = true ∧ C = orc S.Ds k ∧ Room (3 * k) X.A
  hot : fb.calm = false → ∃ p c, HotF S G C X p c
  lm : fb.lam = true → LmF S G k X
  hfn : ∀ x, fb.cell x = true → X.fn x = true
  tk : L2N.Takes X W
  un : X.A.units + 65 < cLine
  po : PassesOwn (model X.prog X.w) X.A X.env X.xe

/-! ### readings -/
def tE (K : PySem.W.Frag) (G : En) (W : WX) (d : Slots → Mem → R U) : TE := fun σ H Q =>
  ∃ ρ μ α β, SR K G α β H ρ σ ∧ HR K G μ α β H ∧ PostV K G β W (d ρ μ) α H Q
def tT (K : PySem.W.Frag) (G : En) (W : WX) (d : Slots → Mem → R Bool) : TT := fun σ H Q =>
  ∃ ρ μ α β, SR K G α β H ρ σ ∧ HR K G μ α β H ∧ PostG K G β W (d ρ μ) α H (fun b _ _ H' => Q b H')
def tA (K : PySem.W.Frag) (G : En) (W : WX) (d : Slots → Mem → R (List U)) : TA := fun σ H Q =>
  ∃ ρ μ α β, SR K G α β H ρ σ ∧ HR K G μ α β H ∧ PostG K G β W (d ρ μ) α H (fun us _ α' H' => ∀ vs, VRs K G α' β H' us vs → Q vs H')
def ME (X : Cx) (G : En) (W : WX) (d : Slots → Mem → R U) (e : Expr) : Prop := PE X e (tE X.K G W d)
def MT (X : Cx) (G : En) (W : WX) (d : Slots → Mem → R U) (e : Expr) : Prop := PT X e (tT X.K G W (fun ρ μ => truR (d ρ μ)))
def MA (X : Cx) (G : En) (W : WX) (d : Slots → Mem → R (List U)) (es : List Expr) : Prop := PA X es (tA X.K G W d)

theorem pe_imp {X : Cx} {e : Expr} {t t' : TE} (h : PE X e t) (i : ∀ σ H Q, t' σ H Q → t σ H Q) : PE X e t' := ⟨fun pins s σ H Q I q => h.run pins s σ H Q I (i σ H Q q)⟩
theorem pt_imp {X : Cx} {e : Expr} {t t' : TT} (h : PT X e t) (i : ∀ σ H Q, t' σ H Q → t σ H Q) : PT X e t' := ⟨fun pins s σ H Q I q => h.run pins s σ H Q I (i σ H Q q)⟩
theorem pa_imp {X : Cx} {e : List Expr} {t t' : TA} (h : PA X e t) (i : ∀ σ H Q, t' σ H Q → t σ H Q) : PA X e t' := ⟨fun pos pins s σ H Q I q => h.run pos pins s σ H Q I (i σ H Q q)⟩

section
variable {S : Sg} {G : En} {k : Nat} {C : Orc} {N : List Str} {sc : Scope} {fb : Md} {W : WX} {X : Cx} {K : PySem.W.Frag}
/-- a value's truth -/
theorem truth_tru {μ : Mem} {α β : List Addr} {H : Hp} {u : U} {v : V} {b : Bool} (hr : HR K G μ α β H) (r : VR K G α β H u v) (h : truth μ u = some b) : TruV K v H b := by
  cases u with
  | non => cases r; cases h; rfl
  | bl _ => cases r; cases h; rfl
  | int _ => cases r; cases h; rfl
  | str _ => cases h
  | fn _ => cases h
  | exn => cases h
  | tup xs =>
    obtain ⟨a, vs, rfl, h1, h2⟩ := r
    cases h
    refine .inr (.inl ⟨vs, h1.seq, ?_⟩)
    cases xs with
    | nil => cases h2; rfl
    | cons x xs => obtain ⟨_, _, rfl, _⟩ := h2; rfl
  | lst xs =>
    obtain ⟨a, vs, rfl, h1, h2⟩ := r
    cases h
    refine .inl ⟨vs, SqL.of h1.1, ?_⟩
    cases xs with
    | nil => cases h2; rfl
    | cons x xs => obtain ⟨_, _, rfl, _⟩ := h2; rfl
  | rol xs =>
    obtain ⟨a, vs, rfl, h1, h2⟩ := r
    cases h
    refine .inl ⟨vs, h1.seq, ?_⟩
    cases xs with
    | nil => cases h2; rfl
    | cons x xs => obtain ⟨_, _, rfl, _⟩ := h2; rfl
  | ref n =>
    obtain ⟨a, rfl, h1⟩ := r
    have h : (match μ[n]? with | some xs => some (!xs.isEmpty) | none => none) = some b := h
    cases q : μ[n]? with
    | none => rw [q] at h; cases h
    | some xs =>
      rw [q] at h
      cases h
      obtain ⟨a', vs, e1, e2, e3⟩ := hr.at_ n xs q
      rw [h1] at e1
      cases e1
      refine .inl ⟨vs, SqL.of e2, ?_⟩
      cases xs with
      | nil => cases e3; rfl
      | cons x xs => obtain ⟨_, _, rfl, _⟩ := e3; rfl
theorem truR_post {α β : List Addr} {H : Hp} {r : R U} {F : Bool → Mem → List Addr → Hp → Prop} (h : PostG K G β W (truR r) α H F) :
    PostG K G β W r α H (fun u μ' α' H' => ∃ b, truth μ' u = some b ∧ PostG K G β W (.ok b μ') α' H' F) := by
  refine PostG.mono (PostG.bind h) fun u μ' α' H' hr e q => ?_
  have q : PostG K G β W (match truth μ' u with | some b => .ok b μ' | none => .bad) α' H' F := q
  cases e2 : truth μ' u with
  | none => rw [e2] at q; exact q.elim
  | some b => rw [e2] at q; exact ⟨b, rfl, q⟩
/-- an expression of no special form as a test -/
theorem mt_gen {d : Slots → Mem → R U} {e : Expr} (h : ME X G W d e) (he : ∀ whole, isTrue e X.env whole = (do let v ← whole; standAt e.pos; holding [v] (truthy v))) : MT X G W d e := by
  refine pt_imp (pt_truth h he) fun σ H Q ⟨ρ, μ, α, β, hs, hr, q⟩ => ?_
  refine ⟨ρ, μ, α, β, hs, hr, PostG.mono (truR_post q) fun u μ' α' H' hr' e' ⟨b, hb, q⟩ v rv => ⟨b, truth_tru hr' rv hb, PostG.ok hr' q⟩⟩

/-! ### leaves -/
theorem m_lit {u : U} {v : V} {e : Expr} (h : PE X e (tC v)) (r : ∀ α β H, VR X.K G α β H u v) : ME X G W (fun _ μ => .ok u μ) e :=
  pe_imp h fun σ H Q ⟨ρ, μ, α, β, hs, hr, q⟩ => PostV.val q hr (r _ _ _)
theorem vis_of {x : Str} (h : visB sc x = true) (hs : X.env.scope = sc) : Vis X.env.scope x := by
  rw [hs]
  unfold visB at h
  cases q : sc.names.lookup x with
  | none => rw [q] at h; cases h
  | some k => cases k <;> first | exact .inl q | exact .inr (.inl q) | exact .inr (.inr q) | (rw [q] at h; cases h)
theorem ok_debug {x : Str} (h : nameOk x = true) : (x == ("__debug__" : Str)) = false := by
  unfold nameOk at h
  simp only [Bool.and_eq_true, Bool.not_eq_true'] at h
  exact h.1.1
theorem ok_cd {x : Str} (h : nameOk x = true) : (x == ("__classdict__" : Str)) = false := by
  unfold nameOk at h
  simp only [Bool.and_eq_true, Bool.not_eq_true'] at h
  exact h.1.2
theorem ok_name {x : Str} (h : nameOk x = true) : x ≠ "__name__" := by
  unfold nameOk at h
  simp only [Bool.and_eq_true, Bool.not_eq_true'] at h
  exact fun e => by rw [e] at h; simp at h
theorem glo_of {x : Str} (h : gloB sc x = true) (hs : X.env.scope = sc) : Gl X x ∧ nameOk x = true := by
  unfold gloB at h
  simp only [Bool.and_eq_true, decide_eq_true_eq] at h
  exact ⟨by show X.env.scope.names.lookup x = _; rw [hs]; exact h.1, h.2⟩
theorem m_var {i : Nat} {x : Str} {pos : Pos} (hN : X.N[i]? = some x) (hv : Vis X.env.scope x) (hn : nameOk x = true) :
    ME X G W (fun ρ μ => match ρ[i]? with | some (some u) => .ok u μ | _ => .bad) (.Name x pos) := by
  refine pe_imp (pe_var hN hv (ok_debug hn) (ok_cd hn)) fun σ H Q ⟨ρ, μ, α, β, hs, hr, q⟩ => ?_
  cases h : ρ[i]? with
  | none => simp only [h] at q; exact q.elim
  | some o =>
    cases o with
    | none => simp only [h] at q; exact q.elim
    | some u =>
      simp only [h] at q
      obtain ⟨v, h1, h2⟩ := hs.2 i u h
      exact ⟨v, h1, PostV.val q hr h2⟩
/-! ### operators -/
theorem m_op2 {da db : Slots → Mem → R U} {f : U → U → Mem → R U} {e : Expr} {r : R2}
    (h : PE X e (tOp r (tE X.K G W da) (tE X.K G W db))) (hr : ∀ x y H Q, rM X.K G W f x y H Q → r x y H Q) :
    ME X G W (fun ρ μ => (da ρ μ).bind fun u μ1 => (db ρ μ1).bind fun v μ2 => f u v μ2) e := by
  refine pe_imp h fun σ H Q ⟨ρ, μ, α, β, hs, hm, q⟩ => ?_
  refine ⟨ρ, μ, α, β, hs, hm, PostG.mono (PostG.bind q) fun u μ1 α1 H1 hm1 e1 q1 x rx => ?_⟩
  refine ⟨ρ, μ1, α1, β, hs.mono e1, hm1, PostG.mono (PostG.bind q1) fun w μ2 α2 H2 hm2 e2 q2 y ry => ?_⟩
  exact hr _ _ _ _ ⟨u, w, μ2, α2, β, hm2, rx.mono e2, ry, q2⟩
theorem t_op2 {da db : Slots → Mem → R U} {op : CmpOp} {e : Expr}
    (h : PT X e (tTest (tOp (rM X.K G W (cmpR op)) (tE X.K G W da) (tE X.K G W db)))) :
    MT X G W (fun ρ μ => (da ρ μ).bind fun u μ1 => (db ρ μ1).bind fun v μ2 => cmpR op u v μ2) e := by
  refine pt_imp h fun σ H Q ⟨ρ, μ, α, β, hs, hm, q⟩ => ?_
  have q := truR_post q
  refine ⟨ρ, μ, α, β, hs, hm, PostG.mono (PostG.bind q) fun u μ1 α1 H1 hm1 e1 q1 x rx => ?_⟩
  refine ⟨ρ, μ1, α1, β, hs.mono e1, hm1, PostG.mono (PostG.bind q1) fun w μ2 α2 H2 hm2 e2 q2 y ry => ?_⟩
  refine ⟨u, w, μ2, α2, β, hm2, rx.mono e2, ry, ?_⟩
  unfold cmpR at q2 ⊢
  cases hk : cmpD op u w μ2 with
  | none => rw [hk] at q2; exact q2.elim
  | some c =>
    rw [hk] at q2
    intro H' α' hr' e' v rv
    cases rv
    obtain ⟨b, hb, q3⟩ := q2 H' α' hr' e'
    cases hb
    exact ⟨c, rfl, PostG.ok hr' q3⟩
theorem m_neg {da : Slots → Mem → R U} {e : Expr} {pos : Pos} (h : ME X G W da e) : ME X G W (fun ρ μ => (da ρ μ).bind negD) (.UnaryOp .USub e pos) := by
  refine pe_imp (pe_un (o_neg (G := G) (W := W)) h) fun σ H Q ⟨ρ, μ, α, β, hs, hm, q⟩ => ?_
  exact ⟨ρ, μ, α, β, hs, hm, PostG.mono (PostG.bind q) fun u μ1 α1 H1 hm1 e1 q1 x rx => ⟨u, μ1, α1, β, hm1, rx, q1⟩⟩
theorem t_not {da : Slots → Mem → R U} {e : Expr} {pos : Pos} (h : MT X G W da e) : MT X G W (fun ρ μ => (truR (da ρ μ)).bind fun k μ1 => .ok (.bl (!k)) μ1) (.UnaryOp .Not e pos) := by
  refine pt_imp (pt_not h) fun σ H Q ⟨ρ, μ, α, β, hs, hm, q⟩ => ?_
  refine ⟨ρ, μ, α, β, hs, hm, PostG.mono (PostG.bind (truR_post q)) fun b μ1 α1 H1 hm1 e1 q1 => ?_⟩
  obtain ⟨c, hc, q2⟩ := q1 H1 α1 hm1 (Ext.refl _ _)
  cases hc
  exact PostG.ok hm1 q2
theorem m_not {da : Slots → Mem → R U} {e : Expr} {pos : Pos} (h : ME X G W da e) : ME X G W (fun ρ μ => (truR (da ρ μ)).bind fun k μ1 => .ok (.bl (!k)) μ1) (.UnaryOp .Not e pos) := by
  refine pe_imp (pe_notT h) fun σ H Q ⟨ρ, μ, α, β, hs, hm, q⟩ => ?_
  refine ⟨ρ, μ, α, β, hs, hm, PostG.mono (truR_post (PostG.bind q)) fun u μ1 α1 H1 hm1 e1 q1 x rx => ?_⟩
  obtain ⟨b, hb, q2⟩ := q1
  exact ⟨b, truth_tru hm1 rx hb, PostV.val (PostG.ok hm1 q2) hm1 rfl⟩
theorem m_chain {da db dc : Slots → Mem → R U} {o1 o2 : CmpOp} {a b c : Expr} {pos : Pos} (hu : X.A.units + 65 < cLine) (ha : ME X G W da a) (hb : ME X G W db b) (hc : ME X G W dc c) (hm : lastMarks [o1, o2] [b, c] = false) :
    ME X G W (fun ρ μ => (da ρ μ).bind fun u μ1 => (db ρ μ1).bind fun v μ2 => match cmpD o1 u v μ2 with
      | some true => (dc ρ μ2).bind fun z μ3 => cmpR o2 v z μ3
      | some false => .ok (.bl false) μ2
      | none => .bad) (.Compare a [o1, o2] [b, c] pos) := by
  refine pe_imp (pe_chain (o_cmp (G := G) (W := W) hu o1) (o_cmp (G := G) (W := W) hu o2) ha hb hc hm) fun σ H Q ⟨ρ, μ, α, β, hs, hm, q⟩ => ?_
  refine ⟨ρ, μ, α, β, hs, hm, PostG.mono (PostG.bind q) fun u μ1 α1 H1 hm1 e1 q1 x rx => ?_⟩
  refine ⟨ρ, μ1, α1, β, hs.mono e1, hm1, PostG.mono (PostG.bind q1) fun w μ2 α2 H2 hm2 e2 q2 y ry => ?_⟩
  refine ⟨u, w, μ2, α2, β, hm2, rx.mono e2, ry, ?_⟩
  unfold cmpR
  cases hk : cmpD o1 u w μ2 with
  | none => simp only [hk] at q2; exact q2.elim
  | some k =>
    simp only [hk] at q2
    intro H' α' hr' e' v rv
    cases rv
    cases k with
    | false => exact ⟨false, rfl, iteF (PostV.val (PostG.rebase e' q2) hr' rfl)⟩
    | true =>
      refine ⟨true, rfl, iteT ⟨ρ, μ2, α', β, (hs.mono e1).mono (e2.trans e'), hr', PostG.mono (PostG.bind (PostG.rebase e' q2)) fun z μ3 α3 H3 hm3 e3 q3 zv rz => ?_⟩⟩
      exact ⟨w, z, μ3, α3, β, hm3, ry.mono (e'.trans e3), rz, q3⟩
theorem t_chain {da db dc : Slots → Mem → R U} {o1 o2 : CmpOp} {a b c : Expr} {pos : Pos} (hu : X.A.units + 65 < cLine) (ha : ME X G W da a) (hb : ME X G W db b) (hc : ME X G W dc c) (hm : lastMarks [o1, o2] [b, c] = false) :
    MT X G W (fun ρ μ => (da ρ μ).bind fun u μ1 => (db ρ μ1).bind fun v μ2 => match cmpD o1 u v μ2 with
      | some true => (dc ρ μ2).bind fun z μ3 => cmpR o2 v z μ3
      | some false => .ok (.bl false) μ2
      | none => .bad) (.Compare a [o1, o2] [b, c] pos) := by
  refine pt_imp (pt_chain (o_cmp (G := G) (W := W) hu o1) (o_cmp (G := G) (W := W) hu o2) ha hb hc hm) fun σ H Q ⟨ρ, μ, α, β, hs, hm, q⟩ => ?_
  have q := truR_post q
  refine ⟨ρ, μ, α, β, hs, hm, PostG.mono (PostG.bind q) fun u μ1 α1 H1 hm1 e1 q1 x rx => ?_⟩
  refine ⟨ρ, μ1, α1, β, hs.mono e1, hm1, PostG.mono (PostG.bind q1) fun w μ2 α2 H2 hm2 e2 q2 y ry => ?_⟩
  refine ⟨u, w, μ2, α2, β, hm2, rx.mono e2, ry, ?_⟩
  unfold cmpR
  cases hk : cmpD o1 u w μ2 with
  | none => simp only [hk] at q2; exact q2.elim
  | some k =>
    simp only [hk] at q2
    intro H' α' hr' e' v rv
    cases rv
    have q2 := PostG.rebase e' q2
    cases k with
    | false =>
      refine ⟨false, rfl, iteF ?_⟩
      obtain ⟨b, hb, q3⟩ := PostG.ok hr' q2
      cases hb
      exact ⟨false, rfl, PostG.ok hr' q3⟩
    | true =>
      refine ⟨true, rfl, iteT ⟨ρ, μ2, α', β, (hs.mono e1).mono (e2.trans e'), hr', PostG.mono (PostG.bind q2) fun z μ3 α3 H3 hm3 e3 q3 zv rz => ?_⟩⟩
      refine ⟨w, z, μ3, α3, β, hm3, ry.mono (e'.trans e3), rz, ?_⟩
      unfold cmpR at q3
      cases hk : cmpD o2 w z μ3 with
      | none => rw [hk] at q3; exact q3.elim
      | some c =>
        rw [hk] at q3
        dsimp only
        rw [hk]
        intro H5 α5 hr5 e5 v5 rv5
        cases rv5
        obtain ⟨b, hb, q5⟩ := q3 H5 α5 hr5 e5
        cases hb
        exact ⟨c, rfl, PostG.ok hr5 q5⟩
/-! ### and, or -/
theorem bo_rest {op : BoolOp} {b : Expr} {rest : List Expr} {pos : Pos} {t : TE} (h : PE X (boRest op b rest pos) t) : PE X (.BoolOp op (b :: rest) pos) t := by
  cases rest with
  | nil => exact pe_one h
  | cons c r => exact h
theorem m_and {da db : Slots → Mem → R U} {a b : Expr} {rest : List Expr} {pos : Pos} (ha : ME X G W da a) (hb : ME X G W db (boRest .And b rest pos)) :
    ME X G W (fun ρ μ => (da ρ μ).bind fun u μ1 => match u with
      | .bl true => db ρ μ1
      | .bl false => .ok (.bl false) μ1
      | _ => .bad) (.BoolOp .And (a :: b :: rest) pos) := by
  refine pe_imp (pe_and ha (bo_rest hb)) fun σ H Q ⟨ρ, μ, α, β, hs, hm, q⟩ => ?_
  refine ⟨ρ, μ, α, β, hs, hm, PostG.mono (PostG.bind q) fun u μ1 α1 H1 hm1 e1 q1 x rx => ?_⟩
  cases u with
  | bl k =>
    cases rx
    cases k with
    | true => exact ⟨true, rfl, iteT ⟨ρ, μ1, α1, β, hs.mono e1, hm1, q1⟩⟩
    | false => exact ⟨false, rfl, iteF (PostV.val q1 hm1 rfl)⟩
  | _ => exact q1.elim
theorem m_or {da db : Slots → Mem → R U} {a b : Expr} {rest : List Expr} {pos : Pos} (ha : ME X G W da a) (hb : ME X G W db (boRest .Or b rest pos)) :
    ME X G W (fun ρ μ => (da ρ μ).bind fun u μ1 => match u with
      | .bl true => .ok (.bl true) μ1
      | .bl false => db ρ μ1
      | _ => .bad) (.BoolOp .Or (a :: b :: rest) pos) := by
  refine pe_imp (pe_or ha (bo_rest hb)) fun σ H Q ⟨ρ, μ, α, β, hs, hm, q⟩ => ?_
  refine ⟨ρ, μ, α, β, hs, hm, PostG.mono (PostG.bind q) fun u μ1 α1 H1 hm1 e1 q1 x rx => ?_⟩
  cases u with
  | bl k =>
    cases rx
    cases k with
    | true => exact ⟨true, rfl, iteT (PostV.val q1 hm1 rfl)⟩
    | false => exact ⟨false, rfl, iteF ⟨ρ, μ1, α1, β, hs.mono e1, hm1, q1⟩⟩
  | _ => exact q1.elim
/-- as tests -/
theorem pw_rest1 {t : TT} {b : Expr} {rest : List Expr} {pos : Pos} (h : PT X (boRest .And b rest pos) t) (hw : rest ≠ [] → PW X (.BoolOp .And (b :: rest) pos) t) : PW X (.BoolOp .And (b :: rest) pos) t := by
  cases rest with
  | nil => exact pw_and1 h
  | cons c r => exact hw (fun z => by cases z)
theorem pw_rest2 {t : TT} {b : Expr} {rest : List Expr} {pos : Pos} (h : PT X (boRest .Or b rest pos) t) (hw : rest ≠ [] → PW X (.BoolOp .Or (b :: rest) pos) t) : PW X (.BoolOp .Or (b :: rest) pos) t := by
  cases rest with
  | nil => exact pw_or1 h
  | cons c r => exact hw (fun z => by cases z)
/-- a test that doesn't hang on its 'whole', where it is an and, an or -/
def MW (X : Cx) (G : En) (W : WX) (d : Slots → Mem → R U) (e : Expr) : Prop := ∀ op bs pos, e = .BoolOp op bs pos → PW X e (tT X.K G W (fun ρ μ => truR (d ρ μ)))
theorem pw_imp {e : Expr} {t t' : TT} (h : PW X e t) (i : ∀ σ H Q, t' σ H Q → t σ H Q) : PW X e t' := ⟨fun wh pins s σ H Q I q => h.run wh pins s σ H Q I (i σ H Q q)⟩
theorem w_and {da db : Slots → Mem → R U} {a b : Expr} {rest : List Expr} {pos : Pos} (ha : MT X G W da a) (hb : MT X G W db (boRest .And b rest pos)) (hw : MW X G W db (boRest .And b rest pos)) :
    PW X (.BoolOp .And (a :: b :: rest) pos) (tT X.K G W (fun ρ μ => truR ((da ρ μ).bind fun u μ1 => match u with
      | .bl true => db ρ μ1
      | .bl false => .ok (.bl false) μ1
      | _ => .bad))) := by
  have hb' : PW X (.BoolOp .And (b :: rest) pos) (tT X.K G W (fun ρ μ => truR (db ρ μ))) := by
    cases rest with
    | nil => exact pw_and1 hb
    | cons c r => exact hw _ _ _ rfl
  refine pw_imp (pw_and ha hb') fun σ H Q ⟨ρ, μ, α, β, hs, hm, q⟩ => ?_
  refine ⟨ρ, μ, α, β, hs, hm, ?_⟩
  dsimp only at q ⊢
  cases hr : da ρ μ with
  | bad => rw [hr] at q; exact q
  | exc c μ1 => rw [hr] at q; exact q
  | ok u μ1 =>
    rw [hr] at q
    cases u with
    | bl k =>
      cases k with
      | true => exact fun H1 α1 hm1 e1 => iteT ⟨ρ, μ1, α1, β, hs.mono e1, hm1, PostG.rebase e1 q⟩
      | false => exact fun H1 α1 hm1 e1 => iteF (q H1 α1 hm1 e1)
    | _ => exact q.elim
theorem w_or {da db : Slots → Mem → R U} {a b : Expr} {rest : List Expr} {pos : Pos} (ha : MT X G W da a) (hb : MT X G W db (boRest .Or b rest pos)) (hw : MW X G W db (boRest .Or b rest pos)) :
    PW X (.BoolOp .Or (a :: b :: rest) pos) (tT X.K G W (fun ρ μ => truR ((da ρ μ).bind fun u μ1 => match u with
      | .bl true => .ok (.bl true) μ1
      | .bl false => db ρ μ1
      | _ => .bad))) := by
  have hb' : PW X (.BoolOp .Or (b :: rest) pos) (tT X.K G W (fun ρ μ => truR (db ρ μ))) := by
    cases rest with
    | nil => exact pw_or1 hb
    | cons c r => exact hw _ _ _ rfl
  refine pw_imp (pw_or ha hb') fun σ H Q ⟨ρ, μ, α, β, hs, hm, q⟩ => ?_
  refine ⟨ρ, μ, α, β, hs, hm, ?_⟩
  dsimp only at q ⊢
  cases hr : da ρ μ with
  | bad => rw [hr] at q; exact q
  | exc c μ1 => rw [hr] at q; exact q
  | ok u μ1 =>
    rw [hr] at q
    cases u with
    | bl k =>
      cases k with
      | true => exact fun H1 α1 hm1 e1 => iteT (q H1 α1 hm1 e1)
      | false => exact fun H1 α1 hm1 e1 => iteF ⟨ρ, μ1, α1, β, hs.mono e1, hm1, PostG.rebase e1 q⟩
    | _ => exact q.elim
theorem m_ite {dc da db : Slots → Mem → R U} {c a b : Expr} {pos : Pos} (hc : MT X G W dc c) (ha : ME X G W da a) (hb : ME X G W db b) :
    ME X G W (fun ρ μ => (truR (dc ρ μ)).bind fun k μ1 => match k with
      | true => da ρ μ1
      | false => db ρ μ1) (.IfExp c a b pos) := by
  refine pe_imp (pe_ifExp hc ha hb) fun σ H Q ⟨ρ, μ, α, β, hs, hm, q⟩ => ?_
  refine ⟨ρ, μ, α, β, hs, hm, PostG.mono (PostG.bind q) fun k μ1 α1 H1 hm1 e1 q1 => ?_⟩
  cases k with
  | true => exact iteT ⟨ρ, μ1, α1, β, hs.mono e1, hm1, q1⟩
  | false => exact iteF ⟨ρ, μ1, α1, β, hs.mono e1, hm1, q1⟩

/-! ### argument lists, displays -/
theorem star_cons {e : Expr} {es : List Expr} {env : Env} (h : notStar e = true) : starEach (e :: es) env = (false, eval e env) :: starEach es env := by
  cases e <;> first | rfl | cases h
theorem star_plain {env : Env} {pos : Pos} : ∀ {es : List Expr}, es.all notStar = true → (backTo pos (starEach es env)).any (·.1) = false
  | [], _ => rfl
  | e :: es, h => by
    simp only [List.all_cons, Bool.and_eq_true] at h
    rw [star_cons h.1]
    have ih := star_plain (env := env) (pos := pos) h.2
    unfold backTo at ih ⊢
    simp only [List.map_cons, List.any_cons, Bool.false_or]
    exact ih
theorem star_all {env : Env} {pos : Pos} : ∀ {es : List Expr}, es.all notStar = true → (backTo pos (starEach es env)).all (fun x => !x.1) = true
  | [], _ => rfl
  | e :: es, h => by
    simp only [List.all_cons, Bool.and_eq_true] at h
    rw [star_cons h.1]
    have ih := star_all (env := env) (pos := pos) h.2
    unfold backTo at ih ⊢
    simp only [List.map_cons, List.all_cons, Bool.not_false, Bool.true_and]
    exact ih
theorem ma_nil : MA X G W (fun _ μ => .ok [] μ) [] := pa_imp pa_nil fun σ H Q ⟨ρ, μ, α, β, hs, hm, q⟩ => PostG.ok hm q [] rfl
theorem ma_cons {d : Slots → Mem → R U} {ds : Slots → Mem → R (List U)} {e : Expr} {es : List Expr} (hn : notStar e = true) (h : ME X G W d e) (hs : MA X G W ds es) :
    MA X G W (fun ρ μ => (d ρ μ).bind fun u μ1 => (ds ρ μ1).bind fun us μ2 => .ok (u :: us) μ2) (e :: es) := by
  refine pa_imp (pa_cons h hs (star_cons hn)) fun σ H Q ⟨ρ, μ, α, β, hs, hm, q⟩ => ?_
  refine ⟨ρ, μ, α, β, hs, hm, PostG.mono (PostG.bind q) fun u μ1 α1 H1 hm1 e1 q1 x rx => ?_⟩
  refine ⟨ρ, μ1, α1, β, hs.mono e1, hm1, PostG.mono (PostG.bind q1) fun us μ2 α2 H2 hm2 e2 q2 xs rxs => ?_⟩
  exact PostG.ok hm2 q2 _ ⟨x, xs, rfl, rx.mono e2, rxs⟩
theorem m_tup {ds : Slots → Mem → R (List U)} {es : List Expr} {x1 : Nat} {pos : Pos} (h : MA X G W ds es) :
    ME X G W (fun ρ μ => (ds ρ μ).bind fun us μ1 => if us.length ≤ bigL then .ok (.tup us) μ1 else .bad) (.Tuple es x1 pos) := by
  refine pe_imp (pe_tup h) fun σ H Q ⟨ρ, μ, α, β, hs, hm, q⟩ => ?_
  refine ⟨ρ, μ, α, β, hs, hm, PostG.mono (PostG.bind q) fun us μ1 α1 H1 hm1 e1 q1 xs rx => ?_⟩
  by_cases hz : us.length ≤ bigL
  · rw [if_pos hz] at q1
    exact ⟨by rw [← rx.len, sizeLine_eq]; exact hz, fun p hp => post_tup q1 hm1 rx hp⟩
  · rw [if_neg hz] at q1
    exact q1.elim
theorem m_lst {m : Bool} {ds : Slots → Mem → R (List U)} {es : List Expr} {pos : Pos} (h : MA X G W ds es) :
    ME X G W (fun ρ μ => (ds ρ μ).bind fun us μ1 => if us.length ≤ bigL then alloc m us μ1 else .bad) (.List es pos) := by
  refine pe_imp (pe_lst h) fun σ H Q ⟨ρ, μ, α, β, hs, hm, q⟩ => ?_
  refine ⟨ρ, μ, α, β, hs, hm, PostG.mono (PostG.bind q) fun us μ1 α1 H1 hm1 e1 q1 xs rx => ?_⟩
  by_cases hz : us.length ≤ bigL
  · rw [if_pos hz] at q1
    exact ⟨by rw [← rx.len, sizeLine_eq]; exact hz, fun p hp => post_alloc q1 hm1 rx hp⟩
  · rw [if_neg hz] at q1
    exact q1.elim

/-! ### places, slices -/
theorem plain_ix {b : Expr} (h : notSlice b = true) : PlainIx b := by
  cases b <;> first | (intro _ _; rfl) | cases h
theorem m_idx {da db : Slots → Mem → R U} {a b : Expr} {pos : Pos} (hn : notSlice b = true) (ha : ME X G W da a) (hb : ME X G W db b) :
    ME X G W (fun ρ μ => (da ρ μ).bind fun u μ1 => (db ρ μ1).bind fun v μ2 => idxD u v μ2) (.Subscript a b pos) :=
  m_op2 (pe_ix (o_idx (G := G) (W := W)) ha hb (plain_ix hn)) fun _ _ _ _ h => h
def tO (K : PySem.W.Frag) (G : En) (W : WX) (d : Slots → Mem → R (List U)) : TO := fun σ H Q =>
  ∃ ρ μ α β, SR K G α β H ρ σ ∧ HR K G μ α β H ∧ PostG K G β W (d ρ μ) α H (fun us _ _ H' => ∃ x, optI us = some x ∧ Q x H')
theorem po_imp {e : Option Expr} {t t' : TO} (h : PO X e t) (i : ∀ σ H Q, t' σ H Q → t σ H Q) : PO X e t' := ⟨fun pins s σ H Q I q => h.run pins s σ H Q I (i σ H Q q)⟩
theorem mo_nil : PO X none (tO X.K G W (fun _ μ => .ok [] μ)) := po_imp po_none fun σ H Q ⟨ρ, μ, α, β, hs, hm, q⟩ => by
  obtain ⟨x, e, q⟩ := PostG.ok hm q
  cases e
  exact q
theorem mo_one {d : Slots → Mem → R U} {e : Expr} (h : ME X G W d e) : PO X (some e) (tO X.K G W (fun ρ μ => (d ρ μ).bind fun u μ1 => (R.ok [] μ1).bind fun us μ2 => .ok (u :: us) μ2)) := by
  refine po_imp (po_some h) fun σ H Q ⟨ρ, μ, α, β, hs, hm, q⟩ => ?_
  refine ⟨ρ, μ, α, β, hs, hm, PostG.mono (PostG.bind q) fun u μ1 α1 H1 hm1 e1 q1 x rx => ?_⟩
  obtain ⟨y, e, q⟩ := PostG.ok hm1 q1
  cases u with
  | int i =>
    cases e
    cases rx
    exact ⟨i, rfl, q⟩
  | _ => cases e
theorem m_slc {da : Slots → Mem → R U} {dl dh : Slots → Mem → R (List U)} {a : Expr} {lo hi : Option Expr} {p2 pos : Pos} (ha : ME X G W da a) (hl : PO X lo (tO X.K G W dl)) (hh : PO X hi (tO X.K G W dh)) :
    ME X G W (fun ρ μ => (da ρ μ).bind fun u μ1 => (dl ρ μ1).bind fun l μ2 => match optI l with
      | none => .bad
      | some x => (dh ρ μ2).bind fun h μ3 => match optI h with
        | none => .bad
        | some y => slcD u x y μ3) (.Subscript a (.Slice lo hi none p2) pos) := by
  refine pe_imp (pe_slice (o_slc (G := G) (W := W)) ha hl hh) fun σ H Q ⟨ρ, μ, α, β, hs, hm, q⟩ => ?_
  refine ⟨ρ, μ, α, β, hs, hm, PostG.mono (PostG.bind q) fun u μ1 α1 H1 hm1 e1 q1 x rx => ?_⟩
  refine ⟨ρ, μ1, α1, β, hs.mono e1, hm1, PostG.mono (PostG.bind q1) fun l μ2 α2 H2 hm2 e2 q2 => ?_⟩
  cases hx : optI l with
  | none => simp only [hx] at q2; exact q2.elim
  | some lo =>
    simp only [hx] at q2
    refine ⟨lo, rfl, ρ, μ2, α2, β, (hs.mono e1).mono e2, hm2, PostG.mono (PostG.bind q2) fun h μ3 α3 H3 hm3 e3 q3 => ?_⟩
    cases hy : optI h with
    | none => simp only [hy] at q3; exact q3.elim
    | some hi =>
      simp only [hy] at q3
      exact ⟨hi, rfl, u, μ3, α3, β, hm3, rx.mono (e2.trans e3), q3⟩
/-! ### calls -/
theorem PostG.wish {A : Type} {W' : WX} {r : R A} {β α : List Addr} {H : Hp} {F : A → Mem → List Addr → Hp → Prop} (h : PostG K G β W r α H F) (hW : ∀ cls d H', (∀ σ, W cls d σ H') → ∀ σ, W' cls d σ H') : PostG K G β W' r α H F := by
  cases r with
  | ok a μ => exact h
  | exc c μ => exact fun cls d σ H' α' x hr e => hW cls d H' (fun σ => h cls d σ H' α' x hr e) σ
  | bad => exact h
/-- what a callee's promise asks -/
theorem sp_of {f : List U → Mem → R U} {np : Nat} {us : List U} {vs : List V} {μ : Mem} {α β : List Addr} {H : Hp} {Q : VK} (hm : HR K G μ α β H) (r : VRs K G α β H us vs) (hn : us.length = np) (q : PostV K G β W (f us μ) α H Q) :
    spD K G f np vs H Q (fun cls d H' => ∀ σ, W cls d σ H') := ⟨us, μ, α, β, hm, r, hn, PostG.wish q fun _ _ _ h _ => h⟩
theorem call_np {Ds : List Def} {k j : Nat} {d : DefS} {us : List U} {μ : Mem} (hd : Ds[j]? = some (.std d)) (h : callD Ds k j us μ ≠ .bad) : us.length = d.np := by
  cases k with
  | zero => exact absurd rfl h
  | succ k =>
    unfold callD at h
    rw [hd] at h
    by_cases e : us.length = d.np
    · exact e
    · refine absurd ?_ h
      show runD d _ us μ = .bad
      unfold runD
      rw [if_neg e]
theorem post_bad {A : Type} {r : R A} {β α : List Addr} {H : Hp} {F : A → Mem → List Addr → Hp → Prop} (h : PostG K G β W r α H F) : r ≠ .bad := fun e => by rw [e] at h; exact h

theorem df_of {S : Sg} {j : Nat} {x : Str} (h : (match S.Ds[j]? with | some (.std d) => d.name == x | _ => false) = true) : ∃ d, S.Ds[j]? = some (.std d) ∧ d.name = x := by
  cases q : S.Ds[j]? with
  | none => rw [q] at h; cases h
  | some o =>
    cases o with
    | std d => rw [q] at h; exact ⟨d, rfl, by simpa using h⟩
    | err d => rw [q] at h; cases h
theorem pass_of (g : GX S G k C N sc fb W X) : Passes (L2N.CX X.prog X.w) X (fun cls d H' => ∀ σ, W cls d σ H') := L2N.passes_call g.tk fun _ _ σ _ h => h σ
theorem m_call {ds : Slots → Mem → R (List U)} {j : Nat} {x : Str} {e : Expr} {es : List Expr} {p pos : Pos} (g : GX S G k C N sc fb W X) (hr : Room (3 * k) X.A) (hg : Gl X x ∧ nameOk x = true) {d : DefS} (hd : S.Ds[j]? = some (.std d)) (hx : d.name = x) (hns : (e :: es).all notStar = true) (h : MA X G W ds (e :: es)) :
    ME X G W (fun ρ μ => (ds ρ μ).bind fun us μ1 => callD S.Ds k j us μ1) (.Call (.Name x p) (e :: es) [] pos) := by
  obtain ⟨fd, F, B⟩ := g.ff.fn j d hd
  obtain ⟨hm, hk⟩ := g.mf.df j d hd
  rw [hx] at hm
  simp only [List.all_cons, Bool.and_eq_true] at hns
  refine pe_imp (pe_call F hr hg.1 hm hk B .nil (pass_of g) h (ok_debug hg.2) (star_cons hns.1) (star_plain hns.2)) fun σ H Q ⟨ρ, μ, α, β, hs, hm, q⟩ => ?_
  refine ⟨ρ, μ, α, β, hs, hm, PostG.mono (PostG.bind q) fun us μ1 α1 H1 hm1 e1 q1 xs rx => ?_⟩
  show spD X.K G (callD S.Ds k j) d.np (xs ++ []) H1 Q (fun cls d H' => ∀ σ, W cls d σ H')
  rw [List.append_nil]
  exact sp_of hm1 rx (call_np hd (post_bad q1)) q1
theorem m_call0 {j : Nat} {x : Str} {p pos : Pos} (g : GX S G k C N sc fb W X) (hr : Room (3 * k) X.A) (hg : Gl X x ∧ nameOk x = true) {d : DefS} (hd : S.Ds[j]? = some (.std d)) (hx : d.name = x) :
    ME X G W (fun _ μ => callD S.Ds k j [] μ) (.Call (.Name x p) [] [] pos) := by
  obtain ⟨fd, F, B⟩ := g.ff.fn j d hd
  obtain ⟨hm, hk⟩ := g.mf.df j d hd
  rw [hx] at hm
  refine pe_imp (pe_call0 F hr hg.1 hm hk B .nil (pass_of g) (ok_debug hg.2)) fun σ H Q ⟨ρ, μ, α, β, hs, hm, q⟩ => ?_
  exact sp_of hm (us := []) (vs := []) rfl (call_np hd (post_bad q)) q
/-- a local name that holds a def -/
theorem m_cvar {ds : Slots → Mem → R (List U)} {i : Nat} {x : Str} {e : Expr} {es : List Expr} {p pos : Pos} (g : GX S G k C N sc fb W X) (hr : Room (3 * k) X.A) (hN : X.N[i]? = some x) (hv : Vis X.env.scope x) (hn : nameOk x = true) (hns : (e :: es).all notStar = true) (h : MA X G W ds (e :: es)) :
    ME X G W (fun ρ μ => match ρ[i]? with
      | some (some (.fn j)) => (ds ρ μ).bind fun us μ1 => callD S.Ds k j us μ1
      | _ => .bad) (.Call (.Name x p) (e :: es) [] pos) := by
  simp only [List.all_cons, Bool.and_eq_true] at hns
  refine ⟨fun pins s σ H Q I ⟨ρ, μ, α, β, hs, hm, q⟩ => ?_⟩
  cases hi : ρ[i]? with
  | none => simp only [hi] at q; exact q.elim
  | some o =>
    cases o with
    | none => simp only [hi] at q; exact q.elim
    | some u =>
      cases u with
      | fn j =>
        simp only [hi] at q
        obtain ⟨v, hv1, hv2⟩ := hs.2 i _ hi
        obtain ⟨rfl, hj⟩ := hv2
        obtain ⟨d, hd⟩ := g.mf.dfn j hj
        obtain ⟨fd, F, B⟩ := g.ff.fn j d hd
        obtain ⟨_, hk⟩ := g.mf.df j d hd
        refine wpAny_Call_Name_kw (thn ((pe_var (pos := p) hN hv (ok_debug hn) (ok_cd hn)).run pins s σ H (fun v H1 => v = .ref (G.ad j) ∧ H1 = H) I ⟨_, hv1, rfl, rfl⟩) fun u s1 ⟨v, H1, I1, r1, q1⟩ => ?_)
        obtain ⟨rfl, rfl⟩ := q1
        cases r1
        have hA := h.run pos pins s1 σ _ (fun vs H2 => spD X.K G (callD S.Ds k j) d.np vs H2 Q (fun cls d H' => ∀ σ, W cls d σ H')) I1 ⟨ρ, μ, α, β, hs, hm, PostG.mono (PostG.bind q) fun us μ1 α1 H1 hm1 e1 q1 xs rx => sp_of hm1 rx (call_np hd (post_bad q1)) q1⟩
        refine PySem.W.callWith_K (h₀ := X.base) I.ok.mod.kin hk (thn hA fun us s2 ⟨vs, H2, I2, r, q⟩ => ⟨I2.kIn, ?_⟩) (star_cons hns.1) (star_plain hns.2)
        have q : spD X.K G (callD S.Ds k j) d.np (vs ++ []) H2 Q (fun cls d H' => ∀ σ, W cls d σ H') := by
          rw [List.append_nil]; exact q
        exact run_fn F hr B .nil (pass_of g) I2 r q
      | _ => simp only [hi] at q; exact q.elim

/-! ### built-in functions -/
theorem getOr_post {A : Type} {o : Option A} {f : A → R U} {α β : List Addr} {H : Hp} {Q : VK} (q : PostV K G β W (getOr o f) α H Q) : ∃ a, o = some a ∧ PostV K G β W (f a) α H Q := by
  cases o with
  | none => exact q.elim
  | some a => exact ⟨a, rfl, q⟩
theorem int1_eq {us : List U} {i : Int} (h : int1 us = some i) : us = [.int i] := by
  unfold int1 at h
  split at h
  · cases h; rfl
  · cases h
theorem int2_eq {us : List U} {p : Int × Int} (h : int2 us = some p) : us = [.int p.1, .int p.2] := by
  unfold int2 at h
  split at h
  · cases h; rfl
  · cases h
theorem one1_eq {us : List U} {x : U} (h : one1 us = some x) : us = [x] := by
  unfold one1 at h
  split at h
  · cases h; rfl
  · cases h
theorem seq1_at {μ : Mem} {α β : List Addr} {H : Hp} {us xs : List U} {vs : List V} (hm : HR K G μ α β H) (r : VRs K G α β H us vs) (h : seq1 μ us = some xs) :
    ∃ u a ws, us = [u] ∧ vs = [.ref a] ∧ seqOf μ u = some xs ∧ VR K G α β H u (.ref a) ∧ (SqL K H a ws ∨ SqT K H a ws) ∧ VRs K G α β H xs ws := by
  unfold seq1 at h
  cases hu : one1 us with
  | none => rw [hu] at h; cases h
  | some u =>
    rw [hu] at h
    have h : seqOf μ u = some xs := h
    have e := one1_eq hu
    subst e
    obtain ⟨v, _, rfl, r1, rfl⟩ := r
    obtain ⟨a, ws, rfl, h1, h2⟩ := seqOf_at hm r1 h
    exact ⟨u, a, ws, rfl, rfl, h, r1, h1, h2⟩
theorem vr_int1 {α β : List Addr} {H : Hp} {i : Int} {vs : List V} (r : VRs K G α β H [.int i] vs) : vs = [.int i] := by
  obtain ⟨v, _, rfl, r1, rfl⟩ := r
  cases r1
  rfl
theorem vr_int2 {α β : List Addr} {H : Hp} {i j : Int} {vs : List V} (r : VRs K G α β H [.int i, .int j] vs) : vs = [.int i, .int j] := by
  obtain ⟨v, _, rfl, r1, w', _, rfl, r2, rfl⟩ := r
  cases r1
  cases r2
  rfl
theorem c_len {m : Bool} : CallR X (.builtin "len") (rMs X.K G W (biD m "len")) := by
  intro pins s σ H xs us Q I r h
  obtain ⟨ys, μ, α, β, hm, rx, q⟩ := h
  obtain ⟨zs, hz, q2⟩ := getOr_post (o := seq1 μ ys) (f := fun xs => .ok (.int xs.length) μ) q
  obtain ⟨u, a, ws, rfl, rfl, _, _, h1, h2⟩ := seq1_at hm rx hz
  exact call_len_seq pins s σ H _ us Q I r ⟨a, ws, rfl, h1, PostV.val q2 hm (by rw [h2.len]; rfl)⟩
theorem c_abs {m : Bool} : CallR X (.builtin "abs") (rMs X.K G W (biD m "abs")) := by
  intro pins s σ H xs us Q I r h
  obtain ⟨ys, μ, α, β, hm, rx, q⟩ := h
  obtain ⟨i, hz, q⟩ := getOr_post (o := int1 ys) (f := fun i => .ok (.int (if i < 0 then -i else i)) μ) q
  rw [int1_eq hz] at rx
  have e := vr_int1 rx
  subst e
  exact call_abs pins s σ H _ us Q I r ⟨i, rfl, PostV.val q hm rfl⟩
theorem c_int {m : Bool} : CallR X (.type "int") (rMs X.K G W (biD m "int")) := by
  intro pins s σ H xs us Q I r h
  obtain ⟨ys, μ, α, β, hm, rx, q⟩ := h
  obtain ⟨i, hz, q⟩ := getOr_post (o := int1 ys) (f := fun i => .ok (.int i) μ) q
  rw [int1_eq hz] at rx
  have e := vr_int1 rx
  subst e
  exact call_int1 pins s σ H _ us Q I r (.inl ⟨i, rfl, PostV.val q hm rfl⟩)
theorem c_gcd {m : Bool} : CallR X (.builtin "math.gcd") (rMs X.K G W (biD m "gcd")) := by
  intro pins s σ H xs us Q I r h
  obtain ⟨ys, μ, α, β, hm, rx, q⟩ := h
  obtain ⟨p, hz, q⟩ := getOr_post (o := int2 ys) (f := fun p => .ok (.int (Nat.gcd p.1.natAbs p.2.natAbs : Nat)) μ) q
  rw [int2_eq hz] at rx
  have e := vr_int2 rx
  subst e
  exact cr_gcd pins s σ H _ us Q I r ⟨p.1, p.2, rfl, PostV.val q hm rfl⟩
theorem c_list {m : Bool} : CallR X (.type "list") (rMs X.K G W (biD m "list")) := by
  intro pins s σ H xs us Q I r h
  obtain ⟨ys, μ, α, β, hm, rx, q⟩ := h
  obtain ⟨zs, hz, q2⟩ := getOr_post (o := seq1 μ ys) (f := fun xs => alloc m xs μ) q
  obtain ⟨u, a, ws, rfl, rfl, _, _, h1, h2⟩ := seq1_at hm rx hz
  exact call_list_of pins s σ H _ us Q I r ⟨a, ws, rfl, h1, fun p hp => post_alloc q2 hm h2 hp⟩
theorem c_tuple {m : Bool} : CallR X (.type "tuple") (rMs X.K G W (biD m "tuple")) := by
  intro pins s σ H xs us Q I r h
  obtain ⟨ys, μ, α, β, hm, rx, q⟩ := h
  obtain ⟨zs, hz, q2⟩ := getOr_post (o := seq1 μ ys) (f := fun xs => .ok (.tup xs) μ) q
  obtain ⟨u, a, ws, rfl, rfl, h0, r0, h1, h2⟩ := seq1_at hm rx hz
  cases u with
  | tup ts =>
    cases h0
    obtain ⟨a', vs, e, h3, h4⟩ := id r0
    cases e
    exact call_tuple_of pins s σ H _ us Q I r ⟨a, vs, rfl, .inr ⟨h3.seq, PostV.val q2 hm r0⟩⟩
  | lst ts =>
    cases h0
    obtain ⟨a', vs, e, h3, h4⟩ := id r0
    cases e
    exact call_tuple_of pins s σ H _ us Q I r ⟨a, vs, rfl, .inl ⟨SqL.of h3.1, fun p hp => post_tup q2 hm h4 hp⟩⟩
  | rol ts =>
    cases h0
    obtain ⟨a', vs, e, h3, h4⟩ := id r0
    cases e
    exact call_tuple_of pins s σ H _ us Q I r ⟨a, vs, rfl, .inl ⟨h3.seq, fun p hp => post_tup q2 hm h4 hp⟩⟩
  | ref n =>
    obtain ⟨a', vs, e, h3, h4⟩ := lstOf_at hm r0 (show lstOf μ (.ref n) = some zs from h0)
    cases e
    exact call_tuple_of pins s σ H _ us Q I r ⟨a, vs, rfl, .inl ⟨SqL.of h3, fun p hp => post_tup q2 hm h4 hp⟩⟩
  | _ => cases h0
theorem m_args {f : List U → Mem → R U} {ds : Slots → Mem → R (List U)} {e : Expr} (h : PE X e (tCB (rMs X.K G W f) (tA X.K G W ds))) : ME X G W (fun ρ μ => (ds ρ μ).bind fun us μ1 => f us μ1) e :=
  pe_imp h fun σ H Q ⟨ρ, μ, α, β, hs, hm, q⟩ => ⟨ρ, μ, α, β, hs, hm, PostG.mono (PostG.bind q) fun us μ1 α1 H1 hm1 e1 q1 xs rx => ⟨us, μ1, α1, β, hm1, rx, q1⟩⟩
theorem m_bi {m : Bool} {b : Str} {ds : Slots → Mem → R (List U)} {x : Str} {e : Expr} {es : List Expr} {p pos : Pos} (g : GX S G k C N sc fb W X) (hb : biB S sc b x = true) (hns : (e :: es).all notStar = true) (h : MA X G W ds (e :: es)) :
    ME X G W (fun ρ μ => (ds ρ μ).bind fun us μ1 => biD m b us μ1) (.Call (.Name x p) (e :: es) [] pos) := by
  simp only [List.all_cons, Bool.and_eq_true] at hns
  unfold biB at hb
  simp only [Bool.and_eq_true, Bool.or_eq_true, beq_iff_eq] at hb
  obtain ⟨⟨rfl, hg⟩, hb⟩ := hb
  have hg := glo_of hg g.hs
  have fr : S.fr.contains b = true → X.mg b = none := fun z => g.mf.fr b (by simpa using z)
  rcases hb with ⟨h1, h2 | h2⟩ | h2
  · simp only [biFun, List.any_cons, List.any_nil, Bool.or_false, Bool.or_eq_true, beq_iff_eq] at h2
    rcases h2 with rfl | rfl
    · exact m_args (pe_callB c_len hg.1 (fr h1) (by decide +kernel) h (ok_name hg.2) (ok_debug hg.2) (star_cons hns.1) (star_plain hns.2))
    · exact m_args (pe_callB c_abs hg.1 (fr h1) (by decide +kernel) h (ok_name hg.2) (ok_debug hg.2) (star_cons hns.1) (star_plain hns.2))
  · simp only [biTy, List.any_cons, List.any_nil, Bool.or_false, Bool.or_eq_true, beq_iff_eq] at h2
    rcases h2 with rfl | rfl | rfl
    · exact m_args (pe_callTy c_int hg.1 (fr h1) (by decide +kernel) h (ok_name hg.2) (ok_debug hg.2) (star_cons hns.1) (star_plain hns.2))
    · exact m_args (pe_callTy c_list hg.1 (fr h1) (by decide +kernel) h (ok_name hg.2) (ok_debug hg.2) (star_cons hns.1) (star_plain hns.2))
    · exact m_args (pe_callTy c_tuple hg.1 (fr h1) (by decide +kernel) h (ok_name hg.2) (ok_debug hg.2) (star_cons hns.1) (star_plain hns.2))
  · simp only [biMod, List.any_cons, List.any_nil, Bool.or_false, Bool.and_eq_true, beq_iff_eq] at h2
    obtain ⟨rfl, h3⟩ := h2
    exact m_args (pe_callBfun c_gcd hg.1 (g.mf.mb _ (by simpa using h3)) h (ok_debug hg.2) (star_cons hns.1) (star_plain hns.2))
/-! ### isinstance -/
/-- the name of a value's type -/
def tyN : U → Option String
  | .non => some "NoneType"
  | .bl _ => some "bool"
  | .int _ => some "int"
  | .str _ => some "str"
  | .tup _ => some "tuple"
  | .lst _ => some "list"
  | .rol _ => some "list"
  | .ref _ => some "list"
  | .fn _ => none
  | .exn => none
theorem ty_of {u : U} {x : V} {α β : List Addr} {H : Hp} {μ : Mem} {T : String} (hm : HR K G μ α β H) (r : VR K G α β H u x) (h : tyN u = some T) (hr : ∀ n, u = .ref n → n < μ.length) : TyX K H x (.type T) := by
  cases u with
  | non => cases r; cases h; exact .base .non
  | bl _ => cases r; cases h; exact .base (.bl _)
  | int _ => cases r; cases h; exact .base (.int _)
  | str _ => cases r; cases h; exact .base (.str _)
  | fn _ => cases h
  | exn => cases h
  | tup _ =>
    cases h
    obtain ⟨a, vs, rfl, h1, _⟩ := r
    rcases h1 with ⟨h1 | ⟨o, h1⟩, _⟩ | ⟨o, its, n, h1, h2, _⟩
    · exact .base (.tup h1)
    · exact .fTuple h1
    · exact .kTuple h1 h2
  | lst _ =>
    cases h
    obtain ⟨a, vs, rfl, h1, _⟩ := r
    exact .base (.lst h1.1)
  | rol _ =>
    cases h
    obtain ⟨a, vs, rfl, h1, _⟩ := r
    rcases h1 with ⟨h1 | ⟨o, h1⟩, _⟩ | ⟨o, its, n, h1, h2, _⟩
    · exact .base (.lst h1)
    · exact .base (.frz h1)
    · exact .kList h1 h2
  | ref n =>
    cases h
    obtain ⟨a, rfl, h1⟩ := r
    obtain ⟨vs, h2⟩ := hm.trk (List.mem_of_getElem? h1)
    exact .base (.lst h2)
def isTyp : List (Str × String) := [("int", "int"), ("bool", "bool"), ("str", "str"), ("tuple", "tuple"), ("list", "list")]
theorem isi_kit {t : Str} {u : U} {b : Bool} (h : isiD t u = some b) : ∃ T s, tyN u = some T ∧ (t, s) ∈ isTyp ∧ kitB T s = some b ∧ bootBuiltins t = some (.type s) := by
  unfold isiD at h
  by_cases h1 : t = "int"
  · subst h1
    refine (fun (z : ∃ T, tyN u = some T ∧ kitB T "int" = some b) => ⟨z.choose, "int", z.choose_spec.1, by decide, z.choose_spec.2, by decide +kernel⟩) ?_
    rw [if_pos rfl] at h
    cases u <;> first | (cases h; exact ⟨_, rfl, by decide +kernel⟩) | cases h
  rw [if_neg h1] at h
  by_cases h2 : t = "bool"
  · subst h2
    refine (fun (z : ∃ T, tyN u = some T ∧ kitB T "bool" = some b) => ⟨z.choose, "bool", z.choose_spec.1, by decide, z.choose_spec.2, by decide +kernel⟩) ?_
    rw [if_pos rfl] at h
    cases u <;> first | (cases h; exact ⟨_, rfl, by decide +kernel⟩) | cases h
  rw [if_neg h2] at h
  by_cases h3 : t = "str"
  · subst h3
    refine (fun (z : ∃ T, tyN u = some T ∧ kitB T "str" = some b) => ⟨z.choose, "str", z.choose_spec.1, by decide, z.choose_spec.2, by decide +kernel⟩) ?_
    rw [if_pos rfl] at h
    cases u <;> first | (cases h; exact ⟨_, rfl, by decide +kernel⟩) | cases h
  rw [if_neg h3] at h
  by_cases h4 : t = "tuple"
  · subst h4
    refine (fun (z : ∃ T, tyN u = some T ∧ kitB T "tuple" = some b) => ⟨z.choose, "tuple", z.choose_spec.1, by decide, z.choose_spec.2, by decide +kernel⟩) ?_
    rw [if_pos rfl] at h
    cases u <;> first | (cases h; exact ⟨_, rfl, by decide +kernel⟩) | cases h
  rw [if_neg h4] at h
  by_cases h5 : t = "list"
  · subst h5
    refine (fun (z : ∃ T, tyN u = some T ∧ kitB T "list" = some b) => ⟨z.choose, "list", z.choose_spec.1, by decide, z.choose_spec.2, by decide +kernel⟩) ?_
    rw [if_pos rfl] at h
    cases u <;> first | (cases h; exact ⟨_, rfl, by decide +kernel⟩) | cases h
  rw [if_neg h5] at h
  cases h
theorem m_isi {da : Slots → Mem → R U} {x t : Str} {a : Expr} {p p2 pos : Pos} (g : GX S G k C N sc fb W X) (hx : x = "isinstance") (hg : freeB S sc x = true) (ht : freeB S sc t = true) (hb : isTys.contains t = true) (hn : notStar a = true) (h : ME X G W da a) :
    ME X G W (fun ρ μ => (da ρ μ).bind fun u μ1 => match isiD t u with
      | some b => .ok (.bl b) μ1
      | none => .bad) (.Call (.Name x p) [a, .Name t p2] [] pos) := by
  subst hx
  unfold freeB at hg ht
  simp only [Bool.and_eq_true] at hg ht
  have g1 := glo_of hg.1 g.hs
  have g2 := glo_of ht.1 g.hs
  have f1 : X.mg "isinstance" = none := g.mf.fr _ (by simpa using hg.2)
  have f2 : X.mg t = none := g.mf.fr _ (by simpa using ht.2)
  obtain ⟨s, hs1, hs2⟩ : ∃ s, (t, s) ∈ isTyp ∧ bootBuiltins t = some (.type s) := by
    simp only [isTys, List.contains_eq_mem, List.mem_cons, List.mem_nil_iff, or_false, decide_eq_true_eq] at hb
    rcases hb with rfl | rfl | rfl | rfl | rfl
    · exact ⟨"int", by decide, by decide +kernel⟩
    · exact ⟨"bool", by decide, by decide +kernel⟩
    · exact ⟨"str", by decide, by decide +kernel⟩
    · exact ⟨"tuple", by decide, by decide +kernel⟩
    · exact ⟨"list", by decide, by decide +kernel⟩
  have hT : PE X (.Name t p2) (tC (.ty s)) := pe_bltn g2.1 f2 hs2 rfl (ok_name g2.2) (ok_debug g2.2)
  refine pe_imp (pe_callB call_isi g1.1 f1 PyProof.Rows.boot_isinstance (pa_cons h (pa_cons hT pa_nil) (star_cons hn)) (ok_name g1.2) (ok_debug g1.2) (star_cons hn) rfl) fun σ H Q ⟨ρ, μ, α, β, hs, hm, q⟩ => ?_
  refine ⟨ρ, μ, α, β, hs, hm, PostG.mono (PostG.bind q) fun u μ1 α1 H1 hm1 e1 q1 y ry => ?_⟩
  cases hi : isiD t u with
  | none => simp only [hi] at q1; exact q1.elim
  | some b =>
    simp only [hi] at q1
    obtain ⟨T, s', h1, h2, h3, h4⟩ := isi_kit hi
    have es : s' = s := by
      rw [hs2] at h4
      cases h4
      rfl
    subst es
    refine ⟨y, .ty s', .type T, .type s', b, rfl, .ty s', ty_of hm1 ry h1 (fun n e => ?_), kit_ty h3, PostV.val q1 hm1 rfl⟩
    subst e
    obtain ⟨a', _, h5⟩ := ry
    rw [← hm1.len]
    exact (List.getElem?_eq_some_iff.mp h5).1
/-! ### o.append(e) -/
theorem m_app {dO de : Slots → Mem → R U} {o e : Expr} {apos pos : Pos} (hl : (apos.endLine == pos.line) = true) (hc : notCall o = true) (hn : notStar e = true) (ho : ME X G W dO o) (he : ME X G W de e) :
    ME X G W (fun ρ μ => (dO ρ μ).bind fun u μ1 => match u with
      | .ref n => (de ρ μ1).bind fun v μ2 => match μ2[n]? with
        | some xs => if xs.length < bigL then .ok .non (μ2.set n (xs ++ [v])) else .bad
        | none => .bad
      | _ => .bad) (.Call (.Attribute o "append" apos) [e] [] pos) := by
  have hbase : attributeBase o "append" X.env (eval o X.env) = eval o X.env := by
    cases o <;> first | rfl | cases hc
  have hfew : ((backTo pos (starEach [e] X.env)).all (fun x => !x.1) && (backToKw pos (keywordEach [] X.env)).all (fun x => x.1.isSome)
      && decide ((e :: ([] : List Expr)).length + ([] : List Keyword).length + (if ([] : List Keyword).isEmpty then 0 else 1) < 30)) = true := by
    rw [star_all (by simp [hn])]
    rfl
  have mt : MtR X "list.append" rAppend := mt_append
  refine pe_imp (pe_bm PySem.F.plainAttrs_list PySem.F.slot_list_append PySem.F.type_list_append mt ho (pa_cons he pa_nil (star_cons hn)) hbase hfew hl (star_cons hn) rfl) fun σ H Q ⟨ρ, μ, α, β, hs, hm, q⟩ => ?_
  refine ⟨ρ, μ, α, β, hs, hm, PostG.mono (PostG.bind q) fun u μ1 α1 H1 hm1 e1 q1 x rx => ?_⟩
  cases u with
  | ref n =>
    obtain ⟨a, rfl, hn⟩ := rx
    obtain ⟨vs, hv⟩ := hm1.trk (List.mem_of_getElem? hn)
    refine ⟨.inl ⟨rfl, vs, SqL.of hv⟩, ρ, μ1, α1, β, hs.mono e1, hm1, PostG.mono (PostG.bind q1) fun v μ2 α2 H2 hm2 e2 q2 y ry => ?_⟩
    cases hx : μ2[n]? with
    | none => simp only [hx] at q2; exact q2.elim
    | some xs =>
      simp only [hx] at q2
      by_cases hz : xs.length < bigL
      · rw [if_pos hz] at q2
        obtain ⟨a', ws, g1, g2, g3⟩ := hm2.at_ n xs hx
        rw [pre_get e2.pre hn] at g1
        cases g1
        have ext := hm2.set (pre_get e2.pre hn) g2 (g3.app (show VRs X.K G α2 β H2 [v] [y] from ⟨y, [], rfl, ry, rfl⟩))
        exact ⟨a, ws, y, rfl, rfl, g2, by rw [← g3.len, sizeLine_eq]; exact hz, q2 _ _ ext.2 ext.1 _ rfl⟩
      · rw [if_neg hz] at q2
        exact q2.elim
  | _ => exact q1.elim
/-! ### sep.join(rows) -/
theorem strs_vs {α β : List Addr} {H : Hp} : ∀ {us : List U} {ys : List Str} {vs : List V}, strsOf us = some ys → VRs K G α β H us vs → vs = ys.map V.str
  | [], ys, vs, e, r => by cases e; cases r; rfl
  | u :: us, ys, vs, e, r => by
    obtain ⟨v, vr, rfl, r1, r2⟩ := r
    cases u with
    | str x =>
      have e : (strsOf us).map (x :: ·) = some ys := e
      cases q : strsOf us with
      | none => rw [q] at e; cases e
      | some zs =>
        rw [q] at e
        cases e
        cases r1
        rw [strs_vs q r2]
        rfl
    | _ => cases e
theorem m_join {dO de : Slots → Mem → R U} {o e : Expr} {apos pos : Pos} (hl : (apos.endLine == pos.line) = true) (hc : notCall o = true) (hn : notStar e = true) (ho : ME X G W dO o) (he : ME X G W de e) :
    ME X G W (fun ρ μ => (dO ρ μ).bind fun u μ1 => match u with
      | .str a => (de ρ μ1).bind fun v μ2 => joinD a v μ2
      | _ => .bad) (.Call (.Attribute o "join" apos) [e] [] pos) := by
  have hbase : attributeBase o "join" X.env (eval o X.env) = eval o X.env := by
    cases o <;> first | rfl | cases hc
  refine pe_imp (pe_join ho he (star_cons hn) hbase hl) fun σ H Q ⟨ρ, μ, α, β, hs, hm, q⟩ => ?_
  refine ⟨ρ, μ, α, β, hs, hm, PostG.mono (PostG.bind q) fun u μ1 α1 H1 hm1 e1 q1 x rx => ?_⟩
  cases u with
  | str a =>
    cases rx
    refine ⟨⟨a, rfl⟩, ρ, μ1, α1, β, hs.mono e1, hm1, PostG.mono (PostG.bind q1) fun v μ2 α2 H2 hm2 e2 q2 y ry => ?_⟩
    obtain ⟨ys, hy, q3⟩ := getOr_post (f := fun ys => if (ys.map (·.length)).sum + ys.length * a.length ≤ bigL then .ok (.str (Txt.join a ys)) μ2 else .bad) q2
    by_cases hz : (ys.map (·.length)).sum + ys.length * a.length ≤ bigL
    · rw [if_pos hz] at q3
      cases hx : seqOf μ2 v with
      | none => rw [hx] at hy; cases hy
      | some xs =>
        rw [hx] at hy
        obtain ⟨p, ws, rfl, h1, h2⟩ := seqOf_at hm2 ry hx
        have ew := strs_vs hy h2
        subst ew
        exact ⟨a, p, ys, rfl, rfl, h1, hz, PostV.val q3 hm2 rfl⟩
    · rw [if_neg hz] at q3
      exact q3.elim
  | _ => exact q1.elim
/-! ### isinstance(e, X), e the exception that is handled -/
theorem call_exn {D : Addr} {p : Addr × Obj} (E : ExcC X.K D) (hp : p ∈ X.pn) (hz : Zc (.ref D) none p.2) (hf : ∃ vs, p.2.data = .fields vs) : CallR X (.builtin "isinstance") (rIsE X.K D p.1) := by
  intro pins s σ H xs us Q I r h
  obtain ⟨c, cv, b, rfl, hcv, e, q⟩ := h
  cases r with
  | cons rx rr =>
    cases rr with
    | cons rt rr =>
      cases rr
      cases rx
      have ec := hcv _ rt
      subst ec
      obtain ⟨a, oe⟩ := p
      obtain ⟨hget, _⟩ := I.pin (a, oe) (List.mem_append_left _ hp)
      obtain ⟨vs, hv⟩ := hf
      have J : PySem.W.InstAt s.heap a oe D none := by
        obtain ⟨oc, od, oda, osl⟩ := oe
        obtain ⟨h1, h2⟩ := hz
        dsimp only at h1 h2 hv
        subst h1 h2 hv
        exact ⟨hget, rfl, rfl, trivial⟩
      exact PySem.W.kia_one (PySem.W.handS_kitx_exc E.hg E.hk E.hs E.hd E.ha E.hn E.ht E.hm) I.kIn J e (fun z => nomatch z) fun tk => ⟨.bl b, H, I.kept (t' := tk) fun _ _ z => z, rfl, q⟩
theorem m_isE {i : Nat} {x y z : Str} {p p1 p2 pos : Pos} (g : GX S G k C N sc fb W X) (hc : fb.calm = false) (hx : x = "isinstance") (hf : freeB S sc x = true) (hN : N[i]? = some y) (hv : visB sc y = true) (hn : nameOk y = true) (hg : gloB sc z = true) (hz : S.exs.contains z = true) :
    ME X G W (fun ρ μ => match ρ[i]? with
      | some (some .exn) => match C.exn with
        | some ⟨k, none⟩ => .ok (.bl (k == z)) μ
        | _ => .bad
      | _ => .bad) (.Call (.Name x p) [.Name y p1, .Name z p2] [] pos) := by
  subst hx
  obtain ⟨pe, c, hh⟩ := g.hot hc
  obtain ⟨⟨kc, lim⟩⟩ : Nonempty Exn := ⟨c⟩
  unfold freeB at hf
  simp only [Bool.and_eq_true] at hf
  have g1 := glo_of hf.1 g.hs
  have f1 : X.mg "isinstance" = none := g.mf.fr _ (by simpa using hf.2)
  have g2 := glo_of hg g.hs
  have F := g.mf.ex z (by simpa using hz)
  have hV : PE X (.Name y p1) _ := pe_var (by rw [g.hN]; exact hN) (vis_of hv g.hs) (ok_debug hn) (ok_cd hn)
  have hT : PE X (.Name z p2) (tC (.ref (G.ca z))) := pe_glob g2.1 F.gl rfl (ok_debug g2.2)
  obtain ⟨cn, cl⟩ := c
  cases cl with
  | some n =>
    refine ⟨fun pins s σ H Q I ⟨ρ, μ, α, β, hs, hm, q⟩ => ?_⟩
    exfalso
    rw [hh.orc] at q
    cases hi : ρ[i]? with
    | none => simp only [hi] at q; exact q
    | some o =>
      cases o with
      | none => simp only [hi] at q; exact q
      | some u => cases u <;> (simp only [hi] at q; exact q)
  | none =>
    have E := g.mf.exc cn hh.cls
    refine pe_imp (pe_callB (call_exn E hh.pn (hh.zc rfl) hh.fld) g1.1 f1 PyProof.Rows.boot_isinstance (pa_cons hV (pa_cons hT pa_nil)) (ok_name g1.2) (ok_debug g1.2) rfl rfl) fun σ H Q ⟨ρ, μ, α, β, hs, hm, q⟩ => ?_
    rw [hh.orc] at q
    cases hi : ρ[i]? with
    | none => simp only [hi] at q; exact q.elim
    | some o =>
      cases o with
      | none => simp only [hi] at q; exact q.elim
      | some u =>
        cases u with
        | exn =>
          simp only [hi] at q
          obtain ⟨v, h1, a, h2, h3⟩ := hs.2 i _ hi
          rw [hh.ea] at h2
          cases h2
          subst h3
          exact ⟨_, h1, .ref (G.ca z), .ref (G.ca z), (cn == z), rfl, fun u hu => hu, g.mf.kit cn hh.cls z (by simpa using hz), PostV.val q hm rfl⟩
        | _ => simp only [hi] at q; exact q.elim
end
end Mini

set_option maxHeartbeats 4000000
/-! Mini, part F: what loops walk, targets, comprehensions. -/
namespace Mini
open PySem PySem.Spec PyProof.Rows L2 LamX

/-! ### what a loop walks -/
def NoPriv (α β : List Addr) (H : Hp) (β' : List Addr) : Prop := ∀ a o, H a = some o → a ∉ α → a ∉ β → a ∉ β'
structure JR (K : PySem.W.Frag) (G : En) (J : It) (xs : List U) (α β : List Addr) (H : Hp) : Prop where
  go : ∀ α' H', Ext α H α' H' → ∀ i, i < xs.length → J.go i H'
  stop : ∀ α' H', Ext α H α' H' → ∀ i, xs.length ≤ i → J.stop i H'
  yld : ∀ α' β' H' μ', Ext α H α' H' → NoPriv α β H β' → HR K G μ' α' β' H' → ∀ (i : Nat) u x H'', xs[i]? = some u → J.yld i H' x H'' → HR K G μ' α' β' H'' ∧ Ext α' H' α' H'' ∧ VR K G α' β' H'' u x
section
variable {K : PySem.W.Frag} {G : En} {α β : List Addr} {H : Hp} {xs : List U} {vs : List V} {a : Addr}
theorem VRs.later {α' β' : List Addr} {H' : Hp} (h : VRs K G α β H xs vs) (e : Ext α H α' H') (n : NoPriv α β H β') {i : Nat} {u : U} (hu : xs[i]? = some u) : ∃ v, vs[i]? = some v ∧ VR K G α' β' H' u v := by
  obtain ⟨v, h1, h2⟩ := h.get hu
  have h3 : VR K G α β' H u v := h2.priv n
  exact ⟨v, h1, h3.mono e⟩
theorem jr_list (hq : ∀ α' H', Ext α H α' H' → SqL K H' a vs) (h : VRs K G α β H xs vs) : JR K G (Itl K a) xs α β H where
  go := fun α' H' e i hi => by
    have hv : i < vs.length := by rw [← h.len]; exact hi
    exact ⟨vs, vs[i], hq _ _ e, by simp [hv]⟩
  stop := fun α' H' e i hi => ⟨vs, hq _ _ e, by rw [← h.len]; exact hi⟩
  yld := fun α' β' H' μ' e n hr i u x H'' hu y => by
    obtain ⟨rfl, y⟩ := y
    obtain ⟨v, h1, h2⟩ := h.later e n hu
    have h3 := y vs (hq _ _ e)
    rw [h1] at h3
    cases h3
    exact ⟨hr, Ext.refl _ _, h2⟩
theorem jr_tup (hq : ∀ α' H', Ext α H α' H' → SqT K H' a vs) (h : VRs K G α β H xs vs) : JR K G (Itt K a) xs α β H where
  go := fun α' H' e i hi => by
    have hv : i < vs.length := by rw [← h.len]; exact hi
    exact ⟨vs, vs[i], hq _ _ e, by simp [hv]⟩
  stop := fun α' H' e i hi => ⟨vs, hq _ _ e, by rw [← h.len]; exact hi⟩
  yld := fun α' β' H' μ' e n hr i u x H'' hu y => by
    obtain ⟨rfl, y⟩ := y
    obtain ⟨v, h1, h2⟩ := h.later e n hu
    have h3 := y vs (hq _ _ e)
    rw [h1] at h3
    cases h3
    exact ⟨hr, Ext.refl _ _, h2⟩
theorem jr_rng {lo hi : Int} : JR K G (Itr lo (hi - lo).toNat) (rngL lo hi) α β H where
  go := fun α' H' e i h => by
    have : (rngL lo hi).length = (hi - lo).toNat := by simp [rngL]
    show i < _
    omega
  stop := fun α' H' e i h => by
    have : (rngL lo hi).length = (hi - lo).toNat := by simp [rngL]
    show _ ≤ i
    omega
  yld := fun α' β' H' μ' e n hr i u x H'' hu y => by
    obtain ⟨rfl, rfl⟩ := y
    have hu : ((List.range (hi - lo).toNat).map fun k : Nat => U.int (lo + (k : Nat)))[i]? = some u := hu
    rw [List.getElem?_map] at hu
    cases q : (List.range (hi - lo).toNat)[i]? with
    | none => rw [q] at hu; cases hu
    | some k =>
      rw [q] at hu
      cases hu
      have e1 : k = i := by
        obtain ⟨h1, h2⟩ := List.getElem?_eq_some_iff.mp q
        rw [List.getElem_range] at h2
        exact h2.symm
      subst e1
      exact ⟨hr, Ext.refl _ _, rfl⟩
theorem zip_len : ∀ (xs ys : List U), (zipU xs ys).length = min xs.length ys.length
  | [], ys => by cases ys <;> simp [zipU]
  | x :: xs, [] => by simp [zipU]
  | x :: xs, y :: ys => by
    simp only [zipU, List.length_cons]
    rw [zip_len xs ys]
    omega
theorem zip_get : ∀ {xs ys : List U} {i : Nat} {u : U}, (zipU xs ys)[i]? = some u → ∃ x y, xs[i]? = some x ∧ ys[i]? = some y ∧ u = .tup [x, y]
  | [], ys, i, u, h => by cases ys <;> simp [zipU] at h
  | x :: xs, [], i, u, h => by simp [zipU] at h
  | x :: xs, y :: ys, 0, u, h => by
    simp [zipU] at h
    exact ⟨x, y, rfl, rfl, h.symm⟩
  | x :: xs, y :: ys, i + 1, u, h => by
    simp only [zipU, List.getElem?_cons_succ] at h
    obtain ⟨a, b, h1, h2, h3⟩ := zip_get h
    exact ⟨a, b, by simpa using h1, by simpa using h2, h3⟩
/-- a new tuple of related things -/
theorem new_tup {μ : Mem} {us : List U} {ws : List V} {p : Addr} (hm : HR K G μ α β H) (hp : H p = none) (r : VRs K G α β H us ws) :
    HR K G μ α β (upd H p (.tup ws)) ∧ Ext α H α (upd H p (.tup ws)) ∧ VR K G α β (upd H p (.tup ws)) (.tup us) (.ref p) := by
  obtain ⟨f1, f2⟩ := hm.fresh hp
  exact ⟨hm.new hp, Ext.new hp, p, ws, rfl, .inl ⟨.inl upd_same, f1, f2⟩, r.mono (Ext.new hp)⟩
theorem jr_zip {b : Addr} {ys : List U} {ws : List V} (hq : ∀ α' H', Ext α H α' H' → SqL K H' a vs) (hq2 : ∀ α' H', Ext α H α' H' → SqL K H' b ws) (h : VRs K G α β H xs vs) (h2 : VRs K G α β H ys ws) : JR K G (Itz K a b) (zipU xs ys) α β H where
  go := fun α' H' e i hi => by
    rw [zip_len] at hi
    have h3 : i < vs.length := by rw [← h.len]; omega
    have h4 : i < ws.length := by rw [← h2.len]; omega
    exact ⟨vs, ws, vs[i], ws[i], hq _ _ e, hq2 _ _ e, by simp [h3], by simp [h4]⟩
  stop := fun α' H' e i hi => by
    rw [zip_len, h.len, h2.len] at hi
    exact ⟨vs, ws, hq _ _ e, hq2 _ _ e, by omega⟩
  yld := fun α' β' H' μ' e n hr i u x H'' hu y => by
    obtain ⟨T, x1, x2, rfl, hT, rfl, y1, y2⟩ := y
    obtain ⟨u1, u2, e1, e2, rfl⟩ := zip_get hu
    obtain ⟨v1, f1, r1⟩ := h.later e n e1
    obtain ⟨v2, f2, r2⟩ := h2.later e n e2
    have g1 := y1 vs (hq _ _ e)
    have g2 := y2 ws (hq2 _ _ e)
    rw [f1] at g1
    rw [f2] at g2
    cases g1
    cases g2
    exact new_tup hr hT ⟨_, _, rfl, r1, _, _, rfl, r2, rfl⟩
theorem jr_zipT {b : Addr} {ys : List U} {ws : List V} (hq : ∀ α' H', Ext α H α' H' → SqT K H' a vs) (hq2 : ∀ α' H', Ext α H α' H' → SqT K H' b ws) (h : VRs K G α β H xs vs) (h2 : VRs K G α β H ys ws) : JR K G (RZ.ItzT K a b) (zipU xs ys) α β H where
  go := fun α' H' e i hi => by
    rw [zip_len] at hi
    have h3 : i < vs.length := by rw [← h.len]; omega
    have h4 : i < ws.length := by rw [← h2.len]; omega
    exact ⟨vs, ws, vs[i], ws[i], hq _ _ e, hq2 _ _ e, by simp [h3], by simp [h4]⟩
  stop := fun α' H' e i hi => by
    rw [zip_len, h.len, h2.len] at hi
    exact ⟨vs, ws, hq _ _ e, hq2 _ _ e, by omega⟩
  yld := fun α' β' H' μ' e n hr i u x H'' hu y => by
    obtain ⟨T, x1, x2, rfl, hT, rfl, y1, y2⟩ := y
    obtain ⟨u1, u2, e1, e2, rfl⟩ := zip_get hu
    obtain ⟨v1, f1, r1⟩ := h.later e n e1
    obtain ⟨v2, f2, r2⟩ := h2.later e n e2
    have g1 := y1 vs (hq _ _ e)
    have g2 := y2 ws (hq2 _ _ e)
    rw [f1] at g1
    rw [f2] at g2
    cases g1
    cases g2
    exact new_tup hr hT ⟨_, _, rfl, r1, _, _, rfl, r2, rfl⟩
theorem enum_get : ∀ {xs : List U} {n i : Nat} {u : U}, (enumU n xs)[i]? = some u → ∃ x, xs[i]? = some x ∧ u = .tup [.int ((n + i : Nat) : Int), x]
  | [], n, i, u, h => by simp [enumU] at h
  | x :: xs, n, 0, u, h => by
    simp [enumU] at h
    exact ⟨x, rfl, h.symm⟩
  | x :: xs, n, i + 1, u, h => by
    simp only [enumU, List.getElem?_cons_succ] at h
    obtain ⟨a, h1, h3⟩ := enum_get h
    exact ⟨a, by simpa using h1, by rw [h3, show n + 1 + i = n + (i + 1) by omega]⟩
theorem enum_len : ∀ (n : Nat) (xs : List U), (enumU n xs).length = xs.length
  | _, [] => rfl
  | n, x :: xs => by simp only [enumU, List.length_cons]; rw [enum_len (n + 1) xs]
theorem jr_enum (hq : ∀ α' H', Ext α H α' H' → SqL K H' a vs) (h : VRs K G α β H xs vs) : JR K G (Ite K a) (enumU 0 xs) α β H where
  go := fun α' H' e i hi => by
    rw [enum_len] at hi
    have hv : i < vs.length := by rw [← h.len]; exact hi
    exact ⟨vs, vs[i], hq _ _ e, by simp [hv]⟩
  stop := fun α' H' e i hi => ⟨vs, hq _ _ e, by rw [enum_len] at hi; rw [← h.len]; exact hi⟩
  yld := fun α' β' H' μ' e n hr i u x H'' hu y => by
    obtain ⟨T, x1, rfl, hT, rfl, y1⟩ := y
    obtain ⟨u1, e1, rfl⟩ := enum_get hu
    obtain ⟨v1, f1, r1⟩ := h.later e n e1
    have g1 := y1 vs (hq _ _ e)
    rw [f1] at g1
    cases g1
    refine new_tup hr hT ⟨_, _, rfl, ?_, _, _, rfl, r1, rfl⟩
    rw [Nat.zero_add] <;> rfl
end

def tI (K : PySem.W.Frag) (G : En) (W : WX) (d : Slots → Mem → R (List U)) : TI := fun σ H R =>
  ∃ ρ μ α β, SR K G α β H ρ σ ∧ HR K G μ α β H ∧ PostG K G β W (d ρ μ) α H (fun xs _ α' H' => ∀ J, JR K G J xs α' β H' → R J H')
def MI (X : Cx) (G : En) (W : WX) (d : Slots → Mem → R (List U)) (tg e : Expr) : Prop := PI X tg e (tI X.K G W d)
def MIH (X : Cx) (G : En) (W : WX) (d : Slots → Mem → R (List U)) (tg e : Expr) : Prop := L2H.PIH X tg e (tI X.K G W d)
theorem pi_imp {X : Cx} {tg e : Expr} {t t' : TI} (h : PI X tg e t) (i : ∀ σ H Q, t' σ H Q → t σ H Q) : PI X tg e t' := ⟨fun pins s σ H Q I q => h.run pins s σ H Q I (i σ H Q q)⟩
section
variable {S : Sg} {G : En} {k : Nat} {C : Orc} {N : List Str} {sc : Scope} {fb : Md} {W : WX} {X : Cx} {K : PySem.W.Frag}
theorem GX.hotC (g : GX S G k C N sc fb W X) (h : fb.calm = false) : L2H.HotC X := by
  obtain ⟨p, c, hh⟩ := g.hot h
  exact ⟨p, hh.hot, hh.pn⟩
theorem i_of {d : Slots → Mem → R U} {tg e : Expr} (h : ME X G W d e) : MI X G W (fun ρ μ => (d ρ μ).bind fun u μ1 => match u with
    | .tup xs => .ok xs μ1
    | .lst xs => .ok xs μ1
    | .rol xs => .ok xs μ1
    | _ => .bad) tg e := by
  refine ⟨fun pins s σ H Q I ⟨ρ, μ, α, β, hs, hm, q⟩ => ?_⟩
  cases hd : d ρ μ with
  | bad => simp only [hd] at q; exact q.elim
  | exc c μ1 =>
    simp only [hd] at q
    exact (pi_list h).run pins s σ H Q I ⟨ρ, μ, α, β, hs, hm, by rw [hd]; exact q⟩
  | ok u μ1 =>
    simp only [hd] at q
    cases u with
    | tup xs =>
      refine (pi_tup h).run pins s σ H Q I ⟨ρ, μ, α, β, hs, hm, ?_⟩
      rw [hd]
      intro H' α' hr' e' v rv
      obtain ⟨a, vs, rfl, h1, h2⟩ := rv
      refine ⟨a, rfl, ⟨vs, h1.seq⟩, q H' α' hr' e' _ (jr_tup (fun α2 H2 e2 => ?_) h2)⟩
      exact TupAt.seq (h1.imp (Fz.mono e2 (fun _ z => by cases z)) id)
    | lst xs =>
      refine (pi_list h).run pins s σ H Q I ⟨ρ, μ, α, β, hs, hm, ?_⟩
      rw [hd]
      intro H' α' hr' e' v rv
      obtain ⟨a, vs, rfl, h1, h2⟩ := rv
      refine ⟨a, rfl, ⟨vs, SqL.of h1.1⟩, q H' α' hr' e' _ (jr_list (fun α2 H2 e2 => ?_) h2)⟩
      exact SqL.of (e2.keepN h1.1 h1.2.1 (fun _ z => by cases z))
    | rol xs =>
      refine (pi_list h).run pins s σ H Q I ⟨ρ, μ, α, β, hs, hm, ?_⟩
      rw [hd]
      intro H' α' hr' e' v rv
      obtain ⟨a, vs, rfl, h1, h2⟩ := rv
      refine ⟨a, rfl, ⟨vs, h1.seq⟩, q H' α' hr' e' _ (jr_list (fun α2 H2 e2 => ?_) h2)⟩
      exact LstAt.seq (h1.imp (Fz.mono e2 (fun _ z => by cases z)) id)
    | _ => exact q.elim
theorem i_ofH {d : Slots → Mem → R U} {tg e : Expr} (h : ME X G W d e) : MIH X G W (fun ρ μ => (d ρ μ).bind fun u μ1 => match u with
    | .tup xs => .ok xs μ1
    | .lst xs => .ok xs μ1
    | .rol xs => .ok xs μ1
    | _ => .bad) tg e := by
  refine ⟨fun pins s σ H Q I ⟨ρ, μ, α, β, hs, hm, q⟩ => ?_⟩
  cases hd : d ρ μ with
  | bad => simp only [hd] at q; exact q.elim
  | exc c μ1 =>
    simp only [hd] at q
    exact (MiniHot.pi_listH h).run pins s σ H Q I ⟨ρ, μ, α, β, hs, hm, by rw [hd]; exact q⟩
  | ok u μ1 =>
    simp only [hd] at q
    cases u with
    | tup xs =>
      refine (MiniHot.pi_tupH h).run pins s σ H Q I ⟨ρ, μ, α, β, hs, hm, ?_⟩
      rw [hd]
      intro H' α' hr' e' v rv
      obtain ⟨a, vs, rfl, h1, h2⟩ := rv
      refine ⟨a, rfl, ⟨vs, h1.seq⟩, q H' α' hr' e' _ (jr_tup (fun α2 H2 e2 => ?_) h2)⟩
      exact TupAt.seq (h1.imp (Fz.mono e2 (fun _ z => by cases z)) id)
    | lst xs =>
      refine (MiniHot.pi_listH h).run pins s σ H Q I ⟨ρ, μ, α, β, hs, hm, ?_⟩
      rw [hd]
      intro H' α' hr' e' v rv
      obtain ⟨a, vs, rfl, h1, h2⟩ := rv
      refine ⟨a, rfl, ⟨vs, SqL.of h1.1⟩, q H' α' hr' e' _ (jr_list (fun α2 H2 e2 => ?_) h2)⟩
      exact SqL.of (e2.keepN h1.1 h1.2.1 (fun _ z => by cases z))
    | rol xs =>
      refine (MiniHot.pi_listH h).run pins s σ H Q I ⟨ρ, μ, α, β, hs, hm, ?_⟩
      rw [hd]
      intro H' α' hr' e' v rv
      obtain ⟨a, vs, rfl, h1, h2⟩ := rv
      refine ⟨a, rfl, ⟨vs, h1.seq⟩, q H' α' hr' e' _ (jr_list (fun α2 H2 e2 => ?_) h2)⟩
      exact LstAt.seq (h1.imp (Fz.mono e2 (fun _ z => by cases z)) id)
    | _ => exact q.elim
theorem rng_ok {i : Int} (h : rngOk i = true) : -(2 ^ 62) ≤ i ∧ i < 2 ^ 62 := by
  unfold rngOk at h
  simp only [Bool.and_eq_true, decide_eq_true_eq] at h
  exact h
theorem i_rng1 {d : Slots → Mem → R U} {tg e : Expr} {x : Str} {p pos : Pos} (g : GX S G k C N sc fb W X) (hx : x = "range") (hf : freeB S sc x = true) (hn : notStar e = true) (h : ME X G W d e) :
    MI X G W (fun ρ μ => (d ρ μ).bind fun u μ1 => match u with
    | .int i => if rngOk i then .ok (rngL 0 i) μ1 else .bad
    | _ => .bad) tg (.Call (.Name x p) [e] [] pos) := by
  subst hx
  unfold freeB at hf
  simp only [Bool.and_eq_true] at hf
  have g1 := glo_of hf.1 g.hs
  refine pi_imp (pi_range1 g1.1 (g.mf.fr _ (by simpa using hf.2)) (pa_cons h pa_nil (star_cons hn)) (star_cons hn)) fun σ H Q ⟨ρ, μ, α, β, hs, hm, q⟩ => ?_
  refine ⟨ρ, μ, α, β, hs, hm, PostG.mono (PostG.bind q) fun u μ1 α1 H1 hm1 e1 q1 y ry => ?_⟩
  cases u with
  | int i =>
    cases ry
    have q1 : PostG X.K G β W (if rngOk i = true then R.ok (rngL 0 i) μ1 else .bad) α1 H1 _ := q1
    by_cases hz : rngOk i = true
    · rw [if_pos hz] at q1
      obtain ⟨z1, z2⟩ := rng_ok hz
      have j : JR X.K G (Itr 0 (i - 0).toNat) (rngL 0 i) α1 β H1 := jr_rng
      rw [Int.sub_zero] at j
      exact ⟨i, rfl, z1, z2, PostG.ok hm1 q1 _ j⟩
    · rw [if_neg hz] at q1
      exact q1.elim
  | _ => exact q1.elim
theorem i_rng2 {da db : Slots → Mem → R U} {tg a b : Expr} {x : Str} {p pos : Pos} (g : GX S G k C N sc fb W X) (hx : x = "range") (hf : freeB S sc x = true) (hn : notStar a = true) (hn2 : notStar b = true) (ha : ME X G W da a) (hb : ME X G W db b) :
    MI X G W (fun ρ μ => (da ρ μ).bind fun u μ1 => (db ρ μ1).bind fun v μ2 => match u, v with
    | .int i, .int j => if rngOk i && rngOk j then .ok (rngL i j) μ2 else .bad
    | _, _ => .bad) tg (.Call (.Name x p) [a, b] [] pos) := by
  subst hx
  unfold freeB at hf
  simp only [Bool.and_eq_true] at hf
  have g1 := glo_of hf.1 g.hs
  refine pi_imp (pi_range2 g1.1 (g.mf.fr _ (by simpa using hf.2)) (pa_cons ha (pa_cons hb pa_nil (star_cons hn2)) (star_cons hn)) (by rw [star_cons hn, star_cons hn2] <;> rfl) (star_cons hn2)) fun σ H Q ⟨ρ, μ, α, β, hs, hm, q⟩ => ?_
  refine ⟨ρ, μ, α, β, hs, hm, PostG.mono (PostG.bind q) fun u μ1 α1 H1 hm1 e1 q1 y ry => ?_⟩
  refine ⟨ρ, μ1, α1, β, hs.mono e1, hm1, PostG.mono (PostG.bind q1) fun w μ2 α2 H2 hm2 e2 q2 z rz => ?_⟩
  cases u with
  | int i =>
    cases w with
    | int j =>
      cases ry
      cases rz
      have q2 : PostG X.K G β W (if (rngOk i && rngOk j) = true then R.ok (rngL i j) μ2 else .bad) α2 H2 _ := q2
      by_cases hz : (rngOk i && rngOk j) = true
      · rw [if_pos hz] at q2
        simp only [Bool.and_eq_true] at hz
        obtain ⟨z1, z2⟩ := rng_ok hz.1
        obtain ⟨z3, z4⟩ := rng_ok hz.2
        exact ⟨i, j, rfl, ⟨z1, z2, z3, z4⟩, PostG.ok hm2 q2 _ jr_rng⟩
      · rw [if_neg hz] at q2
        exact q2.elim
    | _ => exact q2.elim
  | _ => cases w <;> exact q2.elim
theorem i_zip2 {da db : Slots → Mem → R U} {elts : List Expr} {kk : Nat} {tpos : Pos} {a b : Expr} {x : Str} {p pos : Pos} (g : GX S G k C N sc fb W X) (hx : x = "zip") (hf : freeB S sc x = true) (hn : notStar a = true) (hn2 : notStar b = true) (ha : ME X G W da a) (hb : ME X G W db b) :
    MI X G W (fun ρ μ => (da ρ μ).bind fun u μ1 => (db ρ μ1).bind fun v μ2 => match u, v with
    | .lst xs, .lst ys => .ok (zipU xs ys) μ2
    | .tup xs, .tup ys => .ok (zipU xs ys) μ2
    | _, _ => .bad) (.Tuple elts kk tpos) (.Call (.Name x p) [a, b] [] pos) := by
  subst hx
  unfold freeB at hf
  simp only [Bool.and_eq_true] at hf
  have g1 := glo_of hf.1 g.hs
  refine pi_imp (RZ.pi_zipA g1.1 (g.mf.fr _ (by simpa using hf.2)) (pa_cons ha (pa_cons hb pa_nil (star_cons hn2)) (star_cons hn)) (star_cons hn) (star_plain (by simp [hn2]))) fun σ H Q ⟨ρ, μ, α, β, hs, hm, q⟩ => ?_
  refine ⟨ρ, μ, α, β, hs, hm, PostG.mono (PostG.bind q) fun u μ1 α1 H1 hm1 e1 q1 y ry => ?_⟩
  refine ⟨ρ, μ1, α1, β, hs.mono e1, hm1, PostG.mono (PostG.bind q1) fun w μ2 α2 H2 hm2 e2 q2 z rz => ?_⟩
  have ry := ry.mono e2
  cases u with
  | lst xs =>
    cases w with
    | lst ys =>
      obtain ⟨a1, vs, rfl, h1, h2⟩ := ry
      obtain ⟨a2, ws, rfl, h3, h4⟩ := rz
      refine ⟨a1, a2, vs, ws, rfl, .inl ⟨SqL.of h1.1, SqL.of h3.1, PostG.ok hm2 q2 _ (jr_zip (fun α2 H2 e2 => ?_) (fun α2 H2 e2 => ?_) h2 h4)⟩⟩
      · exact SqL.of (e2.keepN h1.1 h1.2.1 (fun _ z => by cases z))
      · exact SqL.of (e2.keepN h3.1 h3.2.1 (fun _ z => by cases z))
    | _ => exact q2.elim
  | tup xs =>
    cases w with
    | tup ys =>
      obtain ⟨a1, vs, rfl, h1, h2⟩ := ry
      obtain ⟨a2, ws, rfl, h3, h4⟩ := rz
      refine ⟨a1, a2, vs, ws, rfl, .inr ⟨h1.seq, h3.seq, PostG.ok hm2 q2 _ (jr_zipT (fun α2 H2 e2 => ?_) (fun α2 H2 e2 => ?_) h2 h4)⟩⟩
      · exact TupAt.seq (h1.imp (Fz.mono e2 (fun _ z => by cases z)) id)
      · exact TupAt.seq (h3.imp (Fz.mono e2 (fun _ z => by cases z)) id)
    | _ => exact q2.elim
  | _ => cases w <;> exact q2.elim
theorem i_enum {d : Slots → Mem → R U} {elts : List Expr} {kk : Nat} {tpos : Pos} {e : Expr} {x : Str} {p pos : Pos} (g : GX S G k C N sc fb W X) (hx : x = "enumerate") (hf : freeB S sc x = true) (hn : notStar e = true) (h : ME X G W d e) :
    MI X G W (fun ρ μ => (d ρ μ).bind fun u μ1 => match u with
    | .lst xs => .ok (enumU 0 xs) μ1
    | _ => .bad) (.Tuple elts kk tpos) (.Call (.Name x p) [e] [] pos) := by
  subst hx
  unfold freeB at hf
  simp only [Bool.and_eq_true] at hf
  have g1 := glo_of hf.1 g.hs
  refine pi_imp (pi_enum g1.1 (g.mf.fr _ (by simpa using hf.2)) (pa_cons h pa_nil (star_cons hn)) (star_cons hn)) fun σ H Q ⟨ρ, μ, α, β, hs, hm, q⟩ => ?_
  refine ⟨ρ, μ, α, β, hs, hm, PostG.mono (PostG.bind q) fun u μ1 α1 H1 hm1 e1 q1 y ry => ?_⟩
  cases u with
  | lst xs =>
    obtain ⟨a1, vs, rfl, h1, h2⟩ := ry
    refine ⟨a1, vs, rfl, SqL.of h1.1, PostG.ok hm1 q1 _ (jr_enum (fun α2 H2 e2 => ?_) h2)⟩
    exact SqL.of (e2.keepN h1.1 h1.2.1 (fun _ z => by cases z))
  | _ => exact q1.elim
end
end Mini

set_option maxHeartbeats 4000000
/-! Mini, part G: targets, comprehensions, loops, statements. -/
namespace Mini
open PySem PySem.Spec PyProof.Rows L2 LamX

/-! ### targets -/
def tsLen : ITs → Nat
  | .nil => 0
  | .cons _ ts => tsLen ts + 1
theorem wipe_get (σ : L2.St) (j : Nat) : ∀ vs : List Nat, (wipe σ vs)[j]? = if j ∈ vs then (if j < σ.length then some none else none) else σ[j]?
  | [] => by simp [wipe]
  | v :: vs => by
    unfold wipe
    by_cases h : v = j
    · subst h
      rw [List.getElem?_set]
      simp [wipe_length]
    · rw [List.getElem?_set_ne h, wipe_get σ j vs]
      simp [List.mem_cons, Ne.symm h]
theorem wipe_set {σ : L2.St} {i : Nat} {x : Option V} {vs : List Nat} (h : i ∈ vs) : wipe (σ.set i x) vs = wipe σ vs := by
  apply List.ext_getElem?
  intro j
  rw [wipe_get, wipe_get, List.length_set]
  by_cases hj : j ∈ vs
  · simp [hj]
  · rw [if_neg hj, if_neg hj, List.getElem?_set_ne]
    intro e
    exact hj (e ▸ h)
def gM (K : PySem.W.Frag) (G : En) (t : IT) : TG := fun v σ H Q =>
  ∃ u ρ μ α β ρ', HR K G μ α β H ∧ SR K G α β H ρ σ ∧ VR K G α β H u v ∧ setT t u μ ρ = some ρ' ∧
    ∀ σ', SR K G α β H ρ' σ' → (∀ vs : List Nat, (∀ i ∈ tgS t, i ∈ vs) → wipe σ' vs = wipe σ vs) → Q σ' H
def gMs (K : PySem.W.Frag) (G : En) (t : ITs) : TGs := fun v σ H Q =>
  ∃ u ρ μ α β ρ', HR K G μ α β H ∧ SR K G α β H ρ σ ∧ VRs K G α β H u v ∧ setTs t u μ ρ = some ρ' ∧
    ∀ σ', SR K G α β H ρ' σ' → (∀ vs : List Nat, (∀ i ∈ tgSs t, i ∈ vs) → wipe σ' vs = wipe σ vs) → Q σ' H
theorem pg_imp {X : Cx} {e : Expr} {t t' : TG} (h : PG X e t) (i : ∀ v σ H Q, t' v σ H Q → t v σ H Q) : PG X e t' := ⟨fun pins s σ H v u Q I r q => h.run pins s σ H v u Q I r (i v σ H Q q)⟩
theorem pgs_imp {X : Cx} {e : List Expr} {t t' : TGs} (h : PGs X e t) (i : ∀ v σ H Q, t' v σ H Q → t v σ H Q) : PGs X e t' := ⟨fun pins s σ H v u Q I r q => h.run pins s σ H v u Q I r (i v σ H Q q)⟩
theorem setTs_len : ∀ {ts : ITs} {us : List U} {μ : Mem} {ρ ρ' : Slots}, setTs ts us μ ρ = some ρ' → us.length = tsLen ts
  | .nil, [], _, _, _, _ => rfl
  | .nil, _ :: _, _, _, _, h => by simp [setTs] at h
  | .cons t ts, [], _, _, _, h => by simp [setTs] at h
  | .cons t ts, u :: us, μ, ρ, ρ', h => by
    unfold setTs at h
    cases q : setT t u μ ρ with
    | none => rw [q] at h; cases h
    | some ρ1 =>
      rw [q] at h
      have h : setTs ts us μ ρ1 = some ρ' := h
      simp only [tsLen, List.length_cons]
      rw [setTs_len h]
theorem chkTs_len {N : List Str} {fb : Md} {sc : Scope} : ∀ {ts : ITs} {es : List Expr}, chkTs N fb sc ts es = true → tsLen ts = es.length ∧ es.all notStar = true
  | .nil, [], _ => ⟨rfl, rfl⟩
  | .nil, _ :: _, h => by simp [chkTs] at h
  | .cons t ts, [], h => by simp [chkTs] at h
  | .cons t ts, e :: es, h => by
    simp only [chkTs, Bool.and_eq_true] at h
    obtain ⟨h1, h2⟩ := chkTs_len h.2
    exact ⟨by simp only [tsLen, List.length_cons]; rw [h1], by simp [h.1.2, h2]⟩
theorem each_cons {e : Expr} {es : List Expr} {env : Env} (h : notStar e = true) : assignEach (e :: es) env = (false, assign e env) :: assignEach es env := by
  cases e <;> first | rfl | cases h
theorem each_len {env : Env} : ∀ {es : List Expr}, es.all notStar = true → (assignEach es env).length = es.length ∧ (assignEach es env).findIdx? (·.1) = none
  | [], _ => ⟨rfl, rfl⟩
  | e :: es, h => by
    simp only [List.all_cons, Bool.and_eq_true] at h
    rw [each_cons h.1]
    obtain ⟨h1, h2⟩ := each_len (env := env) h.2
    exact ⟨by simp [h1], by simp [List.findIdx?_cons, h2]⟩
section
variable {S : Sg} {G : En} {k : Nat} {C : Orc} {N : List Str} {sc : Scope} {fb : Md} {W : WX} {X : Cx} {K : PySem.W.Frag}
theorem loc_of {x : Str} (g : GX S G k C N sc fb W X) (h : locB fb sc x = true) : Loc X.env.scope x ∧ (X.fn x = true ∨ X.env.scope.names.lookup x = some .local) := by
  rw [g.hs]
  unfold locB at h
  cases q : sc.names.lookup x with
  | none => rw [q] at h; cases h
  | some k =>
    cases k with
    | «local» => exact ⟨.inl q, .inr rfl⟩
    | cell => rw [q] at h; exact ⟨.inr q, .inl (g.hfn x h)⟩
    | _ => rw [q] at h; cases h
mutual
theorem g_tgt (g : GX S G k C N sc fb W X) : ∀ (t : IT) (e : Expr), chkT N fb sc t e = true → PG X e (gM X.K G t)
  | .name i, e, h => by
    cases e with
    | Name x pos =>
      have h : (decide (N[i]? = some x) && locB fb sc x) = true := h
      simp only [Bool.and_eq_true, decide_eq_true_eq] at h
      obtain ⟨l1, l2⟩ := loc_of g h.2
      refine pg_imp (pg_name g.nd (by rw [g.hN]; exact h.1) l1 l2) fun v σ H Q ⟨u, ρ, μ, α, β, ρ', hr, hs, r, e, q⟩ => ?_
      cases e
      exact q _ (hs.set r i) fun vs hv => wipe_set (hv i (List.mem_singleton.mpr rfl))
    | _ => cases h
  | .tup ts, e, h => by
    cases e with
    | Tuple es kk pos =>
      have h : chkTs N fb sc ts es = true := h
      have ih := g_tgts g ts es h
      obtain ⟨l1, l2⟩ := chkTs_len h
      obtain ⟨l3, l4⟩ := each_len (env := X.env) l2
      refine ⟨fun pins s σ H v uv Q I rv ⟨u, ρ, μ, α, β, ρ', hr, hs, r, e, q⟩ => ?_⟩
      have e : (match seqOf μ u with | some xs => setTs ts xs μ ρ | none => none) = some ρ' := e
      cases hx : seqOf μ u with
      | none => rw [hx] at e; cases e
      | some xs =>
        rw [hx] at e
        have e : setTs ts xs μ ρ = some ρ' := e
        obtain ⟨a, vs, rfl, h1, h2⟩ := seqOf_at hr r hx
        have m1 : vs.length = es.length := by rw [← h2.len, setTs_len e, l1]
        have m2 : gMs X.K G ts vs σ H Q := ⟨xs, ρ, μ, α, β, ρ', hr, hs, h2, e, q⟩
        rcases h1 with h1 | h1
        · cases hc : fb.calm with
          | true => exact (pg_lst (g.calm hc).1 ih l3 l4).run pins s σ H _ uv Q I rv ⟨a, vs, rfl, h1, m1, m2⟩
          | false => exact (MiniHot.pg_lstH (g.hotC hc) ih l3 l4).run pins s σ H _ uv Q I rv ⟨a, vs, rfl, h1, m1, m2⟩
        · cases hc : fb.calm with
          | true => exact (pg_tup (g.calm hc).1 ih l3 l4).run pins s σ H _ uv Q I rv ⟨a, vs, rfl, h1, m1, m2⟩
          | false => exact (MiniHot.pg_tupH (g.hotC hc) ih l3 l4).run pins s σ H _ uv Q I rv ⟨a, vs, rfl, h1, m1, m2⟩
    | _ => cases h
theorem g_tgts (g : GX S G k C N sc fb W X) : ∀ (ts : ITs) (es : List Expr), chkTs N fb sc ts es = true → PGs X es (gMs X.K G ts)
  | .nil, [], _ => pgs_imp pgs_nil fun v σ H Q ⟨u, ρ, μ, α, β, ρ', hr, hs, r, e, q⟩ => by
    cases u with
    | nil => cases r; cases e; exact ⟨rfl, q _ hs fun _ _ => rfl⟩
    | cons a b => cases e
  | .nil, _ :: _, h => by simp [chkTs] at h
  | .cons t ts, [], h => by simp [chkTs] at h
  | .cons t ts, e :: es, h => by
    simp only [chkTs, Bool.and_eq_true] at h
    refine pgs_imp (pgs_cons (g_tgt g t e h.1.1) (g_tgts g ts es h.2) (by rw [each_cons h.1.2] <;> rfl)) fun v σ H Q ⟨u, ρ, μ, α, β, ρ', hr, hs, r, e, q⟩ => ?_
    cases u with
    | nil => simp [setTs] at e
    | cons a b =>
      obtain ⟨v1, vr, rfl, r1, r2⟩ := r
      unfold setTs at e
      cases q1 : setT t a μ ρ with
      | none => rw [q1] at e; cases e
      | some ρ1 =>
        rw [q1] at e
        have e : setTs ts b μ ρ1 = some ρ' := e
        refine ⟨v1, vr, rfl, a, ρ, μ, α, β, ρ1, hr, hs, r1, q1, fun σ1 hs1 hw1 => ?_⟩
        refine ⟨b, ρ1, μ, α, β, ρ', hr, hs1, r2, e, fun σ2 hs2 hw2 => q σ2 hs2 fun vs hv => ?_⟩
        rw [hw2 vs (fun i hi => hv i (by simp [tgSs, hi])), hw1 vs (fun i hi => hv i (by simp [tgSs, hi]))]
end

/-! ### comprehensions -/
theorem wipe_wipe (σ : L2.St) (vs : List Nat) : wipe (wipe σ vs) vs = wipe σ vs := by
  apply List.ext_getElem?
  intro j
  rw [wipe_get, wipe_length, wipe_get]
  by_cases hj : j ∈ vs
  · simp [hj]
  · simp [hj]
/-! a private place written -/
mutual
theorem VR.wpriv {α β : List Addr} {H : Hp} {p : Addr} {o : HO} (hb : p ∈ β) : ∀ {u : U} {v : V}, VR K G α β H u v → VR K G α β (upd H p o) u v
  | .non, _, h => h
  | .bl _, _, h => h
  | .int _, _, h => h
  | .str _, _, h => h
  | .tup xs, _, h => by
    obtain ⟨a, vs, rfl, h1, h2⟩ := h
    refine ⟨a, vs, rfl, h1.imp (fun ⟨r, n, m⟩ => ⟨?_, n, m⟩) id, VRs.wpriv hb h2⟩
    have ne : a ≠ p := fun e => m (e ▸ hb)
    exact r.imp (fun z => by rw [upd_ne ne]; exact z) fun ⟨o, z⟩ => ⟨o, by rw [upd_ne ne]; exact z⟩
  | .lst xs, _, h => by
    obtain ⟨a, vs, rfl, ⟨h1, h3, h4⟩, h2⟩ := h
    have ne : a ≠ p := fun e => h4 (e ▸ hb)
    exact ⟨a, vs, rfl, ⟨by rw [upd_ne ne]; exact h1, h3, h4⟩, VRs.wpriv hb h2⟩
  | .rol xs, _, h => by
    obtain ⟨a, vs, rfl, h1, h2⟩ := h
    refine ⟨a, vs, rfl, h1.imp (fun ⟨r, n, m⟩ => ⟨?_, n, m⟩) id, VRs.wpriv hb h2⟩
    have ne : a ≠ p := fun e => m (e ▸ hb)
    exact r.imp (fun z => by rw [upd_ne ne]; exact z) fun ⟨o, z⟩ => ⟨o, by rw [upd_ne ne]; exact z⟩
  | .ref n, _, h => h
  | .fn _, _, h => h
  | .exn, _, h => h
theorem VRs.wpriv {α β : List Addr} {H : Hp} {p : Addr} {o : HO} (hb : p ∈ β) : ∀ {us : List U} {vs : List V}, VRs K G α β H us vs → VRs K G α β (upd H p o) us vs
  | [], _, h => h
  | _ :: _, _, h => by
    obtain ⟨v, r, rfl, h1, h2⟩ := h
    exact ⟨v, r, rfl, VR.wpriv hb h1, VRs.wpriv hb h2⟩
end
theorem HR.wpriv {μ : Mem} {α β : List Addr} {H : Hp} {p : Addr} {xs ys : List V} (h : HR K G μ α β H) (hb : p ∈ β) (hp : H p = some (.lst xs)) : HR K G μ α β (upd H p (.lst ys)) := by
  refine ⟨h.len, h.nd, h.dis, fun a ha => ?_, fun n zs hz => ?_, fun q hq => ?_⟩
  · by_cases e : a = p
    · exact ⟨_, by rw [e, upd_same]⟩
    · obtain ⟨o, ho⟩ := h.priv a ha
      exact ⟨o, by rw [upd_ne e]; exact ho⟩
  · obtain ⟨a, vs, e1, e2, e3⟩ := h.at_ n zs hz
    have ne : a ≠ p := fun e => h.dis a (List.mem_of_getElem? e1) (e ▸ hb)
    exact ⟨a, vs, e1, by rw [upd_ne ne]; exact e2, e3.wpriv hb⟩
  · obtain ⟨ps, h1, h2, h3⟩ := h.tabs q hq
    have n1 : q.1 ≠ p := fun z => by rw [z, hp] at h1; cases h1
    refine ⟨ps, by rw [upd_ne n1]; exact h1, h2, fun pos cv hc => ?_⟩
    obtain ⟨c, e1, e2⟩ := h3 pos cv hc
    refine ⟨c, e1, ?_⟩
    rw [upd_ne (fun z => by rw [z, hp] at e2; cases e2)]
    exact e2
theorem Ext.updN {α α' : List Addr} {H H' : Hp} {p : Addr} {o : HO} (e : Ext α H α' H') (hp : H p = none) : Ext α H α' (upd H' p o) :=
  ⟨e.pre, fun a u h t n => by rw [upd_ne (ne_of_none h hp)]; exact e.keep a u h t n, e.froz⟩
/-! a private list becomes one of the memory -/
mutual
theorem VR.adopt {α β : List Addr} {H : Hp} {p : Addr} : ∀ {u : U} {v : V}, VR K G α (p :: β) H u v → VR K G (α ++ [p]) β H u v
  | .non, _, h => h
  | .bl _, _, h => h
  | .int _, _, h => h
  | .str _, _, h => h
  | .tup xs, _, h => by
    obtain ⟨a, vs, rfl, h1, h2⟩ := h
    refine ⟨a, vs, rfl, h1.imp (fun ⟨r, n, m⟩ => ⟨r, fun z => ?_, fun z => m (List.mem_cons_of_mem _ z)⟩) id, VRs.adopt h2⟩
    exact (List.mem_append.mp z).elim n fun z => m (by simp at z; simp [z])
  | .lst xs, _, h => by
    obtain ⟨a, vs, rfl, ⟨h1, h3, h4⟩, h2⟩ := h
    refine ⟨a, vs, rfl, ⟨h1, fun z => ?_, fun z => h4 (List.mem_cons_of_mem _ z)⟩, VRs.adopt h2⟩
    exact (List.mem_append.mp z).elim h3 fun z => h4 (by simp at z; simp [z])
  | .rol xs, _, h => by
    obtain ⟨a, vs, rfl, h1, h2⟩ := h
    refine ⟨a, vs, rfl, h1.imp (fun ⟨r, n, m⟩ => ⟨r, fun z => ?_, fun z => m (List.mem_cons_of_mem _ z)⟩) id, VRs.adopt h2⟩
    exact (List.mem_append.mp z).elim n fun z => m (by simp at z; simp [z])
  | .ref n, _, h => by
    obtain ⟨a, rfl, h1⟩ := h
    exact ⟨a, rfl, pre_get (List.prefix_append _ _) h1⟩
  | .fn _, _, h => h
  | .exn, _, h => h
theorem VRs.adopt {α β : List Addr} {H : Hp} {p : Addr} : ∀ {us : List U} {vs : List V}, VRs K G α (p :: β) H us vs → VRs K G (α ++ [p]) β H us vs
  | [], _, h => h
  | _ :: _, _, h => by
    obtain ⟨v, r, rfl, h1, h2⟩ := h
    exact ⟨v, r, rfl, VR.adopt h1, VRs.adopt h2⟩
end
theorem HR.adopt {μ : Mem} {α β : List Addr} {H : Hp} {p : Addr} {xs : List U} {vs : List V} (h : HR K G μ α (p :: β) H) (hn : p ∉ β) (hp : H p = some (.lst vs)) (r : VRs K G α (p :: β) H xs vs) : HR K G (μ ++ [xs]) (α ++ [p]) β H := by
  have pa : p ∉ α := fun z => h.dis p z (List.mem_cons_self)
  refine ⟨by simp [h.len], List.nodup_append.mpr ⟨h.nd, by simp, fun a ha b hb z => ?_⟩, fun a ha => ?_, fun a ha => h.priv a (List.mem_cons_of_mem _ ha), fun n ys hy => ?_, h.tabs⟩
  · have hb' : b = p := by simpa using hb
    exact pa (by rw [← hb', ← z]; exact ha)
  · rcases List.mem_append.mp ha with z | z
    · exact fun w => h.dis a z (List.mem_cons_of_mem _ w)
    · have z' : a = p := by simpa using z
      rw [z']; exact hn
  · by_cases hl : n < μ.length
    · rw [List.getElem?_append_left hl] at hy
      obtain ⟨a, ws, e1, e2, e3⟩ := h.at_ n ys hy
      exact ⟨a, ws, pre_get (List.prefix_append _ _) e1, e2, e3.adopt⟩
    · have hn' : n = μ.length := by
        have := (List.getElem?_eq_some_iff.mp hy).1
        simp at this
        omega
      subst hn'
      rw [List.getElem?_append_right (Nat.le_refl _)] at hy
      simp at hy
      subst hy
      refine ⟨p, vs, ?_, hp, r.adopt⟩
      rw [← h.len, List.getElem?_append_right (Nat.le_refl _)]
      simp
theorem post_adopt {m : Bool} {us : List U} {vs : List V} {μ : Mem} {α1 α β : List Addr} {H1 H : Hp} {p : Addr} {Q : VK} (q : PostV K G β W (alloc m us μ) α1 H1 Q) (h : HR K G μ α (p :: β) H) (e : Ext α1 H1 α H) (hn : p ∉ β) (h1 : H1 p = none)
    (hp : H p = some (.lst vs)) (r : VRs K G α (p :: β) H us vs) : Q (.ref p) H := by
  have pa : p ∉ α := fun z => h.dis p z (List.mem_cons_self)
  cases m with
  | false => exact q H α h.show_ e _ ⟨p, vs, rfl, ⟨hp, pa, hn⟩, r.show_⟩
  | true =>
    refine q H (α ++ [p]) (h.adopt hn hp r) ⟨e.pre.trans (List.prefix_append _ _), e.keep, fun a o ha t n z => ?_⟩ _ ⟨p, rfl, ?_⟩
    · rcases List.mem_append.mp z with z | z
      · exact e.froz a o ha t n z
      · exact ne_of_none ha h1 (by simpa using z)
    · rw [← h.len, List.getElem?_append_right (Nat.le_refl _)]
      simp
theorem lc_reading {m : Bool} {own : List Nat} {t : IT} {di : Slots → Mem → R (List U)} {dt : Slots → Mem → R Bool} {de : Slots → Mem → R U} (hown : ∀ i ∈ tgS t, i ∈ own) :
    ∀ (σ : L2.St) (H : Hp) (Q : VK), tE X.K G W (fun ρ μ => (di ρ μ).bind fun xs μ1 =>
      match compLoop (stepD dt de) (fun u μ => setT t u μ (wipeU ρ own)) xs μ1 with
      | .ok us μ2 => if us.length ≤ bigL then alloc m us μ2 else .bad
      | _ => .bad) σ H Q → tLc (tI X.K G W di) (gM X.K G t) (tT X.K G WF dt) (tE X.K G WF de) ((ownOf N own).map (·.2)) σ H Q := by
  intro σ H Q ⟨ρ, μ, α, β, hs, hm, q⟩
  have eo : (ownOf N own).map (·.2) = own := by
    unfold ownOf
    rw [List.map_map]
    exact List.map_id _
  rw [eo]
  refine ⟨ρ, μ, α, β, hs, hm, PostG.mono (PostG.bind q) fun xs μ1 α1 H1 hm1 e1 q1 J hJ D hD => ?_⟩
  cases hc : compLoop (stepD dt de) (fun u μ => setT t u μ (wipeU ρ own)) xs μ1 with
  | bad => simp only [hc] at q1; exact q1.elim
  | exc c μ2 => simp only [hc] at q1; exact q1.elim
  | ok us μe =>
    simp only [hc] at q1
    have hz : us.length ≤ bigL := by
      rcases Nat.lt_or_ge bigL us.length with hz | hz
      · rw [if_neg (by omega)] at q1
        exact q1.elim
      · exact hz
    rw [if_pos hz] at q1
    obtain ⟨f1, f2⟩ := hm1.fresh hD
    have hs1 : SR X.K G α1 β H1 ρ σ := hs.mono e1
    have np : NoPriv α1 β H1 (D :: β) := fun a o ha _ n z => (List.mem_cons.mp z).elim (ne_of_none ha hD) n
    refine ⟨fun i m H => m = xs.length - i ∧ i ≤ xs.length ∧ ∃ μ α ys acc us', HR X.K G μ α (D :: β) H ∧ Ext α1 H1 α H ∧ H D = some (.lst acc) ∧ VRs X.K G α (D :: β) H ys acc ∧
        compLoop (stepD dt de) (fun u μ => setT t u μ (wipeU ρ own)) (xs.drop i) μ = .ok us' μe ∧ us = ys ++ us',
      ⟨xs.length, by simp, Nat.zero_le _, μ1, α1, [], [], us, hm1.hide hD, Ext.new hD, upd_same, rfl, by simpa using hc, rfl⟩, fun i m H hW => ?_⟩
    obtain ⟨rfl, hi, μ, α, ys, acc, us', hm2, e2, hacc, rys, hl, eus⟩ := hW
    have pa : ∀ {α : List Addr} {μ : Mem} {H : Hp}, HR X.K G μ α (D :: β) H → D ∉ α := fun h z => h.dis D z List.mem_cons_self
    by_cases hlt : i < xs.length
    · refine .inr ⟨hJ.go α H e2 i hlt, fun H' => ∃ μ α ys acc us', HR X.K G μ α (D :: β) H' ∧ Ext α1 H1 α H' ∧ H' D = some (.lst acc) ∧ VRs X.K G α (D :: β) H' ys acc ∧
        compLoop (stepD dt de) (fun u μ => setT t u μ (wipeU ρ own)) (xs.drop (i + 1)) μ = .ok us' μe ∧ us = ys ++ us', fun H' hN => ⟨xs.length - (i + 1), by omega, rfl, hlt, hN⟩, fun x H' hy => ?_⟩
      rw [List.drop_eq_getElem_cons hlt] at hl
      obtain ⟨hm3, e3, rx⟩ := hJ.yld α (D :: β) H μ e2 np hm2 i xs[i] x H' (List.getElem?_eq_getElem hlt) hy
      have hD3 : H' D = some (.lst acc) := e3.keepN hacc (pa hm2) (fun _ z => by cases z)
      unfold compLoop at hl
      cases hset : setT t xs[i] μ (wipeU ρ own) with
      | none => rw [hset] at hl; cases hl
      | some ρ1 =>
        simp only [hset] at hl
        have hs3 : SR X.K G α (D :: β) H' (wipeU ρ own) (wipe σ own) := (((hs1.hide hD).mono e2).mono e3).wipe own
        refine ⟨xs[i], wipeU ρ own, μ, α, D :: β, ρ1, hm3, hs3, rx, hset, fun σ2 hs2 hw2 => ⟨by rw [hw2 own hown, wipe_wipe], ?_⟩⟩
        refine ⟨ρ1, μ, α, D :: β, hs2, hm3, ?_⟩
        unfold stepD at hl
        cases hdt : dt ρ1 μ with
        | bad => simp only [hdt] at hl; cases hl
        | exc c μ2 => simp only [hdt] at hl; cases hl
        | ok b μ2 =>
          simp only [hdt] at hl
          intro H4 α4 hm4 e4
          have hD4 : H4 D = some (.lst acc) := e4.keepN hD3 (pa hm3) (fun _ z => by cases z)
          have e24 : Ext α1 H1 α4 H4 := (e2.trans e3).trans e4
          cases b with
          | false =>
            refine iteF ⟨μ2, α4, ys, acc, us', hm4, e24, hD4, (rys.mono e3).mono e4, hl, eus⟩
          | true =>
            refine iteT ⟨ρ1, μ2, α4, D :: β, hs2.mono e4, hm4, ?_⟩
            cases hde : de ρ1 μ2 with
            | bad => simp only [hde] at hl; cases hl
            | exc c μ3 => simp only [hde] at hl; cases hl
            | ok u μ3 =>
              simp only [hde] at hl
              have hl : (match compLoop (stepD dt de) (fun u μ => setT t u μ (wipeU ρ own)) (xs.drop (i + 1)) μ3 with
                | .ok us μ2 => R.ok (u :: us) μ2
                | _ => .bad) = .ok us' μe := hl
              cases hc2 : compLoop (stepD dt de) (fun u μ => setT t u μ (wipeU ρ own)) (xs.drop (i + 1)) μ3 with
              | bad => rw [hc2] at hl; cases hl
              | exc c μ4 => rw [hc2] at hl; cases hl
              | ok us2 μ4 =>
                rw [hc2] at hl
                cases hl
                intro H5 α5 hm5 e5 v rv
                have hD5 : H5 D = some (.lst acc) := e5.keepN hD4 (pa hm4) (fun _ z => by cases z)
                have r5 : VRs X.K G α5 (D :: β) H5 ys acc := ((rys.mono e3).mono e4).mono e5
                refine ⟨acc, hD5, ?_, μ3, α5, ys ++ [u], acc ++ [v], us2, hm5.wpriv List.mem_cons_self hD5, (e24.trans e5).updN hD, upd_same, ?_, hc2, by rw [eus]; simp⟩
                · have l1 := r5.len
                  have l2 : us.length = ys.length + (us2.length + 1) := by rw [eus]; simp
                  rw [sizeLine_eq]
                  unfold bigL at hz
                  omega
                · exact (r5.app (show VRs X.K G α5 (D :: β) H5 [u] [v] from ⟨v, [], rfl, rv, rfl⟩)).wpriv List.mem_cons_self
    · have hie : i = xs.length := by omega
      subst hie
      refine .inl ⟨hJ.stop α H e2 _ (Nat.le_refl _), ?_⟩
      rw [List.drop_length] at hl
      cases hl
      rw [List.append_nil] at eus
      subst eus
      exact post_adopt q1 hm2 e2 f2 hD hacc rys
end
end Mini

set_option maxHeartbeats 4000000
/-! Mini, part H: comprehensions as values, loops, statements. -/
namespace Mini
open PySem PySem.Spec PyProof.Rows L2 LamX

theorem fold_set {e : Expr} {env : Env} (h : notSet e = true) (x : Value) : foldedSetIterable e env x = pure x := by
  cases e <;> first | rfl | cases h
section
variable {S : Sg} {G : En} {k : Nat} {C : Orc} {N : List Str} {sc : Scope} {fb : Md} {W : WX} {X : Cx} {K : PySem.W.Frag}
theorem takes0N {X : Cx} : L2N.Takes X (fun _ _ _ _ => False) := fun _ _ x => by
  obtain ⟨_, _, _, _, _, _, _, _, _, _, _, _, _, _, _, _, z⟩ := x
  exact z.elim
/-- a comprehension's block -/
theorem GX.blk (g : GX S G k C N sc fb W X) (hc : fb.calm = true) (s : Shared) (H : Hp) (scope : Scope) (hk : scope.kind = .function) (D : Addr) (cl : List (Str × Addr)) (fp : List Addr) :
    GX S G k C N (relS scope sc) (fb.blk scope) WF (X.blk s H scope (compEnvC scope cl D X.env) fp) where
  mf := g.mf
  ff := g.ff
  hN := g.hN
  nd := g.nd
  hs := by rw [← g.hs]; rfl
  kd := hk
  calm := g.calm
  hot := fun h => by
    have h : fb.calm = false := h
    rw [hc] at h
    cases h
  lm := fun h => ⟨(g.lm h).er, (g.lm h).room, (g.lm h).ea, (g.lm h).tab⟩
  hfn := fun x h => h
  tk := takes0N
  un := g.un
  po := PassesOwn.never
theorem GX.blkH (g : GX S G k C N sc fb W X) (hc : fb.calm = false) {p : Addr × Obj} {c : Exn} (hh : HotF S G C X p c) (s : Shared) (H : Hp) (scope : Scope) (hk : scope.kind = .function) (D : Addr) (cl : List (Str × Addr)) (fp : List Addr) :
    GX S G k C N (relS scope sc) (fb.blk scope) WF (MiniHot.blkH X p s H scope (compEnvC scope cl D X.env) fp) where
  mf := g.mf
  ff := g.ff
  hN := g.hN
  nd := g.nd
  hs := by rw [← g.hs]; rfl
  kd := hk
  calm := fun h => by
    have h : fb.calm = true := h
    rw [hc] at h
    cases h
  hot := fun _ => ⟨p, c, hh.ea, List.mem_singleton.mpr rfl, hh.hot, hh.orc, hh.cls, hh.zc, hh.fld⟩
  lm := fun h => ⟨(g.lm h).er, (g.lm h).room, (g.lm h).ea, (g.lm h).tab⟩
  hfn := fun x h => h
  tk := takes0N
  un := g.un
  po := PassesOwn.never
/-- tests of a comprehension: none, or one -/
theorem pts_of0 {X : Cx} : PTs X [] (tT X.K G W (fun _ μ => .ok true μ)) := by
  refine ⟨fun pins s σ H Q I ⟨ρ, μ, α, β, hs, hm, q⟩ => pts_nil.run pins s σ H Q I (PostG.ok hm q)⟩
theorem pts_of1 {X : Cx} {d : Slots → Mem → R U} {c : Expr} (h : MT X G W d c) : PTs X [c] (tT X.K G W (fun ρ μ => (truR (d ρ μ)).bind fun k μ1 => match k with
    | true => .ok true μ1
    | false => .ok false μ1)) := by
  refine ⟨fun pins s σ H Q I ⟨ρ, μ, α, β, hs, hm, q⟩ => (pts_one h).run pins s σ H Q I ⟨ρ, μ, α, β, hs, hm, PostG.mono (PostG.bind q) fun b μ1 α1 H1 hm1 e1 q1 => ?_⟩⟩
  cases b <;> exact PostG.ok hm1 q1
theorem own_map {N : List Str} {own : List Nat} : (ownOf N own).map (·.2) = own := by
  unfold ownOf
  rw [List.map_map]
  exact List.map_id _
section
variable {m : Bool} {own : List Nat} {t : IT} {di : Slots → Mem → R (List U)} {dt : Slots → Mem → R Bool} {de : Slots → Mem → R U} {elt tg it : Expr} {ifs : List Expr} {scope : Scope} {pos : Pos}
abbrev compD (m : Bool) (own : List Nat) (t : IT) (di : Slots → Mem → R (List U)) (dt : Slots → Mem → R Bool) (de : Slots → Mem → R U) : Slots → Mem → R U := fun ρ μ => (di ρ μ).bind fun xs μ1 =>
  match compLoop (stepD dt de) (fun u μ => setT t u μ (wipeU ρ own)) xs μ1 with
  | .ok us μ2 => if us.length ≤ bigL then alloc m us μ2 else .bad
  | _ => .bad
/-- what the block's pieces say, wherever it stands -/
abbrev Parts (S : Sg) (G : En) (k : Nat) (C : Orc) (N : List Str) (sc : Scope) (fb : Md) (K : PySem.W.Frag) (scope : Scope) (t : IT) (dt : Slots → Mem → R Bool) (de : Slots → Mem → R U) (tg elt : Expr) (ifs : List Expr) : Prop :=
  ∀ Y : Cx, Y.K = K → GX S G k C N (relS scope sc) (fb.blk scope) WF Y → PG Y tg (gM K G t) ∧ PTs Y ifs (tT K G WF dt) ∧ PE Y elt (tE K G WF de)
theorem m_comp (g : GX S G k C N sc fb W X) (hi : fb.calm = true → MI X G W di tg it) (hiH : fb.calm = false → MIH X G W di tg it) (ok : blkC N sc scope (ownOf N own) = true) (hset : notSet it = true) (hown : ∀ i ∈ tgS t, i ∈ own)
    (parts : Parts S G k C N sc fb X.K scope t dt de tg elt ifs) : ME X G W (compD m own t di dt de) (.ListComp elt [⟨tg, it, ifs, 0⟩] scope pos) := by
  have ok' : BlkOk X.N X.env.scope scope (ownOf N own) := by rw [g.hN, g.hs]; exact blkOk_by ok
  have hk := (blkOk_by ok).kind
  cases hc : fb.calm with
  | true =>
    have q := fun s H D cl fp => parts (X.blk s H scope (compEnvC scope cl D X.env) fp) rfl (g.blk hc s H scope hk D cl fp)
    exact pe_imp (pe_lc (g.calm hc).1 g.nd (hi hc) ok' (fun s H D cl fp => (q s H D cl fp).1) (fun s H D cl fp => (q s H D cl fp).2.1) (fun s H D cl fp => (q s H D cl fp).2.2) (fold_set hset)) (lc_reading hown)
  | false =>
    obtain ⟨p, c, hh⟩ := g.hot hc
    exact pe_imp (MiniHot.pe_lcH hh.hot hh.pn g.nd (hiH hc) ok' (fun s H D cl fp => parts _ rfl (g.blkH hc hh s H scope hk D cl fp)) (fold_set hset)) (lc_reading hown)
end

/-! ### statements -/
def MS (X : Cx) (G : En) (W : WX) (d : Slots → Mem → R Fl) (st : Stmt) : Prop := PS X st (tS X.K G W d)
def MSs (X : Cx) (G : En) (W : WX) (d : Slots → Mem → R Fl) (st : List Stmt) : Prop := PSs X st (tS X.K G W d)
theorem ps_imp {X : Cx} {e : Stmt} {t t' : TS} (h : PS X e t) (i : ∀ D σ H, t' D σ H → t D σ H) : PS X e t' := ⟨fun pins s σ H D I q => h.run pins s σ H D I (i D σ H q)⟩
theorem pss_imp {X : Cx} {e : List Stmt} {t t' : TS} (h : PSs X e t) (i : ∀ D σ H, t' D σ H → t D σ H) : PSs X e t' := ⟨fun pins s σ H D I q => h.run pins s σ H D I (i D σ H q)⟩
theorem ms_nil : MSs X G W (fun ρ μ => .ok (.next ρ) μ) [] := pss_imp pss_nil fun D σ H ⟨ρ, μ, α, β, hs, hm, q⟩ => PostG.ok hm q σ hs
theorem ms_cons {d ds : Slots → Mem → R Fl} {st : Stmt} {rest : List Stmt} (h : MS X G W d st) (hs : MSs X G W ds rest) : MSs X G W (fun ρ μ => match d ρ μ with
    | .ok (.next ρ1) μ1 => ds ρ1 μ1
    | .ok (.ret u) μ1 => .ok (.ret u) μ1
    | .ok (.brk ρ1) μ1 => .ok (.brk ρ1) μ1
    | .ok (.cont ρ1) μ1 => .ok (.cont ρ1) μ1
    | .exc c μ1 => .exc c μ1
    | .bad => .bad) (st :: rest) := by
  refine pss_imp (pss_cons h hs) fun D σ H ⟨ρ, μ, α, β, hs, hm, q⟩ => ⟨ρ, μ, α, β, hs, hm, ?_⟩
  cases hd : d ρ μ with
  | bad => simp only [hd] at q; exact q.elim
  | exc c μ1 => simp only [hd] at q; exact q
  | ok f μ1 =>
    simp only [hd] at q
    cases f with
    | next ρ1 => exact fun H1 α1 hm1 e1 σ1 hs1 => ⟨ρ1, μ1, α1, β, hs1, hm1, PostG.rebase e1 q⟩
    | ret u => exact q
    | brk ρ1 => exact q
    | cont ρ1 => exact q
theorem m_ret {d : Slots → Mem → R U} {e : Expr} {pos : Pos} (h : ME X G W d e) : MS X G W (fun ρ μ => (d ρ μ).bind fun u μ1 => .ok (.ret u) μ1) (.Return (some e) pos) :=
  ps_imp (ps_ret h) fun D σ H ⟨ρ, μ, α, β, hs, hm, q⟩ => ⟨ρ, μ, α, β, hs, hm, PostG.mono (PostG.bind q) fun u μ1 α1 H1 hm1 e1 q1 => PostG.ok hm1 q1⟩
theorem m_retN {pos : Pos} : MS X G W (fun _ μ => .ok (.ret .non) μ) (.Return none pos) :=
  ps_imp ps_retN fun D σ H ⟨ρ, μ, α, β, hs, hm, q⟩ => PostG.ok hm q _ rfl
theorem swaps_none {e : Expr} {l : Nat} {env : Env} {t : Option Expr} (h : notComp e = true) : swapsWith e t l env = pure false := by
  cases e <;> first | rfl | cases h
theorem sole_none {t e : Expr} {l : Nat} {env : Env} (h : notComp e = true) : swapsWithSole [t] e l env = pure false := swaps_none (t := some t) h
theorem m_exp {d : Slots → Mem → R U} {e : Expr} {pos : Pos} (hn : notComp e = true) (h : ME X G W d e) : MS X G W (fun ρ μ => (d ρ μ).bind fun _ μ1 => .ok (.next ρ) μ1) (.Expr e pos) :=
  ps_imp (ps_expr h (swaps_none hn)) fun D σ H ⟨ρ, μ, α, β, hs, hm, q⟩ => ⟨ρ, μ, α, β, hs, hm, PostG.mono (PostG.bind q) fun u μ1 α1 H1 hm1 e1 q1 v _ => PostG.ok hm1 q1 σ (hs.mono e1)⟩
theorem m_if {dc : Slots → Mem → R U} {da db : Slots → Mem → R Fl} {c : Expr} {a b : List Stmt} {pos : Pos} (hc : MT X G W dc c) (ha : MSs X G W da a) (hb : MSs X G W db b) : MS X G W (fun ρ μ => (truR (dc ρ μ)).bind fun k μ1 => match k with
    | true => da ρ μ1
    | false => db ρ μ1) (.If c a b pos) := by
  refine ps_imp (ps_if hc ha hb) fun D σ H ⟨ρ, μ, α, β, hs, hm, q⟩ => ⟨ρ, μ, α, β, hs, hm, PostG.mono (PostG.bind q) fun k μ1 α1 H1 hm1 e1 q1 => ?_⟩
  cases k with
  | true => exact iteT ⟨ρ, μ1, α1, β, hs.mono e1, hm1, q1⟩
  | false => exact iteF ⟨ρ, μ1, α1, β, hs.mono e1, hm1, q1⟩
theorem m_pass {pos : Pos} : MS X G W (fun ρ μ => .ok (.next ρ) μ) (.Pass pos) := ps_imp ps_pass fun D σ H ⟨ρ, μ, α, β, hs, hm, q⟩ => PostG.ok hm q σ hs
theorem m_brk {pos : Pos} : MS X G W (fun ρ μ => .ok (.brk ρ) μ) (.Break pos) := ps_imp ps_break fun D σ H ⟨ρ, μ, α, β, hs, hm, q⟩ => PostG.ok hm q σ hs
theorem m_cont {pos : Pos} : MS X G W (fun ρ μ => .ok (.cont ρ) μ) (.Continue pos) := ps_imp ps_continue fun D σ H ⟨ρ, μ, α, β, hs, hm, q⟩ => PostG.ok hm q σ hs
/-- what follows a store -/
theorem set_read {t : IT} {d : Slots → Mem → R U} {D : Ends} {σ : L2.St} {H : Hp} (h : tS K G W (fun ρ μ => (d ρ μ).bind fun u μ1 => stored (setT t u μ1 ρ) μ1) D σ H) : tE K G W d σ H (fun x H1 => gM K G t x σ H1 D.nx) := by
  obtain ⟨ρ, μ, α, β, hs, hm, q⟩ := h
  refine ⟨ρ, μ, α, β, hs, hm, PostG.mono (PostG.bind q) fun u μ1 α1 H1 hm1 e1 q1 v rv => ?_⟩
  cases ht : setT t u μ1 ρ with
  | none => rw [ht] at q1; exact q1.elim
  | some ρ1 =>
    rw [ht] at q1
    exact ⟨u, ρ, μ1, α1, β, ρ1, hm1, hs.mono e1, rv, ht, fun σ' hs' _ => PostG.ok hm1 q1 σ' hs'⟩
theorem m_set {t : IT} {d : Slots → Mem → R U} {tg e : Expr} {pos : Pos} (he : ME X G W d e) (hg : PG X tg (gM X.K G t)) (hs : swapsWithSole [tg] e pos.line X.env = pure false) (hw : swappedStores [tg] e X.env = pure none) (hn : notStar tg = true) :
    MS X G W (fun ρ μ => (d ρ μ).bind fun u μ1 => stored (setT t u μ1 ρ) μ1) (.Assign [tg] e pos) :=
  ps_imp (ps_asg he hg hs hw (by rw [each_cons hn] <;> rfl)) fun D σ H h => set_read h
/-- o[i] = e -/
theorem m_seti {dO di de : Slots → Mem → R U} {o i e : Expr} {p pos : Pos} (ho : ME X G W dO o) (hi : ME X G W di i) (he : ME X G W de e) (hsl : notSlice i = true) (hn : notComp e = true) :
    MS X G W (fun ρ μ => (de ρ μ).bind fun v μ1 => (dO ρ μ1).bind fun u μ2 => (di ρ μ2).bind fun k μ3 => match u, k with
    | .ref n, .int k => match μ3[n]? with
      | some xs => match ixN xs.length k with
        | some j => .ok (.next ρ) (μ3.set n (xs.set j v))
        | none => .bad
      | none => .bad
    | _, _ => .bad) (.Assign [.Subscript o i p] e pos) := by
  refine ps_imp (ps_asg he (pg_sub ho hi set_list (by
    intro v
    cases i <;> first | rfl | cases hsl)) (sole_none hn) rfl rfl) fun D σ H ⟨ρ, μ, α, β, hs, hm, q⟩ => ?_
  refine ⟨ρ, μ, α, β, hs, hm, PostG.mono (PostG.bind q) fun u μ1 α1 H1 hm1 e1 q1 v rv => ?_⟩
  refine ⟨ρ, μ1, α1, β, hs.mono e1, hm1, PostG.mono (PostG.bind q1) fun w μ2 α2 H2 hm2 e2 q2 z rz => ?_⟩
  refine ⟨ρ, μ2, α2, β, (hs.mono e1).mono e2, hm2, PostG.mono (PostG.bind q2) fun kk μ3 α3 H3 hm3 e3 q3 y ry => ?_⟩
  cases w with
  | ref n =>
    cases kk with
    | int kk =>
      have q3 : PostG X.K G β W (match μ3[n]? with
        | some xs => match ixN xs.length kk with
          | some j => R.ok (Fl.next ρ) (μ3.set n (xs.set j u))
          | none => .bad
        | none => .bad) α3 H3 (fun f x α' H' => FS X.K G β D f α' H') := q3
      cases hx : μ3[n]? with
      | none => rw [hx] at q3; exact q3.elim
      | some xs =>
        rw [hx] at q3
        have q3 : PostG X.K G β W (match ixN xs.length kk with
          | some j => R.ok (Fl.next ρ) (μ3.set n (xs.set j u))
          | none => .bad) α3 H3 (fun f x α' H' => FS X.K G β D f α' H') := q3
        cases hj : ixN xs.length kk with
        | none => rw [hj] at q3; exact q3.elim
        | some j =>
          rw [hj] at q3
          cases ry
          obtain ⟨a, rfl, ha⟩ := rz
          obtain ⟨a', ws, g1, g2, g3⟩ := hm3.at_ n xs hx
          rw [pre_get e3.pre ha] at g1
          cases g1
          have ext := hm3.set (pre_get e3.pre ha) g2 (VRs.set (rv.mono (e2.trans e3)) j g3)
          refine ⟨a, ws, kk, j, rfl, rfl, g2, by rw [← g3.len]; exact hj, ?_⟩
          exact q3 _ _ ext.2 ext.1 σ ((((hs.mono e1).mono e2).mono e3).mono ext.1)
    | _ => exact q3.elim
  | _ => cases kk <;> exact q3.elim
/-! ### loops -/
theorem m_for {t : IT} {di : Slots → Mem → R (List U)} {db : Slots → Mem → R Fl} {tg it : Expr} {body : List Stmt} {pos : Pos} (g : GX S G k C N sc fb W X) (hc : fb.calm = true) (hi : MI X G W di tg it) (hset : notSet it = true) (hg : PG X tg (gM X.K G t)) (hb : MSs X G W db body) :
    MS X G W (fun ρ μ => (di ρ μ).bind fun xs μ1 => forLoop db (fun u μ ρ => setT t u μ ρ) xs ρ μ1) (.For tg it body [] pos) := by
  refine ps_imp (ps_for g.po (g.calm hc).1 hi hg hb (fold_set hset)) fun D σ H ⟨ρ, μ, α, β, hs, hm, q⟩ => ?_
  refine ⟨ρ, μ, α, β, hs, hm, PostG.mono (PostG.bind q) fun xs μ1 α1 H1 hm1 e1 q1 J hJ => ?_⟩
  refine ⟨fun i m σ H => m = xs.length - i ∧ i ≤ xs.length ∧ ∃ ρ μ α, SR X.K G α β H ρ σ ∧ HR X.K G μ α β H ∧ Ext α1 H1 α H ∧ PostS X.K G β W (forLoop db (fun u μ ρ => setT t u μ ρ) (xs.drop i) ρ μ) α H D,
    ⟨xs.length, by simp, Nat.zero_le _, ρ, μ1, α1, hs.mono e1, hm1, Ext.refl _ _, by simpa using q1⟩, fun i m σ H hW => ?_⟩
  obtain ⟨rfl, hi, ρ, μ, α, hs2, hm2, e2, q2⟩ := hW
  have np : NoPriv α1 β H1 β := fun a o _ _ n => n
  by_cases hlt : i < xs.length
  · refine .inr ⟨hJ.go α H e2 i hlt, fun σ' H' => ∃ ρ μ α, SR X.K G α β H' ρ σ' ∧ HR X.K G μ α β H' ∧ Ext α1 H1 α H' ∧ PostS X.K G β W (forLoop db (fun u μ ρ => setT t u μ ρ) (xs.drop (i + 1)) ρ μ) α H' D,
      fun σ' H' hN => ⟨xs.length - (i + 1), by omega, rfl, hlt, hN⟩, fun x H' hy => ?_⟩
    rw [List.drop_eq_getElem_cons hlt] at q2
    obtain ⟨hm3, e3, rx⟩ := hJ.yld α β H μ e2 np hm2 i xs[i] x H' (List.getElem?_eq_getElem hlt) hy
    unfold forLoop at q2
    cases hset : setT t xs[i] μ ρ with
    | none => simp only [hset] at q2; exact q2.elim
    | some ρ1 =>
      simp only [hset] at q2
      refine ⟨xs[i], ρ, μ, α, β, ρ1, hm3, hs2.mono e3, rx, hset, fun σ2 hs3 _ => ⟨ρ1, μ, α, β, hs3, hm3, ?_⟩⟩
      cases hd : db ρ1 μ with
      | bad => simp only [hd] at q2; exact q2.elim
      | exc c μ1 => simp only [hd] at q2; exact PostG.rebase e3 q2
      | ok f μ1 =>
        simp only [hd] at q2
        cases f with
        | next ρ2 => exact fun H4 α4 hm4 e4 σ4 hs4 => ⟨ρ2, μ1, α4, hs4, hm4, (e2.trans e3).trans e4, PostG.rebase (e3.trans e4) q2⟩
        | cont ρ2 => exact fun H4 α4 hm4 e4 σ4 hs4 => ⟨ρ2, μ1, α4, hs4, hm4, (e2.trans e3).trans e4, PostG.rebase (e3.trans e4) q2⟩
        | brk ρ2 => exact PostG.rebase e3 q2
        | ret u => exact PostG.rebase e3 q2
  · have hie : i = xs.length := by omega
    subst hie
    rw [List.drop_length] at q2
    exact .inl ⟨hJ.stop α H e2 _ (Nat.le_refl _), PostG.ok hm2 q2 σ hs2⟩
theorem m_while {n : Nat} {dc : Slots → Mem → R U} {db : Slots → Mem → R Fl} {c : Expr} {body : List Stmt} {pos : Pos} (g : GX S G k C N sc fb W X) (hc : MT X G W dc c) (hb : MSs X G W db body) :
    MS X G W (fun ρ μ => whileLoop (fun ρ μ => truR (dc ρ μ)) db n ρ μ) (.While c body [] pos) := by
  refine ps_imp (ps_while g.po hc hb) fun D σ H ⟨ρ, μ, α, β, hs, hm, q⟩ => ?_
  refine ⟨fun m σ H => ∃ ρ μ α, SR X.K G α β H ρ σ ∧ HR X.K G μ α β H ∧ PostS X.K G β W (whileLoop (fun ρ μ => truR (dc ρ μ)) db m ρ μ) α H D, ⟨n, ρ, μ, α, hs, hm, q⟩, fun m σ H hW => ?_⟩
  obtain ⟨ρ, μ, α, hs, hm, q⟩ := hW
  cases m with
  | zero => exact q.elim
  | succ m =>
    unfold whileLoop at q
    refine ⟨ρ, μ, α, β, hs, hm, ?_⟩
    cases ht : truR (dc ρ μ) with
    | bad => simp only [ht] at q; exact q.elim
    | exc c μ1 =>
      simp only [ht] at q
      dsimp only
      rw [ht]
      exact q
    | ok b μ1 =>
      simp only [ht] at q
      dsimp only
      rw [ht]
      cases b with
      | false => exact fun H1 α1 hm1 e1 => iteF (q H1 α1 hm1 e1 σ (hs.mono e1))
      | true =>
        refine fun H1 α1 hm1 e1 => iteT ⟨fun σ' H' => ∃ ρ μ α, SR X.K G α β H' ρ σ' ∧ HR X.K G μ α β H' ∧ PostS X.K G β W (whileLoop (fun ρ μ => truR (dc ρ μ)) db m ρ μ) α H' D,
          fun σ' H' hN => ⟨m, Nat.lt_succ_self m, hN⟩, ρ, μ1, α1, β, hs.mono e1, hm1, ?_⟩
        have q := PostG.rebase e1 q
        cases hd : db ρ μ1 with
        | bad => simp only [hd] at q; exact q.elim
        | exc c μ1 => simp only [hd] at q; exact q
        | ok f μ2 =>
          simp only [hd] at q
          cases f with
          | next ρ2 => exact fun H4 α4 hm4 e4 σ4 hs4 => ⟨ρ2, μ2, α4, hs4, hm4, PostG.rebase e4 q⟩
          | cont ρ2 => exact fun H4 α4 hm4 e4 σ4 hs4 => ⟨ρ2, μ2, α4, hs4, hm4, PostG.rebase e4 q⟩
          | brk ρ2 => exact q
          | ret u => exact q
end
end Mini

set_option maxHeartbeats 4000000
/-! Mini, part L: f(lambda: body), f a def that catches. -/
namespace Mini
open PySem PySem.Spec PyProof.Rows L2 LamX

/-! ### behind a def -/
section
variable {K : PySem.W.Frag} {G : En} {eo : Option Addr} {α α' β : List Addr} {H : Hp} {μ : Mem}
theorem pre_none {n0 : Nat} (p : α <+: α') (hl : α.length = n0) {n : Nat} {a : Addr} (h : α'[n]? = some a) (hn : n < n0) : α[n]? = some a := by
  obtain ⟨t, rfl⟩ := p
  rw [List.getElem?_append_left (by omega)] at h
  exact h
mutual
theorem VR.below {n0 : Nat} (p : α <+: α') (hl : α.length = n0) : ∀ {u : U} {v : V}, Mini.below n0 u = true → VR K { G with ea := eo } α' β H u v → VR K G α β H u v
  | .non, _, _, h => h
  | .bl _, _, _, h => h
  | .int _, _, _, h => h
  | .str _, _, _, h => h
  | .tup xs, _, b, h => by
    obtain ⟨a, vs, rfl, h1, h2⟩ := h
    exact ⟨a, vs, rfl, h1.imp (fun ⟨r, n, m⟩ => ⟨r, fun z => n (p.subset z), m⟩) id, VRs.below p hl b h2⟩
  | .lst xs, _, b, h => by
    obtain ⟨a, vs, rfl, ⟨h1, h3, h4⟩, h2⟩ := h
    exact ⟨a, vs, rfl, ⟨h1, fun z => h3 (p.subset z), h4⟩, VRs.below p hl b h2⟩
  | .rol xs, _, b, h => by
    obtain ⟨a, vs, rfl, h1, h2⟩ := h
    exact ⟨a, vs, rfl, h1.imp (fun ⟨r, n, m⟩ => ⟨r, fun z => n (p.subset z), m⟩) id, VRs.below p hl b h2⟩
  | .ref n, _, b, h => by
    obtain ⟨a, rfl, h1⟩ := h
    exact ⟨a, rfl, pre_none p hl h1 (by simpa [Mini.below] using b)⟩
  | .fn _, _, _, h => h
  | .exn, _, b, _ => nomatch b
theorem VRs.below {n0 : Nat} (p : α <+: α') (hl : α.length = n0) : ∀ {us : List U} {vs : List V}, Mini.belows n0 us = true → VRs K { G with ea := eo } α' β H us vs → VRs K G α β H us vs
  | [], _, _, h => h
  | _ :: _, _, b, h => by
    simp only [Mini.belows, Bool.and_eq_true] at b
    obtain ⟨v, r, rfl, h1, h2⟩ := h
    exact ⟨v, r, rfl, VR.below p hl b.1 h1, VRs.below p hl b.2 h2⟩
end
theorem HR.sweep {n0 : Nat} (h : HR K { G with ea := eo } μ α' β H) (p : α <+: α') (hl : α.length = n0) (sw : swept n0 μ = true) : HR K G (μ.take n0) α β H := by
  have hle : n0 ≤ μ.length := by
    rw [← h.len, ← hl]
    exact p.length_le
  refine ⟨by rw [List.length_take, hl]; omega, p.sublist.nodup h.nd, fun a ha => h.dis a (p.subset ha), h.priv, fun n xs hx => ?_, h.tabs⟩
  have hn : n < n0 := by
    have := (List.getElem?_eq_some_iff.mp hx).1
    rw [List.length_take] at this
    omega
  rw [List.getElem?_take_of_lt hn] at hx
  obtain ⟨a, vs, e1, e2, e3⟩ := h.at_ n xs hx
  refine ⟨a, vs, pre_none p hl e1 hn, e2, VRs.below p hl ?_ e3⟩
  unfold swept at sw
  have hm : xs ∈ μ.take n0 := List.mem_of_getElem? (by rw [List.getElem?_take_of_lt hn]; exact hx)
  exact List.all_eq_true.mp sw xs hm
mutual
theorem VR.frz {get : Nat → Option U} (hg : ∀ n v u2, get n = some u2 → VR K { G with ea := eo } α' β H (.ref n) v → VR K G α β H u2 v) (p : α <+: α') : ∀ {u u2 : U} {v : V}, Mini.frz get u = some u2 → VR K { G with ea := eo } α' β H u v → VR K G α β H u2 v
  | .non, _, _, e, h => by cases e; exact h
  | .bl _, _, _, e, h => by cases e; exact h
  | .int _, _, _, e, h => by cases e; exact h
  | .str _, _, _, e, h => by cases e; exact h
  | .tup xs, _, _, e, h => by
    obtain ⟨a, vs, rfl, h1, h2⟩ := h
    have e : (Mini.frzs get xs).map U.tup = _ := e
    cases q : Mini.frzs get xs with
    | none => rw [q] at e; cases e
    | some ys =>
      rw [q] at e
      cases e
      exact ⟨a, vs, rfl, h1.imp (fun ⟨r, n, m⟩ => ⟨r, fun z => n (p.subset z), m⟩) id, VRs.frz hg p q h2⟩
  | .lst xs, _, _, e, h => by
    obtain ⟨a, vs, rfl, ⟨h1, h3, h4⟩, h2⟩ := h
    have e : (Mini.frzs get xs).map U.lst = _ := e
    cases q : Mini.frzs get xs with
    | none => rw [q] at e; cases e
    | some ys =>
      rw [q] at e
      cases e
      exact ⟨a, vs, rfl, ⟨h1, fun z => h3 (p.subset z), h4⟩, VRs.frz hg p q h2⟩
  | .rol xs, _, _, e, h => by
    obtain ⟨a, vs, rfl, h1, h2⟩ := h
    have e : (Mini.frzs get xs).map U.rol = _ := e
    cases q : Mini.frzs get xs with
    | none => rw [q] at e; cases e
    | some ys =>
      rw [q] at e
      cases e
      exact ⟨a, vs, rfl, h1.imp (fun ⟨r, n, m⟩ => ⟨r, fun z => n (p.subset z), m⟩) id, VRs.frz hg p q h2⟩
  | .ref n, _, _, e, h => hg n _ _ e h
  | .fn _, _, _, e, h => by cases e; exact h
  | .exn, _, _, e, _ => nomatch e
theorem VRs.frz {get : Nat → Option U} (hg : ∀ n v u2, get n = some u2 → VR K { G with ea := eo } α' β H (.ref n) v → VR K G α β H u2 v) (p : α <+: α') : ∀ {us us2 : List U} {vs : List V}, Mini.frzs get us = some us2 → VRs K { G with ea := eo } α' β H us vs → VRs K G α β H us2 vs
  | [], _, _, e, h => by cases e; exact h
  | u :: us, _, _, e, h => by
    obtain ⟨v, r, rfl, h1, h2⟩ := h
    unfold Mini.frzs at e
    cases q1 : Mini.frz get u with
    | none => rw [q1] at e; cases e
    | some a =>
      cases q2 : Mini.frzs get us with
      | none => rw [q1, q2] at e; cases e
      | some b =>
        rw [q1, q2] at e
        cases e
        exact ⟨v, r, rfl, VR.frz hg p q1 h1, VRs.frz hg p q2 h2⟩
end
theorem getF_ok {n0 : Nat} (h : HR K { G with ea := eo } μ α' β H) (p : α <+: α') (hl : α.length = n0) : ∀ (k : Nat) n v u2, getF μ n0 k n = some u2 → VR K { G with ea := eo } α' β H (.ref n) v → VR K G α β H u2 v
  | 0, _, _, _, e, _ => by cases e
  | k + 1, n, v, u2, e, r => by
    unfold getF at e
    by_cases hn : n < n0
    · rw [if_pos hn] at e
      cases e
      obtain ⟨a, rfl, h1⟩ := r
      exact ⟨a, rfl, pre_none p hl h1 hn⟩
    · rw [if_neg hn] at e
      obtain ⟨a, rfl, h1⟩ := r
      cases q : μ[n]? with
      | none => rw [q] at e; cases e
      | some xs =>
        rw [q] at e
        have e : (frzs (getF μ n0 k) xs).map U.lst = some u2 := e
        cases q2 : frzs (getF μ n0 k) xs with
        | none => rw [q2] at e; cases e
        | some ys =>
          rw [q2] at e
          cases e
          obtain ⟨a', vs, e1, e2, e3⟩ := h.at_ n xs q
          rw [h1] at e1
          cases e1
          refine ⟨a, vs, rfl, ⟨e2, fun z => ?_, h.dis a (List.mem_of_getElem? h1)⟩, VRs.frz (getF_ok h p hl k) p q2 e3⟩
          obtain ⟨i, hi⟩ := List.getElem?_of_mem z
          have hi2 := pre_get p hi
          obtain ⟨g1, g2⟩ := List.getElem?_eq_some_iff.mp hi2
          obtain ⟨g3, g4⟩ := List.getElem?_eq_some_iff.mp h1
          have : i = n := (List.getElem_inj h.nd).mp (g2.trans g4.symm)
          have := (List.getElem?_eq_some_iff.mp hi).1
          omega
end

/-- the lambda's body: exceptions leave it with no context of their own -/
abbrev lamN (X : Cx) (A : Around) (outer : List Env) (s : Shared) (H : Hp) (E : XK) (scope : Scope) (f c : Addr) : Cx :=
  (lamCx X A outer s H E scope f c).wish fun e s' => wpAny (model X.prog X.w) (A.deeper (lamEnv X scope s.heap.objs.size f c)) (leaving (lamEnv X scope s.heap.objs.size f c) e)
    (fun _ s2 => L2N.CX X.prog X.w outer H s E e s2) (fun e' s2 => L2N.CX X.prog X.w outer H s E e' s2) s'
section
variable {X : Cx} {pins : List (Addr × Obj)} {σ : L2.St} {H : Hp} {s : Shared}
theorem act_call {Ng : List Str} {qg : Str} {sg : Scope} {g f c : Addr} {cdg pm ctv : Value} {params : Arguments} {body : Expr} {scope : Scope} {k i : Nat} {a : Str} {pn : List (Addr × Obj)} {xe : Value → Shared → Prop} {W : WX} {E : XK} {tb : TE} {p1 p2 : Pos}
    (I : Inv X pins σ H s) (L : LamS X.env.scope scope) (hf : s.heap.get? f = some (PySem.W.kla_obj "<lambda>" (X.env.qual ++ "<lambda>") params body scope (cloFrom X.env.cells scope.names []) pm c ctv)) (hfn : H f = none) (hfr : f ∉ frs X.stack)
    (hbind : bindArgs (PySem.W.kla_fn "<lambda>" (X.env.qual ++ "<lambda>") params body scope (cloFrom X.env.cells scope.names []) pm (.ref c) ctv) ⟨[], []⟩ = pure [])
    (tk : L2N.Takes ((cxOf C8.CX0 X.prog X.w X.K X.mg X.base Ng qg sg g cdg X.A X.stack s H C8.E0).tr pn xe) W) (hW : ∀ cls d σ' H', E cls d H' → W cls d σ' H') (hr : Room (k + 1) (X.A.deeper (envOfC qg sg s.heap.objs.size g cdg)))
    (hbody : ∀ (A : Around) (outer : List Env) (s : Shared) (H : Hp), Room k (A.deeper (lamEnv X scope s.heap.objs.size f c)) → PE (lamN X A outer s H E scope f c) body tb)
    (hN : Ng[i]? = some a) (hv : Vis sg a) (hd : (a == ("__debug__" : Str)) = false) (hcd : (a == ("__classdict__" : Str)) = false) :
    PE ((cxOf C8.CX0 X.prog X.w X.K X.mg X.base Ng qg sg g cdg X.A X.stack s H C8.E0).tr pn xe) (.Call (.Name a p1) [] [] p2)
      (fun σZ HZ Q => σZ[i]? = some (some (.ref f)) ∧ HZ c = some (CodeO c (X.env.qual ++ "<lambda>")) ∧ tb σ HZ Q) := by
  refine ⟨fun pinsZ sZ σZ HZ Q IZ ⟨hs, hc, ht⟩ => ?_⟩
  refine wpAny_Call_Name_kw (thn ((pe_var (pos := p1) (i := i) hN hv hd hcd).run pinsZ sZ σZ HZ (fun v H1 => v = .ref f ∧ H1 = HZ) IZ ⟨.ref f, hs, rfl, rfl⟩) fun u s1 ⟨v, H1, I1, r1, ev, eH⟩ => ?_)
  subst ev eH
  cases r1
  have of1 : s1.heap.get? f = some _ := I1.base.keep f _ hf hfn hfr (fun z => nomatch (show f ∈ ([] : List Addr) from z))
  refine PySem.W.callWith_F0 ⟨_, _, _, _, of1⟩ ?_
  obtain ⟨⟨oc, vs, t, hoc, hdc, hvc⟩, _, _⟩ := I1.hok c _ hc
  have un : Un (frs X.stack) [] H H1 s.heap s1.heap := I1.base
  have rc : codeAny (model X.prog X.w) (X.A.deeper (envOfC qg sg s.heap.objs.size g cdg)) (.call (.ref f) ⟨[], []⟩) (CR (L2N.CX X.prog X.w) (envOfC qg sg s.heap.objs.size g cdg :: X.stack) X.prog X.w H1 s1 Q E) s1 := by
    refine PySem.W.kla_callFunE hr.depth of1 rfl L.co L.gen rfl ⟨c, oc, vs, t, rfl, hoc, hdc, hvc⟩ ?_
    rw [hbind]
    refine wpAny_pure (wpAny_newFunctionEnv (fun y hy => (L.own y hy).2) (fun y hy => absurd hy (by simp)) (fun h₁ hns hsb => ⟨I1.nolimit.fresh _ hsb, ?_⟩) L.kind)
    have kp : ∀ b o, s1.heap.get? b = some o → h₁.get? b = some o := fun b o e => hsb.extBut b o (Nat.ne_of_lt (Heap.lt_size e)) (Heap.get?_push_of_some _ e)
    have J := (lam_start2 (E := E) (f := f) (c' := c) (tk := s1.toks + ([] : List (Str × Value)).length) I L I1.env0 hr.hd un hns kp).wish fun e s' => wpAny (model X.prog X.w) ((X.A.deeper (envOfC qg sg s.heap.objs.size g cdg)).deeper (lamEnv X scope s1.heap.objs.size f c)) (leaving (lamEnv X scope s1.heap.objs.size f c) e)
      (fun _ s2 => L2N.CX X.prog X.w (envOfC qg sg s.heap.objs.size g cdg :: X.stack) H1 s1 E e s2) (fun e' s2 => L2N.CX X.prog X.w (envOfC qg sg s.heap.objs.size g cdg :: X.stack) H1 s1 E e' s2) s'
    refine PySem.W.kla_codeExpr (wpAny_mono ((hbody _ _ s1 H1 (hr.deeper _)).run [] _ _ H1 Q J ht) (fun v s' ⟨w', H', J', rv, q⟩ => ?_) fun e s' hq => hq)
    exact ⟨w', H', J'.os, J'.bare, J'.base, J'.hok, rv, q⟩
  have hx : Passes (L2N.CX X.prog X.w) ((cxOf C8.CX0 X.prog X.w X.K X.mg X.base Ng qg sg g cdg X.A X.stack s H C8.E0).tr pn xe) E := L2N.passes_call tk hW
  refine wpAny_call (codeAny_mono rc fun r s' hq => ?_)
  cases r with
  | error e => exact hx pinsZ σZ H1 s1 e s' I1 hq
  | ok fl =>
    cases fl with
    | ret u => exact I1.after hq
    | next => exact False.elim hq
    | brk => exact False.elim hq
    | cont => exact False.elim hq
end
section
variable {K : PySem.W.Frag} {G : En} {a : Addr} {α α' β : List Addr} {H : Hp} {μ : Mem}
/-! with an exception in sight -/
mutual
theorem VR.withE (h0 : G.ea = none) : ∀ {u : U} {v : V}, VR K G α β H u v → VR K (withE G a) α β H u v
  | .non, _, h => h
  | .bl _, _, h => h
  | .int _, _, h => h
  | .str _, _, h => h
  | .tup xs, _, h => by
    obtain ⟨b, vs, rfl, h1, h2⟩ := h
    exact ⟨b, vs, rfl, h1, VRs.withE h0 h2⟩
  | .lst xs, _, h => by
    obtain ⟨b, vs, rfl, h1, h2⟩ := h
    exact ⟨b, vs, rfl, h1, VRs.withE h0 h2⟩
  | .rol xs, _, h => by
    obtain ⟨b, vs, rfl, h1, h2⟩ := h
    exact ⟨b, vs, rfl, h1, VRs.withE h0 h2⟩
  | .ref _, _, h => h
  | .fn _, _, h => h
  | .exn, _, h => by
    obtain ⟨b, e, _⟩ := h
    rw [h0] at e
    cases e
theorem VRs.withE (h0 : G.ea = none) : ∀ {us : List U} {vs : List V}, VRs K G α β H us vs → VRs K (withE G a) α β H us vs
  | [], _, h => h
  | _ :: _, _, h => by
    obtain ⟨v, r, rfl, h1, h2⟩ := h
    exact ⟨v, r, rfl, VR.withE h0 h1, VRs.withE h0 h2⟩
end
theorem HR.withE (h0 : G.ea = none) (h : HR K G μ α β H) : HR K (withE G a) μ α β H := ⟨h.len, h.nd, h.dis, h.priv, fun n xs hx => by
  obtain ⟨b, vs, e1, e2, e3⟩ := h.at_ n xs hx
  exact ⟨b, vs, e1, e2, e3.withE h0⟩, h.tabs⟩
/-- what the suite returns, for the def's caller -/
theorem post_suite {r : R Fl} {W : WX} {Q : VK} {D : Ends} (hm : HR K G μ α β H) (hD : D.rt = Q) (h : PostV K G β W (sweep μ.length (retOnly r)) α H Q) : PostS K (withE G a) β WF r α H D := by
  cases r with
  | bad => exact h
  | exc c μ' => exact h.elim
  | ok f μ' =>
    cases f with
    | ret u =>
      intro H' α' hr e v rv
      rw [hD]
      have h : PostV K G β W (if swept μ.length μ' = true then (match frz (getF μ' μ.length 9) u with
        | some v => .ok v (μ'.take μ.length)
        | none => .bad) else .bad) α H Q := h
      have hr : HR K { G with ea := some a } μ' α' β H' := hr
      by_cases sw : swept μ.length μ' = true
      · rw [if_pos sw] at h
        cases q : frz (getF μ' μ.length 9) u with
        | none => rw [q] at h; exact h.elim
        | some u2 =>
          rw [q] at h
          exact h H' α (hr.sweep e.pre hm.len sw) ⟨List.prefix_refl _, e.keep, fun _ _ _ _ n => n⟩ v (VR.frz (getF_ok hr e.pre hm.len 9) e.pre q rv)
      · rw [if_neg sw] at h
        exact h.elim
    | next ρ => exact h.elim
    | brk ρ => exact h.elim
    | cont ρ => exact h.elim
end
section
variable {S : Sg} {G : En} {k : Nat} {C : Orc} {N : List Str} {sc : Scope} {fb : Md} {W : WX} {X : Cx}
theorem noArgs_eq {p : Arguments} (h : noArgs p = true) : p = ⟨[], [], none, [], [], none, []⟩ := by
  unfold noArgs at h
  split at h
  · rfl
  · cases h
theorem start_err {n ei : Nat} {K : PySem.W.Frag} {a : Addr} {α β : List Addr} {H : Hp} {σ : L2.St} (hl : σ.length = n) : SR K (withE G a) α β H ((List.replicate n none).set ei (some .exn)) (σ.set ei (some (.ref a))) := by
  refine ⟨by simp [hl], fun i u hu => ?_⟩
  by_cases hi : ei = i
  · subst hi
    have hn : ei < n := by
      have := (List.getElem?_eq_some_iff.mp hu).1
      simpa using this
    rw [List.getElem?_set_self (by simpa using hn)] at hu
    cases hu
    exact ⟨.ref a, List.getElem?_set_self (by rw [hl]; exact hn), a, rfl, rfl⟩
  · rw [List.getElem?_set_ne hi] at hu
    have hu := List.mem_of_getElem? hu
    rw [List.mem_replicate] at hu
    cases hu.2
theorem m_lam {d : DefX} {dE : Slots → Mem → R U} {j : Nat} {x : Str} {params : Arguments} {body : Expr} {scope : Scope} {p lpos pos : Pos} (g : GX S G k C N sc fb W X) (hl : fb.lam = true) (hc : fb.calm = true) (hg : Gl X x ∧ nameOk x = true) (hd : S.Ds[j]? = some (.err d)) (hx : d.name = x)
    (hp : noArgs params = true) (hs : lamSB sc scope = true) (hbody : ∀ (W' : WX) (Y : Cx), Y.K = X.K → GX S G k C N scope Md.inner W' Y → ME Y G W' dE body) :
    ME X G W (fun ρ μ => lamD S.Ds j (dE ρ μ)) (.Call (.Name x p) [.Lambda params body scope lpos] [] pos) := by
  have lm := g.lm hl
  have ER := lm.er j d hd
  obtain ⟨cc, P, hcode, TB, hmT, hu⟩ := lm.tab
  obtain ⟨pg, sg, fdg, a, e, b0, suite, q1, q2, q3, q4, q5, q6, q7, q8, kk, FD, B, FS0, hN0, hva, hna, hgq, hei, hel, SU⟩ := ER.fd
  obtain ⟨oc, od, dV, kV, doc, pm, an, cdv, ct, osl, rfl, lk, hcg, _, _⟩ := FD.ex
  have L : LamS X.env.scope scope := by
    rw [g.hs]
    exact lamS_by hs
  have gl := ER.gl
  subst hx
  have ep := noArgs_eq hp
  subst ep
  refine ⟨fun pins s σ H Q I ⟨ρ, μ, α, β, hs, hm, q⟩ => ?_⟩
  refine wpAny_Call_Name_kw (ld_glob I hg.1 gl ?_ (ok_debug hg.2))
  refine PySem.W.callWith_K (h₀ := X.base) I.ok.mod.kin ER.kp ?_ (by rfl) (by rfl)
  show wpAny _ _ (spliced ((false, eval (.Lambda ⟨[], [], none, [], [], none, []⟩ body scope lpos) X.env) :: backTo pos (starEach [] X.env))) _ _ s
  refine Calls.spliced_cons (lam_make2 I TB hcode hmT hu hm.tabs rfl (L.has I.ok) fun f c' pm' ctv H1 s' I1 eN T1 hf hfn hfr hco => ?_)
  refine Calls.spliced_nil ⟨I1.kIn, ?_⟩
  have ext : Ext α H α H1 := ⟨List.prefix_refl _, fun a o h t _ => eN a o h t, fun _ _ _ _ n => n⟩
  have hm1 : HR X.K G μ α β H1 := hm.ext1 ext (fun b hb => by
    obtain ⟨vs, h⟩ := hm.trk hb
    rw [h]
    exact eN _ _ h (fun _ z => by cases z)) T1
  have qq := PostG.rebase ext q
  have rc : codeAny (model X.prog X.w) X.A (.call (.ref (G.ad j)) ⟨[.ref f], []⟩) (CR C8.CX0 X.stack X.prog X.w H1 s' Q C8.E0) s' := by
    refine run_ofS (N := d.N) (ps := [a]) (us := [.ref f]) (vs := [.ref f]) lk hcg FS0 lm.room I1.env0 (B s' [.ref f] I1.kIn rfl) (.cons rfl .nil) rfl fun hr' => ?_
    have hZ : Names (cxOf C8.CX0 X.prog X.w X.K X.mg X.base d.N d.name sg (G.ad j) cdv X.A X.stack s' H1 C8.E0).nox S.q (.ref (G.ca S.q)) := ⟨(by
      unfold gloB at hgq
      simp only [Bool.and_eq_true, decide_eq_true_eq] at hgq
      exact hgq.1), ok_debug (by
      unfold gloB at hgq
      simp only [Bool.and_eq_true] at hgq
      exact hgq.2), .inl g.mf.mq⟩
    have hTry := L2N.ps_try_as (X := (cxOf C8.CX0 X.prog X.w X.K X.mg X.base d.N d.name sg (G.ad j) cdv X.A X.stack s' H1 C8.E0).nox) (c := .ref (G.ca S.q)) (i := d.ei) (n := e) (np := q4) (pos := q6) (pos' := q5)
      (tb := fun W' D σZ HZ => ∃ Ech : XK, (∀ cls dd σ' H', Ech cls dd H' → W' cls dd σ' H') ∧ σZ[0]? = some (some (.ref f)) ∧ HZ c' = some (CodeO c' (X.env.qual ++ "<lambda>")) ∧ tE X.K G (fun cls dd _ H' => Ech cls dd H') dE σ HZ (fun _ H' => D.nx σZ H'))
      (ts := fun b cls dd D σ' H' => σ'.length = d.N.length → ∃ c : Exn, c.cls ∈ S.exs ∧ cls = .ref (G.ca c.cls) ∧ (c.lim = none → dd = none) ∧ tS X.K (withE G b) WF (denSs (noOrc (some c)) d.suite) D σ' H')
      (body := [.Expr (.Call (.Name a q1) [] [] q2) q3]) (b₀ := b0) (suite := suite) (Wout := fun _ _ _ _ => False)
      rfl rfl FS0.nd hei hel hZ takes0N (fun W' pn xe tk' _ => ?_) (fun b oe cls dd pn hz hf => ?_)
    · refine ⟨_, (pss_cons hTry (pss_one (ps_ret pe_str))).nox, ?_⟩
      have qq : PostV X.K G β W (lamX d (dE ρ μ)) α H1 Q := by
        have z : lamD S.Ds j (dE ρ μ) = lamX d (dE ρ μ) := by
          unfold lamD
          rw [hd]
        rw [← z]
        exact qq
      refine ⟨fun cls dd H' => ∃ (c : Exn) (μ' : Mem) (α' : List Addr), XR G c cls dd H' ∧ HR X.K G μ' α' β H' ∧ PostV X.K G β W (sweep μ'.length (retOnly (denSs (noOrc (some c)) d.suite ((List.replicate d.N.length none).set d.ei (some .exn)) μ'))) α' H' Q, ?_, rfl, hco, ρ, μ, α, β, ?_, hm1, ?_⟩
      · rintro cls dd σ' H' ⟨c, μ', α', ⟨x1, x2, x3⟩, hr, po⟩
        have hcx : c.cls ∈ S.exs := by rw [← g.mf.exs]; exact x2
        refine ⟨true, by rw [x1]; exact g.mf.exq _ hcx, fun _ b hb hlen => ⟨c, hcx, x1, fun hlim => ?_, _, μ', α', β, start_err (by rw [← hlen]; simp), hr.withE lm.ea, post_suite hr rfl po⟩, fun z => by cases z⟩
        rw [hlim] at x3
        exact x3
      · exact hs.mono ext
      · cases hr : dE ρ μ with
        | bad => rw [hr] at qq; exact qq
        | ok u μ1 =>
          rw [hr] at qq
          exact fun H' α' hr e v _ => qq H' α' hr e _ rfl
        | exc c μ1 =>
          rw [hr] at qq
          exact fun cls dd σ' H' α' x hr e => ⟨c, μ1, α', x, hr, PostG.rebase e qq⟩
    · refine ⟨fun pinsZ sZ σZ HZ D IZ ⟨Ech, hW, h1, h2, h3⟩ => ?_⟩
      have hAct := act_call (E := Ech) (tb := tE X.K G (fun cls dd _ H' => Ech cls dd H') dE) (p1 := q1) (p2 := q2) (i := 0) (pn := pn) (xe := xe) I1 L hf hfn hfr rfl tk' hW hr' (fun A outer s2 H2 hr2 => hbody _ (lamN X A outer s2 H2 Ech scope f c') rfl
        { mf := g.mf, ff := g.ff, hN := g.hN, nd := g.nd, hs := rfl, kd := L.kind, calm := fun _ => ⟨rfl, (g.calm hc).2.1, hr2⟩, hot := fun h => (by cases h), lm := fun h => (by cases h), hfn := fun _ h => (by cases h),
          tk := L2N.takes_of rfl rfl rfl rfl, un := (by have := hr2.un; show (A.deeper (lamEnv X scope s2.heap.objs.size f c')).units + 65 < cLine; omega), po := passes_of rfl }) hN0 hva (ok_debug hna) (ok_cd hna)
      exact (pss_one (ps_expr (pos := q3) hAct)).run pinsZ sZ σZ HZ D IZ ⟨h1, h2, h3⟩
    · refine ⟨fun pinsZ sZ σZ HZ D IZ h => ?_⟩
      obtain ⟨c, h1, h2, h3, h4⟩ := h IZ.len
      exact (SU cdv X.A X.stack s' H1 b oe cls dd pn c (by have := lm.room.un; omega) hz hf h1 h2 h3).run pinsZ sZ σZ HZ D IZ h4
  refine wpAny_call (codeAny_mono rc fun r s2 hq => ?_)
  cases r with
  | error e => exact (show False from hq).elim
  | ok fl =>
    cases fl with
    | ret u => exact I1.after hq
    | next => exact False.elim hq
    | brk => exact False.elim hq
    | cont => exact False.elim hq
end
end Mini

set_option maxHeartbeats 4000000
/-! Mini, part I: the text does what the small language says: expressions. -/
namespace Mini
open PySem PySem.Spec PyProof.Rows L2 LamX

section
variable {S : Sg} {G : En} {k : Nat} {C : Orc} {N : List Str} {sc : Scope} {fb : Md} {W : WX} {X : Cx} {K : PySem.W.Frag}
theorem t_ite {dc da db : Slots → Mem → R U} {c a b : Expr} {pos : Pos} (hc : MT X G W dc c) (ha : MT X G W da a) (hb : MT X G W db b) :
    MT X G W (fun ρ μ => (truR (dc ρ μ)).bind fun k μ1 => match k with
      | true => da ρ μ1
      | false => db ρ μ1) (.IfExp c a b pos) := by
  refine ⟨fun pins s σ H Q I ⟨ρ, μ, α, β, hs, hm, q⟩ => ?_⟩
  show wpAny _ _ (isTrue c X.env (eval c X.env) >>= fun r => if r = true then isTrue a X.env (eval a X.env) else isTrue b X.env (eval b X.env)) _ _ _
  dsimp only at q
  refine wpAny_bind (thn (hc.run pins s σ H (fun k H1 => if k = true then tT X.K G W (fun ρ μ => truR (da ρ μ)) σ H1 Q else tT X.K G W (fun ρ μ => truR (db ρ μ)) σ H1 Q) I ⟨ρ, μ, α, β, hs, hm, ?_⟩) fun k s1 ⟨H1, I1, q1⟩ => ?_)
  · dsimp only
    cases hc2 : truR (dc ρ μ) with
    | bad => rw [hc2] at q; exact q
    | exc c μ1 => rw [hc2] at q; exact q
    | ok k μ1 =>
      rw [hc2] at q
      cases k with
      | true =>
        have q : PostG X.K G β W (truR (da ρ μ1)) α H (fun b _ _ H' => Q b H') := q
        exact fun H1 α1 hm1 e1 => iteT ⟨ρ, μ1, α1, β, hs.mono e1, hm1, PostG.rebase e1 q⟩
      | false =>
        have q : PostG X.K G β W (truR (db ρ μ1)) α H (fun b _ _ H' => Q b H') := q
        exact fun H1 α1 hm1 e1 => iteF ⟨ρ, μ1, α1, β, hs.mono e1, hm1, PostG.rebase e1 q⟩
  · cases k with
    | true => exact ha.run pins s1 σ H1 Q I1 (by simpa using q1)
    | false => exact hb.run pins s1 σ H1 Q I1 (by simpa using q1)
theorem isi_shape {a : IE} {t : Str} {f : Expr} {es : List Expr} {kws : List Keyword} {pos : Pos} (h : chkE S N fb sc (.isi a t) (.Call f es kws pos) = true) :
    ∃ x p a' t' p2, f = .Name x p ∧ es = [a', .Name t' p2] ∧ kws = [] ∧ chkE S N fb sc (.isi a t) (.Call (.Name x p) [a', .Name t' p2] [] pos) = true := by
  have h0 := h
  unfold chkE at h
  split at h
  · rename_i x p a' t' p2 pos' heq
    cases heq
    exact ⟨x, p, a', t', p2, rfl, rfl, rfl, h0⟩
  · cases h
theorem app_shape {o a : IE} {f : Expr} {es : List Expr} {kws : List Keyword} {pos : Pos} (h : chkE S N fb sc (.app o a) (.Call f es kws pos) = true) :
    ∃ o' m apos a', f = .Attribute o' m apos ∧ es = [a'] ∧ kws = [] ∧ chkE S N fb sc (.app o a) (.Call (.Attribute o' m apos) [a'] [] pos) = true := by
  have h0 := h
  unfold chkE at h
  split at h
  · rename_i o' m apos a' pos' heq
    cases heq
    exact ⟨o', m, apos, a', rfl, rfl, rfl, h0⟩
  · cases h
theorem join_shape {o a : IE} {f : Expr} {es : List Expr} {kws : List Keyword} {pos : Pos} (h : chkE S N fb sc (.join o a) (.Call f es kws pos) = true) :
    ∃ o' m apos a', f = .Attribute o' m apos ∧ es = [a'] ∧ kws = [] ∧ chkE S N fb sc (.join o a) (.Call (.Attribute o' m apos) [a'] [] pos) = true := by
  have h0 := h
  unfold chkE at h
  split at h
  · rename_i o' m apos a' pos' heq
    cases heq
    exact ⟨o', m, apos, a', rfl, rfl, rfl, h0⟩
  · cases h
theorem lam_shape {j : Nat} {a : IE} {e' : Expr} (h : chkE S N fb sc (.lam j a) e' = true) :
    ∃ x p params body scope lpos pos, e' = .Call (.Name x p) [.Lambda params body scope lpos] [] pos ∧ chkE S N fb sc (.lam j a) (.Call (.Name x p) [.Lambda params body scope lpos] [] pos) = true := by
  have h0 := h
  unfold chkE at h
  split at h
  · rename_i x p params body scope lpos pos
    exact ⟨x, p, params, body, scope, lpos, pos, rfl, h0⟩
  · cases h
theorem isE_shape {i : Nat} {c : Str} {e' : Expr} (h : chkE S N fb sc (.isE i c) e' = true) :
    ∃ x p y p1 z p2 pos, e' = .Call (.Name x p) [.Name y p1, .Name z p2] [] pos ∧ fb.calm = false ∧ x = "isinstance" ∧ freeB S sc x = true ∧ N[i]? = some y ∧ visB sc y = true ∧ nameOk y = true ∧ c = z ∧ gloB sc z = true ∧ S.exs.contains c = true := by
  unfold chkE at h
  split at h
  · rename_i x p y p1 z p2 pos
    simp only [Bool.and_eq_true, beq_iff_eq, decide_eq_true_eq, Bool.not_eq_true'] at h
    obtain ⟨⟨⟨⟨⟨⟨⟨⟨h1, h2⟩, h3⟩, h4⟩, h5⟩, h6⟩, h7⟩, h8⟩, h9⟩ := h
    exact ⟨x, p, y, p1, z, p2, pos, rfl, h1, h2, h3, h4, h5, h6, h7, h8, h9⟩
  · cases h
theorem er_of {S : Sg} {j : Nat} {x : Str} (h : (match S.Ds[j]? with | some (.err d) => d.name == x | _ => false) = true) : ∃ d, S.Ds[j]? = some (.err d) ∧ d.name = x := by
  cases q : S.Ds[j]? with
  | none => rw [q] at h; cases h
  | some o =>
    cases o with
    | std d => rw [q] at h; cases h
    | err d => rw [q] at h; exact ⟨d, rfl, by simpa using h⟩
theorem comp_shape {m : Bool} {own : List Nat} {elt : IE} {tg : IT} {it : II} {ifs : IEs} {e' : Expr} (h : chkE S N fb sc (.comp m own elt tg it ifs) e' = true) :
    ∃ elt' tg' it' ifs' scope pos, e' = .ListComp elt' [⟨tg', it', ifs', 0⟩] scope pos ∧ (tgS tg).all (fun i => own.contains i) = true ∧ chkI S N fb sc it tg' it' = true ∧ blkC N sc scope (ownOf N own) = true ∧
      chkT N (fb.blk scope) (relS scope sc) tg tg' = true ∧ chkE S N (fb.blk scope) (relS scope sc) elt elt' = true ∧
      chkEs S N (fb.blk scope) (relS scope sc) ifs ifs' = true ∧ ifs'.length ≤ 1 := by
  unfold chkE at h
  split at h
  · rename_i elt' tg' it' ifs' scope pos
    simp only [Bool.and_eq_true, decide_eq_true_eq] at h
    obtain ⟨⟨⟨⟨⟨⟨h0, h1⟩, h2⟩, h3⟩, h4⟩, h5⟩, h6⟩ := h
    exact ⟨elt', tg', it', ifs', scope, pos, rfl, h0, h1, h2, h3, h4, h5, h6⟩
  · cases h
def Snd (X : Cx) (G : En) (W : WX) (d : Slots → Mem → R U) (e : Expr) : Prop := ME X G W d e ∧ MT X G W d e ∧ MW X G W d e
theorem snd_gen {d : Slots → Mem → R U} {e : Expr} (h : ME X G W d e) (he : ∀ whole, isTrue e X.env whole = (do let v ← whole; standAt e.pos; holding [v] (truthy v))) (hw : ∀ op bs pos, e ≠ .BoolOp op bs pos) : Snd X G W d e :=
  ⟨h, mt_gen h he, fun op bs pos z => absurd z (hw op bs pos)⟩
theorem snd_of {d : Slots → Mem → R U} {e : Expr} (h : ME X G W d e) (t : MT X G W d e) (hw : ∀ op bs pos, e ≠ .BoolOp op bs pos) : Snd X G W d e := ⟨h, t, fun op bs pos z => absurd z (hw op bs pos)⟩
theorem behind_of {op : CmpOp} {b : Expr} (h : notSet b = true) : behindInMarks op b = false := by
  cases b <;> first | rfl | cases h
theorem marks_of {o1 o2 : CmpOp} {b c : Expr} (h : notSet c = true) : lastMarks [o1, o2] [b, c] = false := behind_of h
theorem all_cons {e : Expr} {es : List Expr} (h : notStar e = true) (hs : es.all notStar = true) : (e :: es).all notStar = true := by simp [h, hs]
theorem chkEs_ns {S : Sg} {N : List Str} {fb : Md} {sc : Scope} : ∀ {es : IEs} {es' : List Expr}, chkEs S N fb sc es es' = true → es'.all notStar = true
  | .nil, es', h => by
    simp only [chkEs, List.isEmpty_iff] at h
    subst h
    rfl
  | .cons e es, [], h => by simp [chkEs] at h
  | .cons e es, e' :: es', h => by
    simp only [chkEs, Bool.and_eq_true] at h
    exact all_cons h.1.2 (chkEs_ns h.2)
mutual
theorem sndE : ∀ (e : IE) {fb : Md} {sc : Scope} {W : WX} {X : Cx} (e' : Expr), GX S G k C N sc fb W X → chkE S N fb sc e e' = true → Snd X G W (denE (C) e) e'
  | .var i, fb, sc, W, X, e', g, h => by
    cases e' with
    | Name x pos =>
      have h : (decide (N[i]? = some x) && visB sc x && nameOk x) = true := h
      simp only [Bool.and_eq_true, decide_eq_true_eq] at h
      exact snd_gen (m_var (by rw [g.hN]; exact h.1.1) (vis_of h.1.2 g.hs) h.2) (fun _ => rfl) (fun _ _ _ z => by cases z)
    | _ => cases h
  | .int n, fb, sc, W, X, e', g, h => by
    cases e' with
    | Constant c j pos =>
      cases c with
      | int m =>
        have h : (n == m) = true := h
        have e : n = m := by simpa using h
        subst e
        exact snd_gen (m_lit pe_int fun _ _ _ => rfl) (fun _ => rfl) (fun _ _ _ z => by cases z)
      | _ => cases h
    | _ => cases h
  | .str n, fb, sc, W, X, e', g, h => by
    cases e' with
    | Constant c j pos =>
      cases c with
      | str m =>
        have h : (n == m) = true := h
        have e : n = m := by simpa using h
        subst e
        exact snd_gen (m_lit pe_str fun _ _ _ => rfl) (fun _ => rfl) (fun _ _ _ z => by cases z)
      | _ => cases h
    | _ => cases h
  | .bl n, fb, sc, W, X, e', g, h => by
    cases e' with
    | Constant c j pos =>
      cases c with
      | bool m =>
        have h : (n == m) = true := h
        have e : n = m := by simpa using h
        subst e
        exact snd_gen (m_lit pe_bl fun _ _ _ => rfl) (fun _ => rfl) (fun _ _ _ z => by cases z)
      | _ => cases h
    | _ => cases h
  | .non, fb, sc, W, X, e', g, h => by
    cases e' with
    | Constant c j pos =>
      cases c with
      | none => exact snd_gen (m_lit pe_non fun _ _ _ => rfl) (fun _ => rfl) (fun _ _ _ z => by cases z)
      | _ => cases h
    | _ => cases h
  | .gint x n, fb, sc, W, X, e', g, h => by
    cases e' with
    | Name y pos =>
      have h : ((x == y) && gloB sc x && S.gi.contains (x, n)) = true := h
      simp only [Bool.and_eq_true, beq_iff_eq] at h
      obtain ⟨⟨rfl, h1⟩, h2⟩ := h
      obtain ⟨t, ht⟩ := g.mf.gi (x, n) (by simpa using h2)
      have g1 := glo_of h1 g.hs
      exact snd_gen (m_lit (v := .int n) (pe_glob g1.1 ht ⟨t, rfl⟩ (ok_debug g1.2)) fun _ _ _ => rfl) (fun _ => rfl) (fun _ _ _ z => by cases z)
    | _ => cases h
  | .fnv j, fb, sc, W, X, e', g, h => by
    cases e' with
    | Name y pos =>
      have h : (gloB sc y && (match S.Ds[j]? with
        | some (.std d) => d.name == y
        | _ => false)) = true := h
      simp only [Bool.and_eq_true] at h
      obtain ⟨d, hd, hx⟩ := df_of h.2
      obtain ⟨hm, hk⟩ := g.mf.df j d hd
      rw [hx] at hm
      have g1 := glo_of h.1 g.hs
      exact snd_gen (m_lit (v := .ref (G.ad j)) (pe_glob g1.1 hm rfl (ok_debug g1.2)) fun _ _ _ => ⟨rfl, g.mf.fnd j d hd⟩) (fun _ => rfl) (fun _ _ _ z => by cases z)
    | _ => cases h
  | .bin m op a b, fb, sc, W, X, e', g, h => by
    cases e' with
    | BinOp a' op' b' pos =>
      have h : (decide (op = op') && opOk op && chkE S N fb sc a a' && chkE S N fb sc b b') = true := h
      simp only [Bool.and_eq_true, decide_eq_true_eq] at h
      obtain ⟨⟨⟨rfl, h1⟩, h2⟩, h3⟩ := h
      exact snd_gen (m_op2 (pe_op (o_bin (m := m) h1) (sndE a a' g h2).1 (sndE b b' g h3).1) fun _ _ _ _ h => h) (fun _ => rfl) (fun _ _ _ z => by cases z)
    | _ => cases h
  | .neg a, fb, sc, W, X, e', g, h => by
    cases e' with
    | UnaryOp op a' pos =>
      cases op with
      | USub =>
        have h : chkE S N fb sc a a' = true := h
        exact snd_gen (m_neg (sndE a a' g h).1) (fun _ => rfl) (fun _ _ _ z => by cases z)
      | _ => cases h
    | _ => cases h
  | .not a, fb, sc, W, X, e', g, h => by
    cases e' with
    | UnaryOp op a' pos =>
      cases op with
      | Not =>
        have h : chkE S N fb sc a a' = true := h
        have ih := sndE a a' g h
        exact snd_of (m_not ih.1) (t_not ih.2.1) (fun _ _ _ z => by cases z)
      | _ => cases h
    | _ => cases h
  | .cmp op a b, fb, sc, W, X, e', g, h => by
    cases e' with
    | Compare a' ops bs pos =>
      match ops, bs, h with
      | [op'], [b'], h =>
        have h : (decide (op = op') && chkE S N fb sc a a' && chkE S N fb sc b b' && notSet b') = true := h
        simp only [Bool.and_eq_true, decide_eq_true_eq] at h
        obtain ⟨⟨⟨rfl, h1⟩, h2⟩, h3⟩ := h
        have hu : X.A.units + 65 < cLine := g.un
        exact snd_of (m_op2 (pe_cmpR (o_cmp hu op) (sndE a a' g h1).1 (sndE b b' g h2).1 (behind_of h3)) fun _ _ _ _ h => h)
          (t_op2 (pt_cmpR (o_cmp hu op) (sndE a a' g h1).1 (sndE b b' g h2).1 (behind_of h3))) (fun _ _ _ z => by cases z)
      | [], _, h => cases h
      | [_], [], h => cases h
      | [_], _ :: _ :: _, h => cases h
      | _ :: _ :: _, _, h => cases h
    | _ => cases h
  | .chain o1 o2 a b c, fb, sc, W, X, e', g, h => by
    cases e' with
    | Compare a' ops bs pos =>
      match ops, bs, h with
      | [p1, p2], [b', c'], h =>
        have h : (decide (o1 = p1) && decide (o2 = p2) && chkE S N fb sc a a' && chkE S N fb sc b b' && chkE S N fb sc c c' && notSet c') = true := h
        simp only [Bool.and_eq_true, decide_eq_true_eq] at h
        obtain ⟨⟨⟨⟨⟨rfl, rfl⟩, h1⟩, h2⟩, h3⟩, h4⟩ := h
        have hu : X.A.units + 65 < cLine := g.un
        exact snd_of (m_chain hu (sndE a a' g h1).1 (sndE b b' g h2).1 (sndE c c' g h3).1 (marks_of h4)) (t_chain hu (sndE a a' g h1).1 (sndE b b' g h2).1 (sndE c c' g h3).1 (marks_of h4)) (fun _ _ _ z => by cases z)
      | [], _, h => cases h
      | [_], _, h => cases h
      | [_, _], [], h => cases h
      | [_, _], [_], h => cases h
      | [_, _], _ :: _ :: _ :: _, h => cases h
      | _ :: _ :: _ :: _, _, h => cases h
    | _ => cases h
  | .and a b, fb, sc, W, X, e', g, h => by
    cases e' with
    | BoolOp op vs pos =>
      match op, vs, h with
      | .And, a' :: b' :: rest, h =>
        have h : (chkE S N fb sc a a' && chkE S N fb sc b (boRest .And b' rest pos)) = true := h
        simp only [Bool.and_eq_true] at h
        have ia := sndE a a' g h.1
        have ib := sndE b _ g h.2
        have w := w_and (pos := pos) ia.2.1 ib.2.1 ib.2.2
        exact ⟨m_and ia.1 ib.1, w.pt, fun _ _ _ _ => w⟩
      | .And, [], h => cases h
      | .And, [_], h => cases h
      | .Or, _, h => cases h
    | _ => cases h
  | .or a b, fb, sc, W, X, e', g, h => by
    cases e' with
    | BoolOp op vs pos =>
      match op, vs, h with
      | .Or, a' :: b' :: rest, h =>
        have h : (chkE S N fb sc a a' && chkE S N fb sc b (boRest .Or b' rest pos)) = true := h
        simp only [Bool.and_eq_true] at h
        have ia := sndE a a' g h.1
        have ib := sndE b _ g h.2
        have w := w_or (pos := pos) ia.2.1 ib.2.1 ib.2.2
        exact ⟨m_or ia.1 ib.1, w.pt, fun _ _ _ _ => w⟩
      | .Or, [], h => cases h
      | .Or, [_], h => cases h
      | .And, _, h => cases h
    | _ => cases h
  | .ite c a b, fb, sc, W, X, e', g, h => by
    cases e' with
    | IfExp c' a' b' pos =>
      have h : (chkE S N fb sc c c' && chkE S N fb sc a a' && chkE S N fb sc b b') = true := h
      simp only [Bool.and_eq_true] at h
      have ic := sndE c c' g h.1.1
      have ia := sndE a a' g h.1.2
      have ib := sndE b b' g h.2
      exact snd_of (m_ite ic.2.1 ia.1 ib.1) (t_ite ic.2.1 ia.2.1 ib.2.1) (fun _ _ _ z => by cases z)
    | _ => cases h
  | .tup es, fb, sc, W, X, e', g, h => by
    cases e' with
    | Tuple es' x1 pos => exact snd_gen (m_tup (sndEs es es' g h)) (fun _ => rfl) (fun _ _ _ z => by cases z)
    | _ => cases h
  | .lst m es, fb, sc, W, X, e', g, h => by
    cases e' with
    | List es' pos => exact snd_gen (m_lst (sndEs es es' g h)) (fun _ => rfl) (fun _ _ _ z => by cases z)
    | _ => cases h
  | .idx a b, fb, sc, W, X, e', g, h => by
    cases e' with
    | Subscript a' b' pos =>
      have h : (chkE S N fb sc (.idx a b) (.Subscript a' b' pos)) = true := h
      unfold chkE at h
      simp only [Bool.and_eq_true] at h
      exact snd_gen (m_idx h.2 (sndE a a' g h.1.1).1 (sndE b b' g h.1.2).1) (fun _ => rfl) (fun _ _ _ z => by cases z)
    | _ => cases h
  | .slc a lo hi, fb, sc, W, X, e', g, h => by
    cases e' with
    | Subscript a' sl pos =>
      cases sl with
      | Slice lo' hi' st p2 =>
        cases st with
        | none =>
          have h : (chkE S N fb sc a a' && chkEs S N fb sc lo lo'.toList && chkEs S N fb sc hi hi'.toList) = true := h
          simp only [Bool.and_eq_true] at h
          exact snd_gen (m_slc (sndE a a' g h.1.1).1 (sndO lo lo' g h.1.2) (sndO hi hi' g h.2)) (fun _ => rfl) (fun _ _ _ z => by cases z)
        | some _ => cases h
      | _ => cases h
    | _ => cases h
  | .call j es, fb, sc, W, X, e', g, h => by
    cases e' with
    | Call f es' kws pos =>
      cases f with
      | Name x p =>
        cases kws with
        | nil =>
          have h : (fb.calm && gloB sc x && (match S.Ds[j]? with
            | some (.std d) => d.name == x
            | _ => false) && chkEs S N fb sc es es') = true := h
          simp only [Bool.and_eq_true] at h
          obtain ⟨d, hd, hx⟩ := df_of h.1.2
          have g1 := glo_of h.1.1.2 g.hs
          have ih := sndEs es es' g h.2
          have ns := chkEs_ns h.2
          obtain ⟨_, rfl, hr⟩ := g.calm h.1.1.1
          cases es' with
          | nil =>
            cases es with
            | nil => exact snd_gen (m_call0 g hr g1 hd hx) (fun _ => rfl) (fun _ _ _ z => by cases z)
            | cons _ _ => simp [chkEs] at h
          | cons e es' => exact snd_gen (m_call g hr g1 hd hx ns ih) (fun _ => rfl) (fun _ _ _ z => by cases z)
        | cons _ _ => cases h
      | _ => cases h
    | _ => cases h
  | .cvar i es, fb, sc, W, X, e', g, h => by
    cases e' with
    | Call f es' kws pos =>
      cases f with
      | Name x p =>
        cases kws with
        | nil =>
          have h : (fb.calm && decide (N[i]? = some x) && visB sc x && nameOk x && !es'.isEmpty && chkEs S N fb sc es es') = true := h
          simp only [Bool.and_eq_true, decide_eq_true_eq, Bool.not_eq_true'] at h
          have ih := sndEs es es' g h.2
          have ns := chkEs_ns h.2
          obtain ⟨_, rfl, hr⟩ := g.calm h.1.1.1.1.1
          cases es' with
          | nil => simp at h
          | cons e es' => exact snd_gen (m_cvar g hr (by rw [g.hN]; exact h.1.1.1.1.2) (vis_of h.1.1.1.2 g.hs) h.1.1.2 ns ih) (fun _ => rfl) (fun _ _ _ z => by cases z)
        | cons _ _ => cases h
      | _ => cases h
    | _ => cases h
  | .bi m b es, fb, sc, W, X, e', g, h => by
    cases e' with
    | Call f es' kws pos =>
      cases f with
      | Name x p =>
        cases kws with
        | nil =>
          have h : (biB S sc b x && !es'.isEmpty && chkEs S N fb sc es es') = true := h
          simp only [Bool.and_eq_true, Bool.not_eq_true'] at h
          have ih := sndEs es es' g h.2
          have ns := chkEs_ns h.2
          cases es' with
          | nil => simp at h
          | cons e es' => exact snd_gen (m_bi g h.1.1 ns ih) (fun _ => rfl) (fun _ _ _ z => by cases z)
        | cons _ _ => cases h
      | _ => cases h
    | _ => cases h
  | .isi a t, fb, sc, W, X, e', g, h => by
    cases e' with
    | Call f es' kws pos =>
      obtain ⟨x, p, a', t', p2, rfl, rfl, rfl, h⟩ := isi_shape h
      · have h : ((x == ("isinstance" : Str)) && freeB S sc x && (t == t') && freeB S sc t && isTys.contains t && chkE S N fb sc a a' && notStar a') = true := h
        simp only [Bool.and_eq_true, beq_iff_eq] at h
        obtain ⟨⟨⟨⟨⟨⟨h1, h2⟩, rfl⟩, h4⟩, h5⟩, h6⟩, h7⟩ := h
        exact snd_gen (m_isi g h1 h2 h4 h5 h7 (sndE a a' g h6).1) (fun _ => rfl) (fun _ _ _ z => by cases z)
    | _ => cases h
  | .comp m own elt tg it ifs, fb, sc, W, X, e', g, h => by
    obtain ⟨elt', tg', it', ifs', scope, pos, rfl, h0, h1, h2, h3, h4, h5, h6⟩ := comp_shape h
    obtain ⟨i1, i2, i3⟩ := sndI it tg' it' g h1
    refine snd_gen (m_comp g i1 i2 h2 i3 (fun i hi => by simpa using (List.all_eq_true.mp h0) i hi) (fun Y eK gY => ?_)) (fun _ => rfl) (fun _ _ _ z => by cases z)
    rw [← eK]
    exact ⟨g_tgt gY tg tg' h3, sndTs ifs ifs' gY h6 h5, (sndE elt elt' gY h4).1⟩
  | .lam j a, fb, sc, W, X, e', g, h => by
    obtain ⟨x, p, params, body, scope, lpos, pos, rfl, h⟩ := lam_shape h
    have h : (fb.lam && fb.calm && gloB sc x && (match S.Ds[j]? with
      | some (.err d) => d.name == x
      | _ => false) && noArgs params && lamSB sc scope && chkE S N Md.inner scope a body) = true := h
    simp only [Bool.and_eq_true] at h
    obtain ⟨⟨⟨⟨⟨⟨h1, h2⟩, h3⟩, h4⟩, h5⟩, h6⟩, h7⟩ := h
    obtain ⟨d, hd, hx⟩ := er_of h4
    have g1 := glo_of h3 g.hs
    obtain ⟨_, eC, hr⟩ := g.calm h2
    have m := m_lam g h1 h2 g1 hd hx h5 h6 (dE := denE C a) (lpos := lpos) (p := p) (pos := pos) (fun W' Y eK gY => (sndE a body gY h7).1)
    have eL : C.lam = lamD S.Ds := by rw [eC]
    refine snd_gen (by
      show ME X G W (fun ρ μ => C.lam j (denE C a ρ μ)) _
      rw [eL]
      exact m) (fun _ => rfl) (fun _ _ _ z => by cases z)
  | .app o a, fb, sc, W, X, e', g, h => by
    cases e' with
    | Call f es' kws pos =>
      obtain ⟨o', m, apos, a', rfl, rfl, rfl, h⟩ := app_shape h
      have h : ((m == ("append" : Str)) && (apos.endLine == pos.line) && notCall o' && notStar a' && chkE S N fb sc o o' && chkE S N fb sc a a') = true := h
      simp only [Bool.and_eq_true] at h
      obtain ⟨⟨⟨⟨⟨h1, h2⟩, h3⟩, h4⟩, h5⟩, h6⟩ := h
      have e : m = "append" := by simpa using h1
      subst e
      exact snd_gen (m_app h2 h3 h4 (sndE o o' g h5).1 (sndE a a' g h6).1) (fun _ => rfl) (fun _ _ _ z => by cases z)
    | _ => cases h
  | .isE i c, fb, sc, W, X, e', g, h => by
    obtain ⟨x, p, y, p1, z, p2, pos, rfl, h1, h2, h3, h4, h5, h6, rfl, h8, h9⟩ := isE_shape h
    exact snd_gen (m_isE g h1 h2 h3 h4 h5 h6 h8 h9) (fun _ => rfl) (fun _ _ _ z => by cases z)
  | .eLim _, fb, sc, W, X, e', g, h => nomatch h
  | .join o a, fb, sc, W, X, e', g, h => by
    cases e' with
    | Call f es' kws pos =>
      obtain ⟨o', m, apos, a', rfl, rfl, rfl, h⟩ := join_shape h
      have h : ((m == ("join" : Str)) && (apos.endLine == pos.line) && notCall o' && notStar a' && chkE S N fb sc o o' && chkE S N fb sc a a') = true := h
      simp only [Bool.and_eq_true] at h
      obtain ⟨⟨⟨⟨⟨h1, h2⟩, h3⟩, h4⟩, h5⟩, h6⟩ := h
      have e : m = "join" := by simpa using h1
      subst e
      exact snd_gen (m_join h2 h3 h4 (sndE o o' g h5).1 (sndE a a' g h6).1) (fun _ => rfl) (fun _ _ _ z => by cases z)
    | _ => cases h
theorem sndEs : ∀ (es : IEs) {fb : Md} {sc : Scope} {W : WX} {X : Cx} (es' : List Expr), GX S G k C N sc fb W X → chkEs S N fb sc es es' = true → MA X G W (denEs (C) es) es'
  | .nil, fb, sc, W, X, es', g, h => by
    simp only [chkEs, List.isEmpty_iff] at h
    subst h
    exact ma_nil
  | .cons e es, fb, sc, W, X, es', g, h => by
    cases es' with
    | nil => simp [chkEs] at h
    | cons e' es' =>
      simp only [chkEs, Bool.and_eq_true] at h
      exact ma_cons h.1.2 (sndE e e' g h.1.1).1 (sndEs es es' g h.2)
theorem sndTs : ∀ (es : IEs) {fb : Md} {sc : Scope} {W : WX} {X : Cx} (es' : List Expr), GX S G k C N sc fb W X → es'.length ≤ 1 → chkEs S N fb sc es es' = true → PTs X es' (tT X.K G W (denTs C es))
  | .nil, fb, sc, W, X, es', g, hl, h => by
    simp only [chkEs, List.isEmpty_iff] at h
    subst h
    exact pts_of0
  | .cons e es, fb, sc, W, X, es', g, hl, h => by
    cases es' with
    | nil => simp [chkEs] at h
    | cons e' r =>
      cases r with
      | cons _ _ => simp at hl
      | nil =>
        simp only [chkEs, Bool.and_eq_true] at h
        have m := (sndE e e' g h.1.1).2.1
        cases es with
        | nil => exact pts_of1 m
        | cons _ _ => simp [chkEs] at h
theorem sndO : ∀ (es : IEs) {fb : Md} {sc : Scope} {W : WX} {X : Cx} (e' : Option Expr), GX S G k C N sc fb W X → chkEs S N fb sc es e'.toList = true → PO X e' (tO X.K G W (denEs (C) es))
  | .nil, fb, sc, W, X, e', g, h => by
    cases e' with
    | none => exact mo_nil
    | some _ => simp [chkEs] at h
  | .cons e es, fb, sc, W, X, e', g, h => by
    cases e' with
    | none => simp [chkEs] at h
    | some e' =>
      cases es with
      | nil =>
        simp only [chkEs, Option.toList, Bool.and_eq_true] at h
        exact mo_one (sndE e e' g h.1.1).1
      | cons _ _ => simp [chkEs] at h
theorem sndI : ∀ (it : II) {fb : Md} {sc : Scope} {W : WX} {X : Cx} (tg e' : Expr), GX S G k C N sc fb W X → chkI S N fb sc it tg e' = true → (fb.calm = true → MI X G W (denI C it) tg e') ∧ (fb.calm = false → MIH X G W (denI C it) tg e') ∧ notSet e' = true
  | .of a, fb, sc, W, X, tg, e', g, h => by
    have h : (chkE S N fb sc a e' && notSet e') = true := h
    simp only [Bool.and_eq_true] at h
    exact ⟨fun _ => i_of (sndE a e' g h.1).1, fun _ => i_ofH (sndE a e' g h.1).1, h.2⟩
  | .rng1 a, fb, sc, W, X, tg, e', g, h => by
    unfold chkI at h
    split at h
    · rename_i x p a' pos
      simp only [Bool.and_eq_true, beq_iff_eq] at h
      obtain ⟨⟨⟨⟨h0, h1⟩, h2⟩, h3⟩, h4⟩ := h
      exact ⟨fun _ => i_rng1 g h1 h2 h4 (sndE a a' g h3).1, fun z => (by rw [z] at h0; cases h0), rfl⟩
    · cases h
  | .rng2 a b, fb, sc, W, X, tg, e', g, h => by
    unfold chkI at h
    split at h
    · rename_i x p a' b' pos
      simp only [Bool.and_eq_true, beq_iff_eq] at h
      obtain ⟨⟨⟨⟨⟨⟨h0, h1⟩, h2⟩, h3⟩, h4⟩, h5⟩, h6⟩ := h
      exact ⟨fun _ => i_rng2 g h1 h2 h4 h6 (sndE a a' g h3).1 (sndE b b' g h5).1, fun z => (by rw [z] at h0; cases h0), rfl⟩
    · cases h
  | .zip2 a b, fb, sc, W, X, tg, e', g, h => by
    unfold chkI at h
    split at h
    · rename_i x p a' b' pos
      simp only [Bool.and_eq_true, beq_iff_eq] at h
      obtain ⟨⟨⟨⟨⟨⟨h0, h1⟩, h2⟩, h3⟩, h4⟩, h5⟩, h6⟩ := h
      exact ⟨fun _ => i_zip2 g h1 h2 h4 h6 (sndE a a' g h3).1 (sndE b b' g h5).1, fun z => (by rw [z] at h0; cases h0), rfl⟩
    · cases h
  | .enum a, fb, sc, W, X, tg, e', g, h => by
    unfold chkI at h
    split at h
    · rename_i x p a' pos
      simp only [Bool.and_eq_true, beq_iff_eq] at h
      obtain ⟨⟨⟨⟨h0, h1⟩, h2⟩, h3⟩, h4⟩ := h
      exact ⟨fun _ => i_enum g h1 h2 h4 (sndE a a' g h3).1, fun z => (by rw [z] at h0; cases h0), rfl⟩
    · cases h
end
end
end Mini

set_option maxHeartbeats 4000000
/-! Mini, part J: statements of the text. -/
namespace Mini
open PySem PySem.Spec PyProof.Rows L2 LamX

section
variable {S : Sg} {G : En} {k : Nat} {C : Orc} {N : List Str} {sc : Scope} {fb : Md} {W : WX} {X : Cx} {K : PySem.W.Frag}
theorem m_setLc {m : Bool} {own : List Nat} {t : IT} {di : Slots → Mem → R (List U)} {dt : Slots → Mem → R Bool} {de : Slots → Mem → R U} {elt tg it : Expr} {ifs : List Expr} {scope : Scope} {pos spos : Pos} {i : Nat} {y : Str} {py : Pos} (g : GX S G k C N sc fb W X)
    (hy : N[i]? = some y) (hl : lcSet sc y py (.ListComp elt [⟨tg, it, ifs, 0⟩] scope pos) = true) (hi : fb.calm = true → MI X G W di tg it) (hiH : fb.calm = false → MIH X G W di tg it) (ok : blkC N sc scope (ownOf N own) = true) (hset : notSet it = true) (hown : ∀ i ∈ tgS t, i ∈ own)
    (parts : Parts S G k C N sc fb X.K scope t dt de tg elt ifs) :
    MS X G W (fun ρ μ => (compD m own t di dt de ρ μ).bind fun u μ1 => stored (setT (.name i) u μ1 ρ) μ1) (.Assign [.Name y py] (.ListComp elt [⟨tg, it, ifs, 0⟩] scope pos) spos) := by
  have hl : (decide (sc.names.lookup y = some .local) && (py.line == pos.line) && !(scope.names.any fun (n, k) => n == y && (k == .local || k == .cell))) = true := hl
  simp only [Bool.and_eq_true, decide_eq_true_eq, Bool.not_eq_true'] at hl
  obtain ⟨⟨h1, h2⟩, h3⟩ := hl
  have hyl : X.env.scope.names.lookup y = some .local := by rw [g.hs]; exact h1
  have hk : X.env.scope.kind = .function := by rw [g.hs]; exact g.kd
  have hyN : X.N[i]? = some y := by rw [g.hN]; exact hy
  have ok' : BlkOk X.N X.env.scope scope (ownOf N own) := by rw [g.hN, g.hs]; exact blkOk_by ok
  have hkb := (blkOk_by ok).kind
  have core : PS X (.Assign [.Name y py] (.ListComp elt [⟨tg, it, ifs, 0⟩] scope pos) spos) (tAsg (tLc (tI X.K G W di) (gM X.K G t) (tT X.K G WF dt) (tE X.K G WF de) ((ownOf N own).map (·.2))) (gName i)) := by
    cases hc : fb.calm with
    | true =>
      have q := fun s H D cl fp => parts (X.blk s H scope (compEnvC scope cl D X.env) fp) rfl (g.blk hc s H scope hkb D cl fp)
      exact ps_setLc (g.calm hc).1 g.nd hyN hyl (sw_true hk hyl h2 h3) (hi hc) ok' (fun s H D cl fp => (q s H D cl fp).1) (fun s H D cl fp => (q s H D cl fp).2.1) (fun s H D cl fp => (q s H D cl fp).2.2) (fold_set hset)
    | false =>
      obtain ⟨p, c, hh⟩ := g.hot hc
      exact MiniHot.ps_setLcH hh.hot hh.pn g.nd hyN hyl (sw_true hk hyl h2 h3) (hiH hc) ok' (fun s H D cl fp => parts (MiniHot.blkH X p s H scope (compEnvC scope cl D X.env) fp) rfl (g.blkH hc hh s H scope hkb D cl fp)) (fold_set hset)
  refine ps_imp core fun D σ H h => ?_
  have h2 := set_read h
  refine lc_reading (m := m) hown σ H _ ?_
  obtain ⟨ρ, μ, α, β, hs, hm, q⟩ := h2
  refine ⟨ρ, μ, α, β, hs, hm, PostG.mono q fun u μ1 α1 H1 hm1 e1 q1 v rv => ?_⟩
  obtain ⟨u', ρ1, μ', α', β', ρ', hm', hs', rv', e', q'⟩ := q1 v rv
  cases e'
  exact q' _ (hs'.set rv' i) fun vs hv => wipe_set (hv i (List.mem_singleton.mpr rfl))
theorem swapped_two {x y : Str} {px py pt pt2 : Pos} {kt k2 : Nat} {a b : Expr} {env : Env} (hk : env.scope.kind = .function) (hx : env.scope.names.lookup x = some .local) (hy : env.scope.names.lookup y = some .local) (hl : (px.line == py.line) = true) (hxy : x ≠ y)
    (h1 : (([a, b] : List Expr).all (foldedForSure 8)) = false) (h2 : (([a, b] : List Expr).all (constantsAlone 8)) = false) (ha : notStar a = true) (hb : notStar b = true) :
    swappedStores [.Tuple [.Name x px, .Name y py] kt pt] (.Tuple [a, b] k2 pt2) env = pure (some [x, y]) := by
  have kx : env.kindOf x = some .local := hx
  have ky : env.kindOf y = some .local := hy
  have hb' : env.blockKind = .function := by unfold Env.blockKind; rw [hk]; rfl
  have hxy' : (y == x) = false := by simpa using fun e => hxy e.symm
  have hl' : (py.line == px.line) = true := by
    rw [beq_iff_eq] at hl ⊢
    exact hl.symm
  unfold swappedStores
  simp only [List.length_cons, List.length_nil, List.head?_cons, List.filterMap_cons, List.filterMap_nil, Expr.pos, Option.map_some, Option.getD_some, kx, ky, hb', hl', h1, h2, List.any_cons, List.any_nil, beq_self_eq_true, Bool.and_true, Bool.and_self, if_true]
  rw [if_neg (by decide), if_neg ?_, if_neg ?_, if_neg Bool.false_ne_true, if_neg Bool.false_ne_true]
  · have e : [x, y].eraseDups = [x, y] := by
      simp [List.eraseDups_cons, hxy']
    rw [e]
    simp
  · intro h
    simp only [Bool.or_eq_true] at h
    rcases h with h | h | h
    · split at h
      · exact absurd ha (by simp [notStar])
      · cases h
    · split at h
      · exact absurd hb (by simp [notStar])
      · cases h
    · cases h
theorem sw_none {ts vs : List Expr} {kt k2 : Nat} {pt p2 : Pos} {env : Env} (hk : env.scope.kind = .function) (h : swNone env.scope (.Tuple ts kt pt) (.Tuple vs k2 p2) = true) : swappedStores [.Tuple ts kt pt] (.Tuple vs k2 p2) env = pure none := by
  have hb : (env.blockKind != .function) = false := by
    have z : env.blockKind = .function := by unfold Env.blockKind; rw [hk]; rfl
    rw [z]; rfl
  unfold swappedStores
  dsimp only
  unfold swNone at h
  dsimp only at h
  rw [hb, Bool.or_false]
  split
  · rfl
  · rename_i n1
    split
    · rfl
    · rename_i n2
      split
      · rfl
      · rename_i n3
        split
        · rfl
        · rename_i n4
          exfalso
          rcases Bool.or_eq_true_iff.mp h with h | h
          · exact n1 h
          · rcases Bool.or_eq_true_iff.mp h with h | h
            · exact n2 h
            · rcases Bool.or_eq_true_iff.mp h with h | h
              · exact n3 h
              · exact n4 h
theorem m_par {da db : Slots → Mem → R U} {i j : Nat} {x y : Str} {px py pt pt2 : Pos} {kt k2 : Nat} {a b : Expr} {pos : Pos} (g : GX S G k C N sc fb W X) (hc : fb.calm = true) (hi : N[i]? = some x) (hj : N[j]? = some y) (hij : i ≠ j)
    (hx : sc.names.lookup x = some .local) (hy : sc.names.lookup y = some .local) (hl : (px.line == py.line) = true) (h1 : (([a, b] : List Expr).all (foldedForSure 8)) = false) (h2 : (([a, b] : List Expr).all (constantsAlone 8)) = false)
    (hna : notStar a = true) (hnb : notStar b = true) (ha : ME X G W da a) (hb : ME X G W db b) :
    MS X G W (fun ρ μ => (da ρ μ).bind fun u μ1 => (db ρ μ1).bind fun v μ2 => .ok (.next ((ρ.set i (some u)).set j (some v))) μ2) (.Assign [.Tuple [.Name x px, .Name y py] kt pt] (.Tuple [a, b] k2 pt2) pos) := by
  have hxy : x ≠ y := fun e => hij (nodup_ix (by rw [← g.hN]; exact g.nd) hi (by rw [e]; exact hj))
  have hk : X.env.scope.kind = .function := by rw [g.hs]; exact g.kd
  have hx' : X.env.scope.names.lookup x = some .local := by rw [g.hs]; exact hx
  have hy' : X.env.scope.names.lookup y = some .local := by rw [g.hs]; exact hy
  refine ps_imp (ps_par (g.calm hc).1 g.nd (by rw [g.hN]; exact hi) (by rw [g.hN]; exact hj) hij hx' hy' (pa_cons ha (pa_cons hb pa_nil (star_cons hnb)) (star_cons hna)) (swapped_two hk hx' hy' hl hxy h1 h2 hna hnb) rfl) fun D σ H ⟨ρ, μ, α, β, hs, hm, q⟩ => ?_
  refine ⟨ρ, μ, α, β, hs, hm, PostG.mono (PostG.bind q) fun u μ1 α1 H1 hm1 e1 q1 v rv => ?_⟩
  refine ⟨ρ, μ1, α1, β, hs.mono e1, hm1, PostG.mono (PostG.bind q1) fun w μ2 α2 H2 hm2 e2 q2 z rz => ?_⟩
  exact ⟨v, z, rfl, PostG.ok hm2 q2 _ ((((hs.mono e1).mono e2).set (rv.mono e2) i).set rz j)⟩
theorem m_aug {d : Slots → Mem → R U} {i : Nat} {x : Str} {op : Operator} {e : Expr} {p pos : Pos} (g : GX S G k C N sc fb W X) (hi : N[i]? = some x) (hx : locB fb sc x = true) (ho : augOk op = true) (he : ME X G W d e) :
    MS X G W (fun ρ μ => match ρ[i]? with
      | some (some u) => (d ρ μ).bind fun v μ1 => match u, v with
        | .int x, .int y => (binD false op (.int x) (.int y) μ1).bind fun z μ2 => .ok (.next (ρ.set i (some z))) μ2
        | _, _ => .bad
      | _ => .bad) (.AugAssign (.Name x p) op e pos) := by
  obtain ⟨l1, l2⟩ := loc_of g hx
  have main : ∀ (f : Int → Int → Int) (hf : ∀ i j μ, binD false op (.int i) (.int j) μ = .ok (.int (f i j)) μ) (ip : PIp X op (ipI f)), MS X G W (fun ρ μ => match ρ[i]? with
      | some (some u) => (d ρ μ).bind fun v μ1 => match u, v with
        | .int x, .int y => (binD false op (.int x) (.int y) μ1).bind fun z μ2 => .ok (.next (ρ.set i (some z))) μ2
        | _, _ => .bad
      | _ => .bad) (.AugAssign (.Name x p) op e pos) := by
    intro f hf ip
    refine ps_imp (ps_aug g.nd (by rw [g.hN]; exact hi) l1 he ip l2) fun D σ H ⟨ρ, μ, α, β, hs, hm, q⟩ => ?_
    cases hr : ρ[i]? with
    | none => simp only [hr] at q; exact q.elim
    | some o =>
      cases o with
      | none => simp only [hr] at q; exact q.elim
      | some u =>
        simp only [hr] at q
        obtain ⟨x1, e0, r1⟩ := hs.2 i u hr
        refine ⟨x1, e0, ρ, μ, α, β, hs, hm, PostG.mono (PostG.bind q) fun v μ1 α1 H1 hm1 e1 q1 y ry => ?_⟩
        cases u with
        | int a =>
          cases v with
          | int b =>
            cases r1
            cases ry
            have q1 : PostG X.K G β W ((binD false op (.int a) (.int b) μ1).bind fun z μ2 => .ok (Fl.next (ρ.set i (some z))) μ2) α1 H1 (fun f _ α' H' => FS X.K G β D f α' H') := q1
            rw [hf] at q1
            exact ⟨a, b, rfl, rfl, PostG.ok hm1 q1 _ ((hs.mono e1).set (u := .int (f a b)) rfl i)⟩
          | _ => exact q1.elim
        | _ => cases v <;> exact q1.elim
  cases op with
  | Add => exact main (fun i j => i + j) (fun _ _ _ => rfl) ip_add
  | Sub => exact main (fun i j => i - j) (fun _ _ _ => rfl) ip_sub
  | _ => cases ho
/-! ### raise -/
theorem m_raise {c msg : Str} {e : Expr} {pos : Pos} (g : GX S G k C N sc fb W X) (hc : fb.calm = true) (h : chkRaise S sc c msg e = true) : MS X G W (fun _ μ => .exc ⟨c, none⟩ μ) (.Raise (some e) none pos) := by
  unfold chkRaise at h
  split at h
  · rename_i x p m j p2 pos'
    simp only [Bool.and_eq_true, beq_iff_eq] at h
    obtain ⟨⟨⟨rfl, h1⟩, h2⟩, h3⟩ := h
    have g1 := glo_of h1 g.hs
    have F := g.mf.ex x (by simpa using h2)
    refine ps_imp (L2N.ps_raise (g.calm hc).1 g.tk (L2N.pmk_own PySem.F.excBase_ValueError F.ex F.gl F.kp (raises_own F.sb F.ty) g1.1 (ok_debug g1.2))) fun D σ H ⟨ρ, μ, α, β, hs, hm, q⟩ => ?_
    exact q _ none σ H α ⟨rfl, (by rw [g.mf.exs]; simpa using h2), rfl⟩ hm (Ext.refl _ _)
  · cases h
/-! ### the statements of a body -/
theorem seti_shape {o i e : IE} {st : Stmt} (h : chkS S N fb sc (.seti o i e) st = true) : ∃ o' i' p e' pos, st = .Assign [.Subscript o' i' p] e' pos ∧ chkE S N fb sc o o' = true ∧ chkE S N fb sc i i' = true ∧ chkE S N fb sc e e' = true ∧ notSlice i' = true ∧ notComp e' = true := by
  unfold chkS at h
  split at h
  · rename_i o' i' p e' pos
    simp only [Bool.and_eq_true] at h
    exact ⟨o', i', p, e', pos, rfl, h.1.1.1.1, h.1.1.1.2, h.1.1.2, h.1.2, h.2⟩
  · cases h
theorem set_shape {t : IT} {e : IE} {st : Stmt} (h : chkS S N fb sc (.set t e) st = true) : ∃ t' e' pos, st = .Assign [t'] e' pos ∧ chkT N fb sc t t' = true ∧ chkE S N fb sc e e' = true ∧ (match t' with
      | .Name y py => lcSet sc y py e' || notComp e'
      | .Tuple .. => notComp e' && (notTup e' || swNone sc t' e')
      | _ => false) = true := by
  unfold chkS at h
  split at h
  · rename_i t' e' pos
    simp only [Bool.and_eq_true] at h
    exact ⟨t', e', pos, rfl, h.1.1, h.1.2, h.2⟩
  · cases h
theorem par_shape {i j : Nat} {a b : IE} {st : Stmt} (h : chkS S N fb sc (.par i j a b) st = true) : ∃ x px y py kt pt a' b' k2 pt2 pos, st = .Assign [.Tuple [.Name x px, .Name y py] kt pt] (.Tuple [a', b'] k2 pt2) pos ∧ fb.calm = true ∧
    N[i]? = some x ∧ N[j]? = some y ∧ i ≠ j ∧ sc.names.lookup x = some .local ∧ sc.names.lookup y = some .local ∧ (px.line == py.line) = true ∧ (([a', b'] : List Expr).all (foldedForSure 8)) = false ∧ (([a', b'] : List Expr).all (constantsAlone 8)) = false ∧
    chkE S N fb sc a a' = true ∧ chkE S N fb sc b b' = true ∧ notStar a' = true ∧ notStar b' = true := by
  unfold chkS at h
  split at h
  · rename_i x px y py kt pt a' b' k2 pt2 pos
    simp only [Bool.and_eq_true, decide_eq_true_eq, Bool.not_eq_true'] at h
    obtain ⟨⟨⟨⟨⟨⟨⟨⟨⟨⟨⟨⟨h0, h1⟩, h2⟩, h3⟩, h4⟩, h5⟩, h6⟩, h7⟩, h8⟩, h9⟩, h10⟩, h11⟩, h12⟩ := h
    exact ⟨x, px, y, py, kt, pt, a', b', k2, pt2, pos, rfl, h0, h1, h2, h3, h4, h5, h6, h7, h8, h9, h10, h11, h12⟩
  · cases h
theorem aug_shape {i : Nat} {op : Operator} {e : IE} {st : Stmt} (h : chkS S N fb sc (.aug i op e) st = true) : ∃ x p e' pos, st = .AugAssign (.Name x p) op e' pos ∧ N[i]? = some x ∧ locB fb sc x = true ∧ augOk op = true ∧ chkE S N fb sc e e' = true := by
  unfold chkS at h
  split at h
  · rename_i x p op' e' pos
    simp only [Bool.and_eq_true, decide_eq_true_eq] at h
    obtain ⟨⟨⟨⟨h1, h2⟩, rfl⟩, h4⟩, h5⟩ := h
    exact ⟨x, p, e', pos, rfl, h1, h2, h4, h5⟩
  · cases h
mutual
theorem sndS (g : GX S G k C N sc fb W X) : ∀ (s : IS) (st : Stmt), chkS S N fb sc s st = true → MS X G W (denS (C) s) st
  | .set t e, st, h => by
    obtain ⟨t', e', pos, rfl, h1, h2, h3⟩ := set_shape h
    have hg := g_tgt g t t' h1
    have he := (sndE e e' g h2).1
    cases t' with
    | Name y py =>
      by_cases hn : notComp e' = true
      · exact m_set he hg (sole_none hn) (by
          cases e' <;> rfl) rfl
      · have h3 : (lcSet sc y py e' || notComp e') = true := h3
        rw [Bool.not_eq_true] at hn
        rw [hn, Bool.or_false] at h3
        cases t with
        | tup ts => cases h1
        | name i =>
          have h1 : (decide (N[i]? = some y) && locB fb sc y) = true := h1
          simp only [Bool.and_eq_true, decide_eq_true_eq] at h1
          cases e with
          | comp m own elt tg it ifs =>
            obtain ⟨elt', tg', it', ifs', scope, cpos, rfl, k0, k1, k2, k3, k4, k5, k6⟩ := comp_shape h2
            obtain ⟨i1, i2, i3⟩ := sndI it tg' it' g k1
            refine m_setLc g h1.1 h3 i1 i2 k2 i3 (fun i hi => by simpa using (List.all_eq_true.mp k0) i hi) fun Y eK gY => ?_
            rw [← eK]
            exact ⟨g_tgt gY tg tg' k3, sndTs ifs ifs' gY k6 k5, (sndE elt elt' gY k4).1⟩
          | _ => cases e' <;> first | cases h3 | (cases h2; done) | (simp [chkE] at h2)
    | Tuple es kk tp =>
      have h3 : (notComp e' && (notTup e' || swNone sc (.Tuple es kk tp) e')) = true := h3
      simp only [Bool.and_eq_true, Bool.or_eq_true] at h3
      refine m_set he hg (sole_none h3.1) ?_ rfl
      rcases h3.2 with h4 | h4
      · cases e' <;> first | rfl | cases h4
      · cases e' with
        | Tuple vs k2 p2 => exact sw_none (by rw [g.hs]; exact g.kd) (by rw [g.hs]; exact h4)
        | _ => cases h4
    | _ => cases h3
  | .seti o i e, st, h => by
    obtain ⟨o', i', p, e', pos, rfl, h1, h2, h3, h4, h5⟩ := seti_shape h
    exact m_seti (sndE o o' g h1).1 (sndE i i' g h2).1 (sndE e e' g h3).1 h4 h5
  | .par i j a b, st, h => by
    obtain ⟨x, px, y, py, kt, pt, a', b', k2, pt2, pos, rfl, h0, h1, h2, h3, h4, h5, h6, h7, h8, h9, h10, h11, h12⟩ := par_shape h
    exact m_par g h0 h1 h2 h3 h4 h5 h6 h7 h8 h11 h12 (sndE a a' g h9).1 (sndE b b' g h10).1
  | .aug i op e, st, h => by
    obtain ⟨x, p, e', pos, rfl, h1, h2, h3, h4⟩ := aug_shape h
    exact m_aug g h1 h2 h3 (sndE e e' g h4).1
  | .exp e, st, h => by
    cases st with
    | Expr e' pos =>
      have h : (chkE S N fb sc e e' && notComp e') = true := h
      simp only [Bool.and_eq_true] at h
      exact m_exp h.2 (sndE e e' g h.1).1
    | _ => cases h
  | .ite c a b, st, h => by
    cases st with
    | If c' a' b' pos =>
      have h : (chkE S N fb sc c c' && chkSs S N fb sc a a' && chkSs S N fb sc b b') = true := h
      simp only [Bool.and_eq_true] at h
      exact m_if (sndE c c' g h.1.1).2.1 (sndSs g a a' h.1.2) (sndSs g b b' h.2)
    | _ => cases h
  | .ret e, st, h => by
    cases st with
    | Return v pos =>
      cases v with
      | some e' => exact m_ret (sndE e e' g h).1
      | none => cases h
    | _ => cases h
  | .retN, st, h => by
    cases st with
    | Return v pos =>
      cases v with
      | some e' => cases h
      | none => exact m_retN
    | _ => cases h
  | .for_ t it b, st, h => by
    cases st with
    | For t' it' b' els pos =>
      cases els with
      | nil =>
        have h : (fb.calm && chkT N fb sc t t' && chkI S N fb sc it t' it' && chkSs S N fb sc b b') = true := h
        simp only [Bool.and_eq_true] at h
        obtain ⟨⟨⟨h0, h1⟩, h2⟩, h3⟩ := h
        obtain ⟨i1, i2, i3⟩ := sndI it t' it' g h2
        exact m_for g h0 (i1 h0) i3 (g_tgt g t t' h1) (sndSs g b b' h3)
      | cons _ _ => cases h
    | _ => cases h
  | .while_ n c b, st, h => by
    cases st with
    | While c' b' els pos =>
      cases els with
      | nil =>
        have h : (chkE S N fb sc c c' && chkSs S N fb sc b b') = true := h
        simp only [Bool.and_eq_true] at h
        exact m_while g (sndE c c' g h.1).2.1 (sndSs g b b' h.2)
      | cons _ _ => cases h
    | _ => cases h
  | .raise c msg, st, h => by
    cases st with
    | Raise e cause pos =>
      cases e with
      | none => cases h
      | some e =>
        cases cause with
        | none =>
          have h : (fb.calm && chkRaise S sc c msg e) = true := h
          simp only [Bool.and_eq_true] at h
          exact m_raise g h.1 h.2
        | some _ => cases h
    | _ => cases h
  | .raiseL _ _, st, h => nomatch h
  | .pass, st, h => by
    cases st with
    | Pass pos => exact m_pass
    | _ => cases h
  | .brk, st, h => by
    cases st with
    | Break pos => exact m_brk
    | _ => cases h
  | .cont, st, h => by
    cases st with
    | Continue pos => exact m_cont
    | _ => cases h
theorem sndSs (g : GX S G k C N sc fb W X) : ∀ (ss : ISs) (st : List Stmt), chkSs S N fb sc ss st = true → MSs X G W (denSs (C) ss) st
  | .nil, st, h => by
    simp only [chkSs, List.isEmpty_iff] at h
    subst h
    exact ms_nil
  | .cons s ss, st, h => by
    cases st with
    | nil => simp [chkSs] at h
    | cons st sts =>
      simp only [chkSs, Bool.and_eq_true] at h
      exact ms_cons (sndS g s st h.1) (sndSs g ss sts h.2)
end
end
end Mini

set_option maxHeartbeats 4000000
/-! Mini, part K: defs. -/
namespace Mini
open PySem PySem.Spec PyProof.Rows L2 LamX

section
variable {S : Sg} {G : En} {k : Nat} {N : List Str} {W : WX} {X : Cx} {K : PySem.W.Frag}
/-- a body's end, for the callers -/
theorem post_ended {r : R Fl} {α β : List Addr} {H : Hp} {Q : VK} (h : PostV K G β W (ended r) α H Q) : PostS K G β W r α H { nx := fun _ H' => Q .non H', rt := Q } := by
  cases r with
  | bad => exact h
  | exc c μ => exact h
  | ok f μ =>
    cases f with
    | next ρ => exact fun H' α' hr e σ _ => h H' α' hr e _ rfl
    | ret u => exact fun H' α' hr e v rv => h H' α' hr e v rv
    | brk ρ => exact h.elim
    | cont ρ => exact h.elim
theorem post_sweep {r : R U} {μ : Mem} {α β : List Addr} {H : Hp} {Q : VK} (hm : HR K G μ α β H) (h : PostV K G β W (sweep μ.length r) α H Q) : PostV K G β W r α H Q := by
  cases r with
  | bad => exact h
  | exc c μ' =>
    intro cls d σ H' α' x hr e
    have h : PostV K G β W (if swept μ.length μ' = true then .exc c (μ'.take μ.length) else .bad) α H Q := h
    by_cases sw : swept μ.length μ' = true
    · rw [if_pos sw] at h
      exact h cls d σ H' α x (HR.sweep (eo := G.ea) hr e.pre hm.len sw) ⟨List.prefix_refl _, e.keep, fun _ _ _ _ n => n⟩
    · rw [if_neg sw] at h
      exact h.elim
  | ok u μ' =>
    intro H' α' hr e v rv
    have h : PostV K G β W (if swept μ.length μ' = true then (match frz (getF μ' μ.length 9) u with
      | some v => .ok v (μ'.take μ.length)
      | none => .bad) else .bad) α H Q := h
    by_cases sw : swept μ.length μ' = true
    · rw [if_pos sw] at h
      cases q : frz (getF μ' μ.length 9) u with
      | none => rw [q] at h; exact h.elim
      | some u2 =>
        rw [q] at h
        exact h H' α (HR.sweep (eo := G.ea) hr e.pre hm.len sw) ⟨List.prefix_refl _, e.keep, fun _ _ _ _ n => n⟩ v (VR.frz (eo := G.ea) (getF_ok (eo := G.ea) hr e.pre hm.len 9) e.pre q rv)
    · rw [if_neg sw] at h
      exact h.elim
theorem post_run {d : DefS} {C : Orc} {us : List U} {μ : Mem} {α β : List Addr} {H : Hp} {Q : VK} (hm : HR K G μ α β H) (h : PostV K G β W (runD d C us μ) α H Q) :
    us.length = d.np ∧ PostS K G β W (denSs C d.body (startU d.N us) μ) α H { nx := fun _ H' => Q .non H', rt := Q } := by
  unfold runD at h
  by_cases hn : us.length = d.np
  · rw [if_pos hn] at h
    refine ⟨hn, post_ended ?_⟩
    cases hg : d.gc with
    | true => rw [hg] at h; exact post_sweep hm h
    | false => rw [hg] at h; exact h
  · rw [if_neg hn] at h
    exact h.elim
theorem SR.start {us : List U} {vs : List V} {α β : List Addr} {H : Hp} (r : VRs K G α β H us vs) : SR K G α β H (startU N us) (L2.start N vs) := by
  have hl := r.len
  refine ⟨by simp [startU, L2.start, hl], fun i u hu => ?_⟩
  unfold startU at hu
  unfold L2.start
  by_cases hi : i < us.length
  · rw [List.getElem?_append_left (by simpa using hi), List.getElem?_map] at hu
    rw [List.getElem?_append_left (by simpa [← hl] using hi), List.getElem?_map]
    cases q : us[i]? with
    | none => rw [q] at hu; cases hu
    | some u' =>
      rw [q] at hu
      cases hu
      obtain ⟨v, h1, h2⟩ := r.get q
      exact ⟨v, by rw [h1]; rfl, h2⟩
  · rw [List.getElem?_append_right (by simpa using hi)] at hu
    have hu := List.mem_of_getElem? hu
    rw [List.mem_replicate] at hu
    cases hu.2

end
/-! ### what a text's defs are held to -/
/-- a plain def stands in the module as the checker has seen it -/
def DefOk (S : Sg) (G : En) (K : PySem.W.Frag) (mg : Str → Option Value) (base : Heap) (j : Nat) (d : DefS) : Prop :=
  ∃ (params : Arguments) (body : List Stmt) (sc : Scope) (lam : Bool) (fd : FuncData), FunD K d.name d.name params body sc [] [] (G.ad j) fd ∧ Binds K fd (d.N.take d.np) [] ∧ chkDef S lam d params body sc = true ∧
    (lam = true → ∃ c P, fd.code = .ref c ∧ TabB base mg c P ∧ (P, d.name ++ ".<locals>." ++ "<lambda>") ∈ G.T ∧ ∀ p ∈ G.T, p.1 = P → p.2 = d.name ++ ".<locals>." ++ "<lambda>")
/-- .. one that catches -/
def ErrOk (S : Sg) (G : En) (K : PySem.W.Frag) (mg : Str → Option Value) (base : Heap) (j : Nat) (d : DefX) : Prop :=
  mg d.name = some (.ref (G.ad j)) ∧ PySem.W.keepIn K (.ref (G.ad j)) = true ∧
  ∃ (params : Arguments) (body : List Stmt) (sc : Scope) (fd : FuncData), FunD K d.name d.name params body sc [] [] (G.ad j) fd ∧ Binds K fd (d.N.take 1) [] ∧ chkErr S d params body sc = true
structure TX (S : Sg) (G : En) (K : PySem.W.Frag) (mg : Str → Option Value) (base : Heap) : Prop where
  mf : MF S G K mg
  ea : G.ea = none
  std : ∀ (j : Nat) (d : DefS), S.Ds[j]? = some (.std d) → DefOk S G K mg base j d
  err : ∀ (j : Nat) (d : DefX), S.Ds[j]? = some (.err d) → ErrOk S G K mg base j d
section
variable {S : Sg} {G : En} {K : PySem.W.Frag} {mg : Str → Option Value} {base : Heap} {P : Program} {w : World}
theorem MF.withE {a : Addr} (m : MF S G K mg) : MF S (withE G a) K mg := ⟨m.fr, m.mb, m.gi, m.exs, m.ex, m.exc, m.exq, m.mq, m.kit, m.dfn, m.fnd, m.df⟩
theorem sp_bad {G : En} {j np : Nat} {Ds : List Def} {vs : List V} {H : Hp} {Q : VK} {E : XK} (h : spD K G (callD Ds 0 j) np vs H Q E) : False := by
  obtain ⟨us, μ, α, β, _, _, _, q⟩ := h
  exact q
theorem sp_len {G : En} {np : Nat} {f : List U → Mem → R U} {vs : List V} {H : Hp} {Q : VK} {E : XK} (h : spD K G f np vs H Q E) : vs.length = np := by
  obtain ⟨us, μ, α, β, _, r, e, _⟩ := h
  rw [← r.len, e]
theorem ff0 {a : Option Addr} (t : TX S G K mg base) : FF S { G with ea := a } P w K mg base 0 := ⟨fun j d hd => by
  obtain ⟨params, body, sc, lam, fd, F, B, ch, _⟩ := t.std j d hd
  exact ⟨fd, ⟨fun _ _ _ _ h => (sp_bad h).elim, fun _ _ _ _ _ _ _ _ _ _ _ _ _ h => (sp_bad h).elim⟩, B⟩⟩
/-- the suites -/
theorem su_ok (t : TX S G K mg base) {d : DefX} {sc : Scope} {ad : Addr} {suite : List Stmt} (hnd : d.N.Nodup) (hk : sc.kind = .function) (h : chkSs S d.N ⟨fun _ => true, false, some d.ei⟩ sc d.suite suite = true) : SuS S G K mg base P w d sc ad suite := by
  intro cdv A outer s H a oe cls dd pn c hu hz hf hc hcls hdd
  have g : GX S (withE G a) 0 (noOrc (some c)) d.N sc ⟨fun _ => true, false, some d.ei⟩ WF ((cxOf C8.CX0 P w K mg base d.N d.name sc ad cdv A outer s H C8.E0).nox.suite a ((a, oe) :: pn)) :=
    { mf := t.mf.withE, ff := ff0 (a := some a) t, hN := rfl, nd := hnd, hs := rfl, kd := hk, calm := fun z => (by cases z),
      hot := fun _ => ⟨(a, oe), c, rfl, List.mem_cons_self, ⟨rfl, (by
        obtain ⟨vs, hv⟩ := hf
        exact ⟨vs, hv, hz.2.2 vs hv⟩)⟩, rfl, hc, fun hl => (by
        have z := hz.zc
        rw [hcls, hdd hl] at z
        exact z), hf⟩,
      lm := fun z => (by cases z), hfn := fun _ _ => rfl, tk := takes0N, un := hu, po := PassesOwn.never }
  exact sndSs g d.suite suite h
theorem err_ok (t : TX S G K mg base) {j : Nat} {d : DefX} (hd : S.Ds[j]? = some (.err d)) : ErF S G K mg base P w j d := by
  obtain ⟨gl, kp, params, body, sc, fd, F, B, ch⟩ := t.err j d hd
  unfold chkErr at ch
  split at ch
  · rename_i a p1 p2 p3 q p4 e b0 suite p5 p6 r kk p7 p8
    simp only [Bool.and_eq_true, decide_eq_true_eq, beq_iff_eq] at ch
    obtain ⟨⟨⟨⟨⟨⟨⟨⟨⟨⟨⟨⟨c1, c2⟩, c3⟩, c4⟩, c5⟩, c6⟩, c7⟩, c8⟩, c9⟩, c10⟩, c11⟩, c12⟩, c13⟩ := ch
    subst c7
    obtain ⟨s1, s2⟩ := scope_of c1
    have e1 : d.N.take 1 = [a] := by
      cases hN : d.N with
      | nil => rw [hN] at c3; cases c3
      | cons x r =>
        rw [hN] at c3
        have z : x = a := by simpa using c3
        rw [z]
        rfl
    rw [e1] at B s1
    have va : Vis sc a := by
      unfold visB at c4
      cases q : sc.names.lookup a with
      | none => rw [q] at c4; cases c4
      | some k => cases k <;> first | exact .inl q | exact .inr (.inl q) | exact .inr (.inr q) | (rw [q] at c4; cases c4)
    subst c12
    exact ⟨gl, kp, c11, params, sc, fd, a, e, b0, suite, p1, p2, p3, p4, p5, p6, p7, p8, kk, F, B, s1, c3, va, c5, c8, c9, c10, su_ok t s1.nd s1.kind c13⟩
  · cases ch
/-- a def keeps its promise, where all others do so of a lesser depth -/
theorem def_ok (t : TX S G K mg base) {k : Nat} (ih : FF S G P w K mg base k) {j : Nat} {d : DefS} (hd : S.Ds[j]? = some (.std d)) {params : Arguments} {body : List Stmt} {sc : Scope} {lam : Bool} {fd : FuncData} (F : FunD K d.name d.name params body sc [] [] (G.ad j) fd) (ch : chkDef S lam d params body sc = true)
    (hl : lam = true → ∃ c P, fd.code = .ref c ∧ TabB base mg c P ∧ (P, d.name ++ ".<locals>." ++ "<lambda>") ∈ G.T ∧ ∀ p ∈ G.T, p.1 = P → p.2 = d.name ++ ".<locals>." ++ "<lambda>") :
    FnOk P w K mg base (L2N.CX P w) (3 * (k + 1)) (G.ad j) fd (d.N.take d.np) (spD K G (callD S.Ds (k + 1) j) d.np) := by
  unfold chkDef at ch
  simp only [Bool.and_eq_true, decide_eq_true_eq] at ch
  obtain ⟨⟨c1, c2⟩, c3⟩ := ch
  obtain ⟨s1, s2⟩ := scope_of c1
  obtain ⟨oc, od, dV, kV, doc, pm, an, cdv, ct, osl, rfl, lk, hcd, _, _⟩ := F.ex
  show FnOk P w K mg base (L2N.CX P w) (3 * k + 2 + 1) _ _ _ _
  refine fn_of lk hcd s1 (fun vs H Q E h => by rw [sp_len h, s2]) fun A outer s H vs Q E hr h => ?_
  obtain ⟨us, μ, α, β, hm, r, hn, q⟩ := h
  have g : GX S G k (orc S.Ds k) d.N sc ⟨fun _ => true, lam, none⟩ (fun cls dd _ H' => E cls dd H') (cxOf (L2N.CX P w) P w K mg base d.N d.name sc (G.ad j) cdv A outer s H E) :=
    { mf := t.mf, ff := ih, hN := rfl, nd := s1.nd, hs := rfl, kd := s1.kind, calm := fun _ => ⟨rfl, rfl, hr.mono (by omega)⟩, hot := fun z => (by cases z),
      lm := fun z => ⟨fun j d hd => err_ok t hd, hr, t.ea, (by
        obtain ⟨c, P', e1, e2, e3, e4⟩ := hl z
        exact ⟨c, P', e1, e2, e3, e4⟩)⟩,
      hfn := fun _ _ => rfl, tk := L2N.takes_of rfl rfl rfl rfl, un := (by have := hr.un; show (A.deeper (envOfC d.name sc s.heap.objs.size (G.ad j) cdv)).units + 65 < cLine; omega), po := passes_of rfl }
  refine ⟨_, sndSs g d.body body c3, ?_⟩
  have q2 : callD S.Ds (k + 1) j us μ = runD d (orc S.Ds k) us μ := by
    unfold callD
    rw [hd]
  rw [q2] at q
  obtain ⟨_, q3⟩ := post_run hm q
  exact ⟨startU d.N us, μ, α, β, SR.start r, hm, q3⟩
/-- every def keeps its promise -/
theorem ff_all (t : TX S G K mg base) : ∀ k, FF S G P w K mg base k
  | 0 => ff0 (a := G.ea) t
  | k + 1 => ⟨fun j d hd => by
    obtain ⟨params, body, sc, lam, fd, F, B, ch, hl⟩ := t.std j d hd
    exact ⟨fd, def_ok t (ff_all t k) hd F ch hl, B⟩⟩
end
end Mini

set_option maxHeartbeats 4000000
/-! Mini, part N: the head. -/
namespace Mini
open PySem PySem.Spec PyProof.Rows L2 LamX

def Def.name : Def → Str
  | .std d => d.name
  | .err d => d.name
/-- a def of the small language, its text, whether it makes lambdas -/
structure Rw where
  d : Def
  st : Stmt
  lam : Bool
def Rw.ps (r : Rw) : List Str := match r.d with
  | .std d => d.N.take d.np
  | .err d => d.N.take 1
def Rw.bnd (r : Rw) : Prop := ∀ (kV doc pm : Value) (an : Option Addr) (cdv ct : Value) (us : List Value), us.length = r.ps.length →
  bindArgs (PySem.W.fnOf r.d.name r.d.name (defArgs r.st) (defBody r.st) (defScope r.st) .none kV doc pm an cdv ct) ⟨us, []⟩ = pure (r.ps.zip us)
def bndL : List Rw → Prop
  | [] => True
  | r :: rs => r.bnd ∧ bndL rs
theorem bndL_mem : ∀ {rs : List Rw} {r : Rw}, bndL rs → r ∈ rs → r.bnd
  | _ :: _, _, h, m => (List.mem_cons.mp m).elim (fun e => e ▸ h.1) fun m => bndL_mem h.2 m
def Rw.chk (S : Sg) (r : Rw) : Bool := match r.d with
  | .std d => chkDef S r.lam d (defArgs r.st) (defBody r.st) (defScope r.st)
  | .err d => !r.lam && chkErr S d (defArgs r.st) (defBody r.st) (defScope r.st)
def Rw.fn (r : Rw) : He.DefD := ⟨(r.d.name, none), r.d.name, r.d.name, defArgs r.st, defBody r.st, defScope r.st, [], []⟩
def fnL (rs : List Rw) : List He.DefD := rs.map Rw.fn
def tfL (rs : List Rw) : List He.Defn := (rs.filter (·.lam)).map fun r => (r.d.name, none)
def faL (S : Sg) (rs : List Rw) : List He.Fa :=
  (rs.map fun r => He.Fa.glo r.d.name) ++ (S.fr.map He.Fa.free ++ (S.gi.map (fun p => He.Fa.int p.1 p.2) ++ (S.exs.map He.Fa.glo ++ (S.exs.map He.Fa.exc ++ (S.exs.map (fun c => He.Fa.exm c S.q true) ++ [He.Fa.glo S.q])))))
def excB (K : PySem.W.Frag) (D : Addr) : Bool :=
  He.eqO (PySem.W.findIn K (.ref D) "__getattribute__") (some (some (.builtin "BaseException.__getattribute__"))) && (He.eqO (PySem.W.findIn K (.ref D) "__getattr__") (some none) &&
  (decide (PySem.W.subIn K (.ref D) (.type "BaseException") = some true) && (PySem.W.hasDictIn K D && (He.eqO (PySem.W.findIn K (.ref D) "__class__") (some (some (.builtin "object.__class__"))) &&
  (He.eqO (PySem.W.specialIn K (.builtin "object.__class__") "__get__") (some (some (.builtin "getset_descriptor.__get__"))) && (decide (PySem.W.takesIn K (.builtin "object.__class__") = some true) && decide (PySem.W.mroIn K D (.type "object") = some true)))))))
theorem excB_ok {K : PySem.W.Frag} {D : Addr} (h : excB K D = true) : ExcC K D := by
  unfold excB at h
  simp only [Bool.and_eq_true, decide_eq_true_eq] at h
  obtain ⟨h1, h2, h3, h4, h5, h6, h7, h8⟩ := h
  exact ⟨He.eqO_ok h1, He.eqO_ok h2, h3, h4, He.eqO_ok h5, He.eqO_ok h6, h7, h8⟩
def exL (S : Sg) (rs : List Rw) (K : PySem.W.Frag) : Bool :=
  (S.mb.all fun p => He.eqO (PySem.W.nsIn K mainGlobals p.1) (some (some (.builtin p.2)))) && ((S.exs.all fun c => excB K (He.ga K c)) && ((S.exs.all fun c => S.exs.all fun t => decide (PySem.W.kitOne K (.ref (He.ga K c)) (.ref (He.ga K t)) = some (c == t))) &&
    decide (((tfL rs).map fun p => (He.cT K p).2).Nodup)))
def enH (S : Sg) (rs : List Rw) (K : PySem.W.Frag) : En where
  ad := fun j => match S.Ds[j]? with
    | some d => He.ga K d.name
    | none => 0
  ca := He.ga K
  fld := fun _ => "limit"
  dfn := fun j => ∃ d, S.Ds[j]? = some (.std d)
  T := (tfL rs).map fun p => ((He.cT K p).2, p.1 ++ ".<locals>." ++ "<lambda>")
  ea := none
  exs := S.exs
section
variable {S : Sg} {rs : List Rw} {K : PySem.W.Frag} {w : World} {h : Heap} {mg : Str → Option Value} {base : Heap}
theorem row_at (hD : S.Ds = rs.map (·.d)) {j : Nat} {d : Def} (hd : S.Ds[j]? = some d) : ∃ r ∈ rs, r.d = d := by
  rw [hD, List.getElem?_map] at hd
  cases q : rs[j]? with
  | none => rw [q] at hd; cases hd
  | some r =>
    rw [q] at hd
    cases hd
    exact ⟨r, List.mem_of_getElem? q, rfl⟩
theorem ad_at {j : Nat} {d : Def} (hd : S.Ds[j]? = some d) : (enH S rs K).ad j = He.ga K d.name := by
  show (match S.Ds[j]? with | some d => He.ga K d.name | none => 0) = _
  rw [hd]
theorem nodup_fst {A B : Type} {f : A → B} : ∀ {l : List A}, (l.map f).Nodup → ∀ {a b : A}, a ∈ l → b ∈ l → f a = f b → a = b
  | [], _, _, _, ha, _, _ => by cases ha
  | x :: l, h, a, b, ha, hb, e => by
    simp only [List.map_cons, List.nodup_cons] at h
    rcases List.mem_cons.mp ha with z | z <;> rcases List.mem_cons.mp hb with y | y
    · rw [z, y]
    · exact absurd (List.mem_map.mpr ⟨b, y, by rw [← e, z]⟩) h.1
    · exact absurd (List.mem_map.mpr ⟨a, z, by rw [e, y]⟩) h.1
    · exact nodup_fst h.2 z y e
theorem tx_of (hD : S.Ds = rs.map (·.d)) (hchk : rs.all (Rw.chk S) = true) (hb : bndL rs) (c : He.SaysX (faL S rs) (fnL rs) [] (tfL rs) (exL S rs) w h K) (X : K.In h) (Gm : h.Ns mainGlobals mg)
    (hT : ∀ p ∈ (tfL rs).map (He.cT K), TabB base mg p.1 p.2) : TX S (enH S rs K) K mg base := by
  have cd : He.SaysD (faL S rs) (fnL rs) K := He.SaysT.d c.t
  have mem : ∀ f, f ∈ faL S rs → He.Fa.ok K f = true := fun f hf => He.SaysD.facts cd hf
  have fglo : ∀ r ∈ rs, mg r.d.name = some (.ref (He.ga K r.d.name)) := fun r hr => He.glo_ok X Gm (mem _ (by
    unfold faL
    exact List.mem_append_left _ (List.mem_map.mpr ⟨r, hr, rfl⟩)))
  have ffn : ∀ r ∈ rs, ∃ fd, FunD K r.d.name r.d.name (defArgs r.st) (defBody r.st) (defScope r.st) [] [] (He.ga K r.d.name) fd := fun r hr => He.SaysD.defs cd (d := r.fn) (List.mem_map.mpr ⟨r, hr, rfl⟩)
  have hck : ∀ r ∈ rs, r.chk S = true := fun r hr => List.all_eq_true.mp hchk r hr
  have more := c.more
  unfold exL at more
  simp only [Bool.and_eq_true, decide_eq_true_eq, List.all_eq_true] at more
  obtain ⟨m1, m2, m3, m4⟩ := more
  have fglc : ∀ x ∈ S.exs, mg x = some (.ref (He.ga K x)) := fun x hx => He.glo_ok X Gm (mem _ (by
    unfold faL
    exact List.mem_append_right _ (List.mem_append_right _ (List.mem_append_right _ (List.mem_append_left _ (List.mem_map.mpr ⟨x, hx, rfl⟩))))))
  have fexc : ∀ x ∈ S.exs, (He.Fa.exc x).ok K = true := fun x hx => mem _ (by
    unfold faL
    exact List.mem_append_right _ (List.mem_append_right _ (List.mem_append_right _ (List.mem_append_right _ (List.mem_append_left _ (List.mem_map.mpr ⟨x, hx, rfl⟩))))))
  have fexm : ∀ x ∈ S.exs, (He.Fa.exm x S.q true).ok K = true := fun x hx => mem _ (by
    unfold faL
    exact List.mem_append_right _ (List.mem_append_right _ (List.mem_append_right _ (List.mem_append_right _ (List.mem_append_right _ (List.mem_append_left _ (List.mem_map.mpr ⟨x, hx, rfl⟩)))))))
  have mf : MF S (enH S rs K) K mg :=
    { fr := fun x hx => He.free_ok X Gm (mem _ (by
        unfold faL
        exact List.mem_append_right _ (List.mem_append_left _ (List.mem_map.mpr ⟨x, hx, rfl⟩))))
      mb := fun p hp => PySem.W.mg_of X Gm (He.eqO_ok (m1 p hp))
      gi := fun p hp => He.int_ok X Gm (mem _ (by
        unfold faL
        exact List.mem_append_right _ (List.mem_append_right _ (List.mem_append_left _ (List.mem_map.mpr ⟨p, hp, rfl⟩)))))
      exs := rfl
      ex := fun x hx => by
        obtain ⟨a, b, d, e⟩ := He.exc_ok (fexc x hx)
        exact ⟨fglc x hx, a, b, d, e⟩
      exc := fun x hx => excB_ok (m2 x hx)
      exq := fun x hx => He.exm_ok (fexm x hx)
      mq := He.glo_ok X Gm (mem _ (by
        unfold faL
        exact List.mem_append_right _ (List.mem_append_right _ (List.mem_append_right _ (List.mem_append_right _ (List.mem_append_right _ (List.mem_append_right _ (List.mem_singleton.mpr rfl))))))))
      kit := fun x hx t ht => m3 x hx t ht
      dfn := fun j hj => hj
      fnd := fun j d hd => ⟨d, hd⟩
      df := fun j d hd => by
        obtain ⟨r, hr, e⟩ := row_at hD hd
        have g := fglo r hr
        obtain ⟨fd, F⟩ := ffn r hr
        rw [ad_at hd]
        rw [e] at g F
        exact ⟨g, F.kp⟩ }
  refine ⟨mf, rfl, fun j d hd => ?_, fun j d hd => ?_⟩
  · obtain ⟨r, hr, e⟩ := row_at hD hd
    obtain ⟨fd, F⟩ := ffn r hr
    have B := FunD.bindsN (ps := r.ps) F (bndL_mem hb hr)
    have ck := hck r hr
    obtain ⟨rd, st, lam⟩ := r
    have e : rd = .std d := e
    subst e
    refine ⟨defArgs st, defBody st, defScope st, lam, fd, by rw [ad_at hd]; exact F, B, ck, fun hl => ?_⟩
    have hl : lam = true := hl
    subst hl
    have hm : ((d.name, none) : He.Defn) ∈ tfL rs := List.mem_map.mpr ⟨_, List.mem_filter.mpr ⟨hr, rfl⟩, rfl⟩
    obtain ⟨oc, od, dV, kV, doc, pm, an, cdv, ct, osl, rfl, lk, hcd, _, _⟩ := F.ex
    obtain ⟨cc, ecc⟩ := He.codeIn_ref hcd
    have ec : He.codeOf K (d.name, none) = cc := He.codeOf_eq (p := (d.name, none)) lk ecc
    have tb := hT (He.cT K (d.name, none)) (List.mem_map.mpr ⟨_, hm, rfl⟩)
    refine ⟨(He.cT K (d.name, none)).1, (He.cT K (d.name, none)).2, ?_, tb, List.mem_map.mpr ⟨_, hm, rfl⟩, fun p hp ep => ?_⟩
    · show cdv = .ref (He.codeOf K (d.name, none))
      rw [ec, ecc]
    · obtain ⟨q, hq, rfl⟩ := List.mem_map.mp hp
      have z : q = (d.name, none) := nodup_fst m4 hq hm ep
      rw [z]
  · obtain ⟨r, hr, e⟩ := row_at hD hd
    obtain ⟨fd, F⟩ := ffn r hr
    have g := fglo r hr
    have B := FunD.bindsN (ps := r.ps) F (bndL_mem hb hr)
    have ck := hck r hr
    obtain ⟨rd, st, lam⟩ := r
    have e : rd = .err d := e
    subst e
    have ck : (!lam && chkErr S d (defArgs st) (defBody st) (defScope st)) = true := ck
    simp only [Bool.and_eq_true] at ck
    refine ⟨by rw [ad_at hd]; exact g, by rw [ad_at hd]; exact F.kp, defArgs st, defBody st, defScope st, fd, by rw [ad_at hd]; exact F, B, ck.2⟩
theorem vrs_ints {G : En} {α β : List Addr} {H : Hp} : ∀ ns : List Int, VRs K G α β H (ns.map U.int) (ns.map V.int)
  | [] => rfl
  | n :: ns => ⟨_, _, rfl, rfl, vrs_ints ns⟩
/-- THE LAW: what the small language says of every script -/
theorem law_at {l : PySem.W.OpenLaw} {n k j : Nat} {x : Str} {d : DefS} (hD : S.Ds = rs.map (·.d)) (hchk : rs.all (Rw.chk S) = true) (hb : bndL rs) (c : He.SaysX (faL S rs) (fnL rs) [] (tfL rs) (exL S rs) w h K) (X : K.In h) (Gm : h.Ns mainGlobals mg)
    (hj : S.Ds[j]? = some (.std d)) (hps : d.N.take d.np = [x]) (hnp : d.np = 1)
    (plain : ∀ ns : List Int, ns.length ≤ n → (∀ z ∈ ns, Builtin.Int.intBits z ≤ 1048576) → ∃ μ, callD S.Ds (k + 1) j [.rol (ns.map U.int)] [] = .ok (.bl true) μ) : LawAtS l w K (L2N.CX l.prog w) (3 * (k + 1)) n x mg (He.ga K d.name) h := by
  obtain ⟨r, hr, e⟩ := row_at hD hj
  have cd : He.SaysD (faL S rs) (fnL rs) K := He.SaysT.d c.t
  obtain ⟨fd, F⟩ := He.SaysD.defs cd (d := r.fn) (List.mem_map.mpr ⟨r, hr, rfl⟩)
  have F : FunD K r.d.name r.d.name (defArgs r.st) (defBody r.st) (defScope r.st) [] [] (He.ga K r.d.name) fd := F
  have hrp : r.ps = [x] := by
    unfold Rw.ps
    rw [e]
    exact hps
  have hbr := bndL_mem hb hr
  refine ⟨fd, (tfL rs).map (He.cT K), spD K (enH S rs K) (callD S.Ds (k + 1) j) d.np, fun p hp => ?_, fun p hp => ?_, fun p hp => ?_, fun s u => ?_, fun H a ns hl hbits hH hS => ?_, fun base hK hN hTb => ?_⟩
  · obtain ⟨q, hq, rfl⟩ := List.mem_map.mp hp
    exact c.empty q hq
  · obtain ⟨q, hq, rfl⟩ := List.mem_map.mp hp
    exact c.out q hq
  · obtain ⟨q, hq, rfl⟩ := List.mem_map.mp hp
    exact PySem.W.codeHd_of_K X (c.hd q hq)
  · have z := FunD.bindsA (ps := r.ps) F hbr s [u] (by rw [hrp] <;> rfl)
    rw [hrp] at z
    exact z
  · obtain ⟨μ, hp⟩ := plain ns hl hbits
    have hr0 : HR K (enH S rs K) [] [] [] H :=
      { len := rfl, nd := List.nodup_nil, dis := (fun _ z => by cases z), priv := (fun _ z => by cases z), at_ := fun n xs hx => (by cases n <;> cases hx), tabs := fun p hp => (by
        obtain ⟨q, hq, rfl⟩ := List.mem_map.mp hp
        exact TabS.nil (hH _ (List.mem_map.mpr ⟨q, hq, rfl⟩))) }
    refine ⟨[.rol (ns.map U.int)], [], [], [], hr0, ⟨.ref a, [], rfl, ⟨a, _, rfl, ?_, vrs_ints ns⟩, rfl⟩, hnp.symm, ?_⟩
    · exact hS.imp (fun z => ⟨z, (by simp), (by simp)⟩) id
    · rw [hp]
      exact fun H' α' _ _ v rv => rv
  · have t := tx_of (base := base) hD hchk hb c X Gm hTb
    obtain ⟨params, body, sc, lam, fd', F', B', ch, hl⟩ := t.std j d hj
    have e1 : (enH S rs K).ad j = He.ga K d.name := ad_at hj
    have eq : fd = fd' := by
      obtain ⟨oc, od, dV, kV, doc, pm, an, cdv, ct, osl, e1', lk, _⟩ := F.ex
      obtain ⟨oc', od', dV', kV', doc', pm', an', cdv', ct', osl', e2', lk', _⟩ := F'.ex
      rw [e1] at lk'
      rw [e] at lk
      have z := lk.symm.trans lk'
      cases z
      rfl
    subst eq
    have Fn := def_ok (P := l.prog) (w := w) t (ff_all t k) hj F' ch hl
    rw [e1, hps] at Fn
    exact Fn
end
end Mini

set_option maxHeartbeats 4000000
/-! Mini, part S: what pieces of the small language come to. -/
namespace Mini
open PySem L2
theorem call_at {Ds : List Def} {k j : Nat} {d : DefS} {us : List U} {μ : Mem} (h : Ds[j]? = some (.std d)) : callD Ds (k + 1) j us μ = runD d (orc Ds k) us μ := by
  unfold callD
  rw [h]
theorem lam_at {Ds : List Def} {j : Nat} {d : DefX} {r : R U} (h : Ds[j]? = some (.err d)) : lamD Ds j r = lamX d r := by
  unfold lamD
  rw [h]
theorem bind_ok {α β : Type} {a : α} {μ : Mem} {f : α → Mem → R β} : (R.ok a μ).bind f = f a μ := rfl
theorem bind_exc {α β : Type} {c : Exn} {μ : Mem} {f : α → Mem → R β} : (R.exc c μ : R α).bind f = .exc c μ := rfl
theorem bind_bad {α β : Type} {f : α → Mem → R β} : (R.bad : R α).bind f = .bad := rfl
theorem isi_int_int {i : Int} : isiD "int" (.int i) = some true := rfl
theorem isi_int_bl {i : Bool} : isiD "int" (.bl i) = some true := rfl
theorem isi_int_non : isiD "int" .non = some false := rfl
theorem isi_int_str {s : Str} : isiD "int" (.str s) = some false := rfl
theorem isi_int_tup {s : List U} : isiD "int" (.tup s) = some false := rfl
theorem isi_int_lst {s : List U} : isiD "int" (.lst s) = some false := rfl
theorem isi_int_rol {s : List U} : isiD "int" (.rol s) = some false := rfl
theorem isi_int_ref {n : Nat} : isiD "int" (.ref n) = some false := rfl
theorem isi_bool_int {i : Int} : isiD "bool" (.int i) = some false := rfl
theorem isi_bool_bl {i : Bool} : isiD "bool" (.bl i) = some true := rfl
theorem isi_bool_non : isiD "bool" .non = some false := rfl
theorem isi_bool_str {s : Str} : isiD "bool" (.str s) = some false := rfl
theorem isi_bool_tup {s : List U} : isiD "bool" (.tup s) = some false := rfl
theorem isi_bool_lst {s : List U} : isiD "bool" (.lst s) = some false := rfl
theorem isi_bool_rol {s : List U} : isiD "bool" (.rol s) = some false := rfl
theorem isi_bool_ref {n : Nat} : isiD "bool" (.ref n) = some false := rfl
theorem isi_tup_int {i : Int} : isiD "tuple" (.int i) = some false := rfl
theorem isi_tup_bl {i : Bool} : isiD "tuple" (.bl i) = some false := rfl
theorem isi_tup_non : isiD "tuple" .non = some false := rfl
theorem isi_tup_str {s : Str} : isiD "tuple" (.str s) = some false := rfl
theorem isi_tup_tup {s : List U} : isiD "tuple" (.tup s) = some true := rfl
theorem isi_tup_lst {s : List U} : isiD "tuple" (.lst s) = some false := rfl
theorem isi_tup_rol {s : List U} : isiD "tuple" (.rol s) = some false := rfl
theorem isi_tup_ref {n : Nat} : isiD "tuple" (.ref n) = some false := rfl
theorem isi_str_int {i : Int} : isiD "str" (.int i) = some false := rfl
theorem isi_str_bl {i : Bool} : isiD "str" (.bl i) = some false := rfl
theorem isi_str_non : isiD "str" .non = some false := rfl
theorem isi_str_str {s : Str} : isiD "str" (.str s) = some true := rfl
theorem isi_str_tup {s : List U} : isiD "str" (.tup s) = some false := rfl
theorem isi_str_lst {s : List U} : isiD "str" (.lst s) = some false := rfl
theorem isi_str_rol {s : List U} : isiD "str" (.rol s) = some false := rfl
theorem isi_str_ref {n : Nat} : isiD "str" (.ref n) = some false := rfl
theorem isi_list_int {i : Int} : isiD "list" (.int i) = some false := rfl
theorem isi_list_bl {i : Bool} : isiD "list" (.bl i) = some false := rfl
theorem isi_list_non : isiD "list" .non = some false := rfl
theorem isi_list_str {s : Str} : isiD "list" (.str s) = some false := rfl
theorem isi_list_tup {s : List U} : isiD "list" (.tup s) = some false := rfl
theorem isi_list_lst {s : List U} : isiD "list" (.lst s) = some true := rfl
theorem isi_list_rol {s : List U} : isiD "list" (.rol s) = some true := rfl
theorem isi_list_ref {n : Nat} : isiD "list" (.ref n) = some true := rfl
theorem bi_len_tup {m : Bool} {xs : List U} {μ : Mem} : biD m "len" [.tup xs] μ = .ok (.int xs.length) μ := rfl
theorem bi_len_lst {m : Bool} {xs : List U} {μ : Mem} : biD m "len" [.lst xs] μ = .ok (.int xs.length) μ := rfl
theorem bi_len_rol {m : Bool} {xs : List U} {μ : Mem} : biD m "len" [.rol xs] μ = .ok (.int xs.length) μ := rfl
theorem bi_abs {m : Bool} {i : Int} {μ : Mem} : biD m "abs" [.int i] μ = .ok (.int (if i < 0 then -i else i)) μ := rfl
theorem bi_int {m : Bool} {i : Int} {μ : Mem} : biD m "int" [.int i] μ = .ok (.int i) μ := rfl
theorem bi_gcd {m : Bool} {i j : Int} {μ : Mem} : biD m "gcd" [.int i, .int j] μ = .ok (.int (Nat.gcd i.natAbs j.natAbs : Nat)) μ := rfl
theorem bi_list_lst {m : Bool} {xs : List U} {μ : Mem} : biD m "list" [.lst xs] μ = alloc m xs μ := rfl
theorem bi_list_tup {m : Bool} {xs : List U} {μ : Mem} : biD m "list" [.tup xs] μ = alloc m xs μ := rfl
theorem bi_list_rol {m : Bool} {xs : List U} {μ : Mem} : biD m "list" [.rol xs] μ = alloc m xs μ := rfl
theorem bi_tuple_lst {m : Bool} {xs : List U} {μ : Mem} : biD m "tuple" [.lst xs] μ = .ok (.tup xs) μ := rfl
theorem bi_tuple_tup {m : Bool} {xs : List U} {μ : Mem} : biD m "tuple" [.tup xs] μ = .ok (.tup xs) μ := rfl
theorem bin_add {m : Bool} {i j : Int} {μ : Mem} : binD m .Add (.int i) (.int j) μ = .ok (.int (i + j)) μ := rfl
theorem bin_sub {m : Bool} {i j : Int} {μ : Mem} : binD m .Sub (.int i) (.int j) μ = .ok (.int (i - j)) μ := rfl
theorem bin_mul {m : Bool} {i j : Int} {μ : Mem} (h : mulOk i j = true) : binD m .Mult (.int i) (.int j) μ = .ok (.int (i * j)) μ := by
  show (if mulOk i j = true then _ else _) = _
  rw [if_pos h]
theorem bin_fdiv {m : Bool} {i j : Int} {μ : Mem} (h : divOk j = true) : binD m .FloorDiv (.int i) (.int j) μ = .ok (.int (i.fdiv j)) μ := by
  show (if divOk j = true then _ else _) = _
  rw [if_pos h]
theorem bin_mod {m : Bool} {i j : Int} {μ : Mem} (h : (j != 0) = true) : binD m .Mod (.int i) (.int j) μ = .ok (.int (i.fmod j)) μ := by
  show (if (j != 0) = true then _ else _) = _
  rw [if_pos h]
theorem bin_cat {xs ys : List U} {μ : Mem} (h : xs.length + ys.length ≤ bigL) : binD false .Add (.lst xs) (.lst ys) μ = .ok (.lst (xs ++ ys)) μ := by
  show (if xs.length + ys.length ≤ bigL then _ else _) = _
  rw [if_pos h]
  rfl
theorem bin_pow {m : Bool} {i j : Int} {μ : Mem} (h : powOk i j = true) : binD m .Pow (.int i) (.int j) μ = .ok (.int (i ^ j.toNat)) μ := by
  show (if powOk i j = true then _ else _) = _
  rw [if_pos h]
theorem cmp_lt {i j : Int} {μ : Mem} : cmpR .Lt (.int i) (.int j) μ = .ok (.bl (decide (i < j))) μ := rfl
theorem cmp_le {i j : Int} {μ : Mem} : cmpR .LtE (.int i) (.int j) μ = .ok (.bl (decide (i ≤ j))) μ := rfl
theorem cmp_gt {i j : Int} {μ : Mem} : cmpR .Gt (.int i) (.int j) μ = .ok (.bl (decide (j < i))) μ := rfl
theorem cmp_ge {i j : Int} {μ : Mem} : cmpR .GtE (.int i) (.int j) μ = .ok (.bl (decide (j ≤ i))) μ := rfl
theorem cmp_eq {i j : Int} {μ : Mem} : cmpR .Eq (.int i) (.int j) μ = .ok (.bl (i == j)) μ := rfl
theorem cmp_ne {i j : Int} {μ : Mem} : cmpR .NotEq (.int i) (.int j) μ = .ok (.bl (!(i == j))) μ := rfl
theorem cmpD_le {i j : Int} {μ : Mem} : cmpD .LtE (.int i) (.int j) μ = some (decide (i ≤ j)) := rfl
theorem cmpD_lt {i j : Int} {μ : Mem} : cmpD .Lt (.int i) (.int j) μ = some (decide (i < j)) := rfl
theorem idx_tup {xs : List U} {i : Int} {μ : Mem} : idxD (.tup xs) (.int i) μ = (match atU xs i with | some u => .ok u μ | none => .bad) := rfl
theorem idx_lst {xs : List U} {i : Int} {μ : Mem} : idxD (.lst xs) (.int i) μ = (match atU xs i with | some u => .ok u μ | none => .bad) := rfl
theorem idx_rol {xs : List U} {i : Int} {μ : Mem} : idxD (.rol xs) (.int i) μ = (match atU xs i with | some u => .ok u μ | none => .bad) := rfl
theorem idx_ref {n : Nat} {xs : List U} {i : Int} {μ : Mem} (h : μ[n]? = some xs) : idxD (.ref n) (.int i) μ = (match atU xs i with | some u => .ok u μ | none => .bad) := by
  show (match μ[n]? with | some xs => (match atU xs i with | some u => R.ok u μ | none => .bad) | none => .bad) = _
  rw [h]
theorem ix_nat {n i : Nat} (h : i < n) : ixN n (i : Int) = some i := by
  unfold ixN
  rw [if_pos (by omega), if_pos (by omega)]
  simp
theorem at_nat {xs : List U} {i : Nat} {u : U} (h : xs[i]? = some u) : atU xs (i : Int) = some u := by
  have hl := (List.getElem?_eq_some_iff.mp h).1
  unfold atU ixN
  rw [if_pos (by omega), if_pos (by omega)]
  simpa using h
theorem at_0 {x : U} {xs : List U} : atU (x :: xs) 0 = some x := at_nat (i := 0) rfl
theorem at_1 {x y : U} {xs : List U} : atU (x :: y :: xs) 1 = some y := at_nat (i := 1) rfl
theorem at_2 {x y z : U} {xs : List U} : atU (x :: y :: z :: xs) 2 = some z := at_nat (i := 2) rfl
theorem at_int {xs : List U} {i : Int} {u : U} (h0 : 0 ≤ i) (h : xs[i.toNat]? = some u) : atU xs i = some u := by
  have z := at_nat h
  rwa [Int.toNat_of_nonneg h0] at z
theorem seq_ret {C : Orc} {s : IS} {ss : ISs} {ρ : Slots} {μ μ1 : Mem} {u : U} (h : denS C s ρ μ = .ok (.ret u) μ1) : denSs C (.cons s ss) ρ μ = .ok (.ret u) μ1 := by
  simp only [denSs, h]
theorem seq_next {C : Orc} {s : IS} {ss : ISs} {ρ ρ1 : Slots} {μ μ1 : Mem} (h : denS C s ρ μ = .ok (.next ρ1) μ1) : denSs C (.cons s ss) ρ μ = denSs C ss ρ1 μ1 := by
  simp only [denSs, h]
theorem seq_exc {C : Orc} {s : IS} {ss : ISs} {ρ : Slots} {μ μ1 : Mem} {c : Exn} (h : denS C s ρ μ = .exc c μ1) : denSs C (.cons s ss) ρ μ = .exc c μ1 := by
  simp only [denSs, h]
theorem for_at {C : Orc} {t : IT} {it : II} {b : ISs} {ρ : Slots} {μ μ1 : Mem} {xs : List U} (h : denI C it ρ μ = .ok xs μ1) :
    denS C (.for_ t it b) ρ μ = forLoop (fun ρ μ => denSs C b ρ μ) (fun u μ ρ => setT t u μ ρ) xs ρ μ1 := by
  simp only [denS, h, bind_ok]
theorem rng1_at {C : Orc} {n : Int} {ρ : Slots} {μ : Mem} (h : rngOk n = true) : denI C (.rng1 (.int n)) ρ μ = .ok (rngL 0 n) μ := by
  simp only [denI, denE, bind_ok]
  rw [if_pos h]
theorem truR_bl {b : Bool} {μ : Mem} : truR (.ok (.bl b) μ) = .ok b μ := rfl
theorem truR_int {i : Int} {μ : Mem} : truR (.ok (.int i) μ) = .ok (i != 0) μ := rfl
theorem truR_exc {c : Exn} {μ : Mem} : truR (.exc c μ) = .exc c μ := rfl
theorem ended_ret {u : U} {μ : Mem} : ended (.ok (.ret u) μ) = .ok u μ := rfl
theorem ended_next {ρ : Slots} {μ : Mem} : ended (.ok (.next ρ) μ) = .ok .non μ := rfl
theorem ended_exc {c : Exn} {μ : Mem} : ended (.exc c μ) = .exc c μ := rfl
end Mini

set_option maxHeartbeats 0
namespace K00
open PySem PySem.Spec PyProof.Rows L2 LamX Mini
def top (i : Nat) : Stmt := PySem.Challenge.pw_latticequarry_k00_whole_portions.main.body.getD i (.Pass ⟨0, 0, 0, 0⟩)
-- is_whole
def d0 : DefS := ⟨"is_whole", 3, ["value", "low", "high"], false,
  (.cons (.ret (.and (.isi (.var 0) "int") (.and (.not (.isi (.var 0) "bool")) (.chain .LtE .LtE (.var 1) (.var 0) (.var 2))))) .nil)⟩
-- need_whole
def d1 : DefS := ⟨"need_whole", 3, ["value", "low", "high"], false,
  (.cons (.ite (.not (.call 0 (.cons (.var 0) (.cons (.var 1) (.cons (.var 2) .nil))))) (.cons (.raise "InvalidNumber" "not an integer within the bounds") .nil) .nil) .nil)⟩
-- is_tuple_of
def d2 : DefS := ⟨"is_tuple_of", 3, ["value", "low", "high"], false,
  (.cons (.ret (.and (.isi (.var 0) "tuple") (.chain .LtE .LtE (.var 1) (.bi false "len" (.cons (.var 0) .nil)) (.var 2)))) .nil)⟩
-- is_portion
def d3 : DefS := ⟨"is_portion", 1, ["value"], false,
  (.cons (.ite (.or (.not (.call 2 (.cons (.var 0) (.cons (.int 2) (.cons (.int 2) .nil))))) (.or (.not (.call 0 (.cons (.idx (.var 0) (.int 0)) (.cons (.neg (.gint "GREAT" 1000000000000000000000000000000000000000000000000000000000000)) (.cons (.gint "GREAT" 1000000000000000000000000000000000000000000000000000000000000) .nil))))) (.not (.call 0 (.cons (.idx (.var 0) (.int 1)) (.cons (.int 1) (.cons (.gint "GREAT" 1000000000000000000000000000000000000000000000000000000000000) .nil))))))) (.cons (.ret (.bl false)) .nil) .nil)
  (.cons (.ret (.cmp .Eq (.bi false "gcd" (.cons (.idx (.var 0) (.int 0)) (.cons (.idx (.var 0) (.int 1)) .nil))) (.int 1))) .nil))⟩
-- need_portion
def d4 : DefS := ⟨"need_portion", 1, ["value"], false,
  (.cons (.ite (.not (.call 3 (.cons (.var 0) .nil))) (.cons (.raise "InvalidPortion" "not a portion") .nil) .nil) .nil)⟩
-- lowest
def d5 : DefS := ⟨"lowest", 2, ["top", "bottom", "shared"], false,
  (.cons (.set (.name 2) (.bi false "gcd" (.cons (.var 0) (.cons (.var 1) .nil))))
  (.cons (.set (.name 2) (.ite (.cmp .Gt (.var 1) (.int 0)) (.var 2) (.neg (.var 2))))
  (.cons (.ret (.tup (.cons (.bin false .FloorDiv (.var 0) (.var 2)) (.cons (.bin false .FloorDiv (.var 1) (.var 2)) .nil)))) .nil)))⟩
-- plus
def d6 : DefS := ⟨"plus", 2, ["one", "other"], false,
  (.cons (.ret (.call 5 (.cons (.bin false .Add (.bin false .Mult (.idx (.var 0) (.int 0)) (.idx (.var 1) (.int 1))) (.bin false .Mult (.idx (.var 1) (.int 0)) (.idx (.var 0) (.int 1)))) (.cons (.bin false .Mult (.idx (.var 0) (.int 1)) (.idx (.var 1) (.int 1))) .nil)))) .nil)⟩
-- times
def d7 : DefS := ⟨"times", 2, ["one", "other"], false,
  (.cons (.ret (.call 5 (.cons (.bin false .Mult (.idx (.var 0) (.int 0)) (.idx (.var 1) (.int 0))) (.cons (.bin false .Mult (.idx (.var 0) (.int 1)) (.idx (.var 1) (.int 1))) .nil)))) .nil)⟩
-- lead
def d8 : DefS := ⟨"lead", 2, ["one", "other"], false,
  (.cons (.ret (.bin false .Sub (.bin false .Mult (.idx (.var 0) (.int 0)) (.idx (.var 1) (.int 1))) (.bin false .Mult (.idx (.var 1) (.int 0)) (.idx (.var 0) (.int 1))))) .nil)⟩
-- portion
def d9 : DefS := ⟨"portion", 2, ["top", "bottom"], false,
  (.cons (.exp (.call 1 (.cons (.var 0) (.cons (.neg (.gint "GREAT" 1000000000000000000000000000000000000000000000000000000000000)) (.cons (.gint "GREAT" 1000000000000000000000000000000000000000000000000000000000000) .nil)))))
  (.cons (.exp (.call 1 (.cons (.var 1) (.cons (.neg (.gint "GREAT" 1000000000000000000000000000000000000000000000000000000000000)) (.cons (.gint "GREAT" 1000000000000000000000000000000000000000000000000000000000000) .nil)))))
  (.cons (.ite (.cmp .Eq (.var 1) (.int 0)) (.cons (.raise "InvalidNumber" "a bottom of 0") .nil) .nil)
  (.cons (.ret (.call 5 (.cons (.var 0) (.cons (.var 1) .nil)))) .nil))))⟩
-- portion_sum
def d10 : DefS := ⟨"portion_sum", 2, ["one", "other"], false,
  (.cons (.exp (.call 4 (.cons (.var 0) .nil)))
  (.cons (.exp (.call 4 (.cons (.var 1) .nil)))
  (.cons (.ret (.call 6 (.cons (.var 0) (.cons (.var 1) .nil)))) .nil)))⟩
-- portion_product
def d11 : DefS := ⟨"portion_product", 2, ["one", "other"], false,
  (.cons (.exp (.call 4 (.cons (.var 0) .nil)))
  (.cons (.exp (.call 4 (.cons (.var 1) .nil)))
  (.cons (.ret (.call 7 (.cons (.var 0) (.cons (.var 1) .nil)))) .nil)))⟩
-- portion_by
def d12 : DefS := ⟨"portion_by", 2, ["one", "other"], false,
  (.cons (.exp (.call 4 (.cons (.var 0) .nil)))
  (.cons (.exp (.call 4 (.cons (.var 1) .nil)))
  (.cons (.ite (.cmp .Eq (.idx (.var 1) (.int 0)) (.int 0)) (.cons (.raise "NotFound" "divided by 0") .nil) .nil)
  (.cons (.ret (.call 5 (.cons (.bin false .Mult (.idx (.var 0) (.int 0)) (.idx (.var 1) (.int 1))) (.cons (.bin false .Mult (.idx (.var 0) (.int 1)) (.idx (.var 1) (.int 0))) .nil)))) .nil))))⟩
-- is_higher
def d13 : DefS := ⟨"is_higher", 2, ["one", "other"], false,
  (.cons (.exp (.call 4 (.cons (.var 0) .nil)))
  (.cons (.exp (.call 4 (.cons (.var 1) .nil)))
  (.cons (.ret (.cmp .Gt (.call 8 (.cons (.var 0) (.cons (.var 1) .nil))) (.int 0))) .nil)))⟩
-- _law_cup
def d14 : DefS := ⟨"_law_cup", 1, ["script", "cell"], false,
  (.cons (.set (.name 1) (.bi false "abs" (.cons (.idx (.bin false .Add (.bi false "list" (.cons (.var 0) .nil)) (.lst false (.cons (.int 0) .nil))) (.int 0)) .nil)))
  (.cons (.ret (.lst true (.cons (.ite (.cmp .GtE (.var 1) (.bin false .Pow (.int 10) (.int 18))) (.bin false .FloorDiv (.var 1) (.int 173)) (.int 0)) (.cons (.bin false .Add (.bin false .Mod (.bi false "int" (.cons (.bin false .Add (.bin false .Mult (.var 1) (.int 431)) (.int 6323)) .nil)) (.int 1884129671)) (.int 277)) .nil)))) .nil))⟩
-- _law_roll
def d15 : DefS := ⟨"_law_roll", 2, ["cup", "many", "deep", "found"], false,
  (.cons (.ite (.cmp .Gt (.idx (.var 0) (.int 0)) (.int 0)) (.cons (.set (.name 3) (.bin false .Mod (.bi false "int" (.cons (.idx (.var 0) (.int 0)) .nil)) (.var 1))) (.cons (.seti (.var 0) (.int 0) (.bin false .FloorDiv (.idx (.var 0) (.int 0)) (.var 1))) (.cons (.ret (.var 3)) .nil))) .nil)
  (.cons (.seti (.var 0) (.int 1) (.bin false .Mod (.bi false "int" (.cons (.bin false .Add (.bin false .Mult (.idx (.var 0) (.int 1)) (.int 29059)) (.int 10009)) .nil)) (.int 2147483543)))
  (.cons (.set (.name 2) (.bin false .Mod (.bi false "int" (.cons (.bin false .Mult (.idx (.var 0) (.int 1)) (.bin false .Add (.idx (.var 0) (.int 1)) (.int 359))) .nil)) (.int 2147483587)))
  (.cons (.ret (.bin false .Mod (.bi false "int" (.cons (.bin false .FloorDiv (.var 2) (.int 967)) .nil)) (.var 1))) .nil))))⟩
-- _law_some
def d16 : DefS := ⟨"_law_some", 2, ["cup", "things"], false,
  (.cons (.ret (.idx (.var 1) (.call 15 (.cons (.var 0) (.cons (.bi false "len" (.cons (.var 1) .nil)) .nil))))) .nil)⟩
-- _law_sort
def d17 : DefS := ⟨"_law_sort", 1, ["value"], false,
  (.cons (.ite (.or (.cmp .Is (.var 0) .non) (.isi (.var 0) "bool")) (.cons (.ret (.ite (.cmp .Is (.var 0) .non) (.int 0) (.int 1))) .nil) .nil)
  (.cons (.ite (.or (.isi (.var 0) "int") (.isi (.var 0) "str")) (.cons (.ret (.ite (.isi (.var 0) "int") (.int 2) (.int 3))) .nil) .nil)
  (.cons (.ret (.ite (.isi (.var 0) "tuple") (.int 4) (.ite (.isi (.var 0) "list") (.int 5) (.int 6)))) .nil)))⟩
-- _law_like
def d18 : DefS := ⟨"_law_like", 2, ["one", "other", "sort", "first", "second"], false,
  (.cons (.set (.name 2) (.call 17 (.cons (.var 1) .nil)))
  (.cons (.ite (.or (.cmp .NotEq (.call 17 (.cons (.var 0) .nil)) (.var 2)) (.cmp .Eq (.var 2) (.int 6))) (.cons (.ret (.bl false)) .nil) .nil)
  (.cons (.ite (.cmp .In (.var 2) (.tup (.cons (.int 4) (.cons (.int 5) .nil)))) (.cons (.ret (.and (.cmp .Eq (.bi false "len" (.cons (.var 0) .nil)) (.bi false "len" (.cons (.var 1) .nil))) (.cmp .Eq (.comp false [3, 4] (.int 1) (.tup (.cons (.name 3) (.cons (.name 4) .nil))) (.zip2 (.var 0) (.var 1)) (.cons (.not (.call 18 (.cons (.var 3) (.cons (.var 4) .nil)))) .nil)) (.lst false .nil)))) .nil) .nil)
  (.cons (.ret (.cmp .Eq (.var 0) (.var 1))) .nil))))⟩
-- _law_divisor
def d19 : DefS := ⟨"_law_divisor", 2, ["one", "other", "turn"], false,
  (.cons (.for_ (.name 2) (.rng1 (.int 1200)) (.cons (.ite (.cmp .Eq (.var 1) (.int 0)) (.cons (.ret (.var 0)) .nil) .nil) (.cons (.par 0 1 (.var 1) (.bin false .Mod (.var 0) (.var 1))) .nil)))
  (.cons (.ret (.var 0)) .nil))⟩
-- _law_plain
def d20 : DefS := ⟨"_law_plain", 2, ["top", "bottom", "shared"], false,
  (.cons (.set (.name 2) (.call 19 (.cons (.bi false "abs" (.cons (.var 0) .nil)) (.cons (.bi false "abs" (.cons (.var 1) .nil)) .nil))))
  (.cons (.set (.name 2) (.ite (.cmp .Gt (.var 1) (.int 0)) (.var 2) (.neg (.var 2))))
  (.cons (.ret (.tup (.cons (.bin false .FloorDiv (.var 0) (.var 2)) (.cons (.bin false .FloorDiv (.var 1) (.var 2)) .nil)))) .nil)))⟩
-- _law_great
def d21 : DefS := ⟨"_law_great", 2, ["cup", "size", "found", "turn"], false,
  (.cons (.set (.name 2) (.int 0))
  (.cons (.for_ (.name 3) (.rng1 (.int 4)) (.cons (.set (.name 2) (.bin false .Mod (.bi false "int" (.cons (.bin false .Add (.bin false .Add (.bin false .Mult (.var 2) (.bin false .Pow (.int 10) (.int 18))) (.bin false .Mult (.call 15 (.cons (.var 0) (.cons (.bin false .Pow (.int 10) (.int 9)) .nil))) (.bin false .Pow (.int 10) (.int 9)))) (.call 15 (.cons (.var 0) (.cons (.bin false .Pow (.int 10) (.int 9)) .nil)))) .nil)) (.bin false .Add (.var 1) (.int 1)))) .nil))
  (.cons (.ret (.var 2)) .nil)))⟩
-- _law_portion
def d22 : DefS := ⟨"_law_portion", 1, ["cup", "size"], false,
  (.cons (.set (.name 1) (.call 16 (.cons (.var 0) (.cons (.lst false (.cons (.int 1) (.cons (.int 8) (.cons (.bin false .Pow (.int 10) (.int 12)) (.cons (.bin false .Pow (.int 10) (.int 60)) .nil))))) .nil))))
  (.cons (.ret (.call 20 (.cons (.bin false .Mult (.call 21 (.cons (.var 0) (.cons (.var 1) .nil))) (.call 16 (.cons (.var 0) (.cons (.lst false (.cons (.int 1) (.cons (.neg (.int 1)) .nil))) .nil)))) (.cons (.bin false .Add (.int 1) (.call 21 (.cons (.var 0) (.cons (.bin false .Sub (.var 1) (.int 1)) .nil)))) .nil)))) .nil))⟩
-- _law_error
def d23 : DefX := ⟨"_law_error", "QuarryError", 1, ["call", "e", "pairs", "word", "is_so"],
  (.cons (.set (.name 2) (.lst false (.cons (.tup (.cons (.str "portion") (.cons (.isE 1 "InvalidPortion") .nil))) (.cons (.tup (.cons (.str "number") (.cons (.isE 1 "InvalidNumber") .nil))) .nil))))
  (.cons (.ret (.join (.str "") (.comp false [3, 4] (.var 3) (.tup (.cons (.name 3) (.cons (.name 4) .nil))) (.of (.bin false .Add (.var 2) (.lst false (.cons (.tup (.cons (.str "no") (.cons (.isE 1 "NotFound") .nil))) .nil)))) (.cons (.var 4) .nil)))) .nil)), "none"⟩
-- _law_pair_right
def d24 : DefS := ⟨"_law_pair_right", 2, ["one", "other", "told", "due", "first", "second"], false,
  (.cons (.par 4 5 (.bin false .Mult (.idx (.var 0) (.int 0)) (.idx (.var 1) (.int 1))) (.bin false .Mult (.idx (.var 1) (.int 0)) (.idx (.var 0) (.int 1))))
  (.cons (.set (.name 2) (.lst false (.cons (.call 10 (.cons (.var 0) (.cons (.var 1) .nil))) (.cons (.call 11 (.cons (.var 0) (.cons (.var 1) .nil))) (.cons (.call 13 (.cons (.var 0) (.cons (.var 1) .nil))) (.cons (.call 3 (.cons (.var 0) .nil)) .nil))))))
  (.cons (.set (.name 3) (.lst false (.cons (.call 20 (.cons (.bin false .Add (.var 4) (.var 5)) (.cons (.bin false .Mult (.idx (.var 0) (.int 1)) (.idx (.var 1) (.int 1))) .nil))) (.cons (.call 20 (.cons (.bin false .Mult (.idx (.var 0) (.int 0)) (.idx (.var 1) (.int 0))) (.cons (.bin false .Mult (.idx (.var 0) (.int 1)) (.idx (.var 1) (.int 1))) .nil))) (.cons (.cmp .Gt (.var 4) (.var 5)) (.cons (.bl true) .nil))))))
  (.cons (.ite (.not (.call 18 (.cons (.var 2) (.cons (.var 3) .nil)))) (.cons (.ret (.bl false)) .nil) .nil)
  (.cons (.ite (.cmp .Eq (.idx (.var 1) (.int 0)) (.int 0)) (.cons (.ret (.cmp .Eq (.lam 23 (.call 12 (.cons (.var 0) (.cons (.var 1) .nil)))) (.str "no"))) .nil) .nil)
  (.cons (.ret (.call 18 (.cons (.call 12 (.cons (.var 0) (.cons (.var 1) .nil))) (.cons (.call 20 (.cons (.bin false .Mult (.idx (.var 0) (.int 0)) (.idx (.var 1) (.int 1))) (.cons (.bin false .Mult (.idx (.var 0) (.int 1)) (.idx (.var 1) (.int 0))) .nil))) .nil)))) .nil))))))⟩
-- law
def d25 : DefS := ⟨"law", 1, ["script", "cup", "last", "turn", "great", "told", "odds", "name", "pair", "one", "bad", "words", "odd"], false,
  (.cons (.set (.name 1) (.call 14 (.cons (.var 0) .nil)))
  (.cons (.set (.name 2) (.call 22 (.cons (.var 1) .nil)))
  (.cons (.for_ (.name 3) (.rng1 (.int 10)) (.cons (.set (.name 9) (.call 22 (.cons (.var 1) .nil))) (.cons (.ite (.or (.not (.call 24 (.cons (.var 9) (.cons (.var 2) .nil)))) (.or (.not (.call 24 (.cons (.var 2) (.cons (.var 9) .nil)))) (.not (.call 24 (.cons (.var 9) (.cons (.var 9) .nil)))))) (.cons (.ret (.bl false)) .nil) .nil) (.cons (.set (.name 2) (.var 9)) .nil))))
  (.cons (.set (.name 4) (.bin false .Pow (.int 10) (.int 60)))
  (.cons (.set (.name 5) (.lst false (.cons (.call 9 (.cons (.int 6) (.cons (.neg (.int 4)) .nil))) (.cons (.call 9 (.cons (.int 0) (.cons (.neg (.var 4)) .nil))) (.cons (.call 9 (.cons (.var 4) (.cons (.var 4) .nil))) (.cons (.call 10 (.cons (.tup (.cons (.int 1) (.cons (.int 2) .nil))) (.cons (.tup (.cons (.int 1) (.cons (.int 3) .nil))) .nil))) (.cons (.call 12 (.cons (.tup (.cons (.int 1) (.cons (.int 2) .nil))) (.cons (.tup (.cons (.neg (.int 3)) (.cons (.int 1) .nil))) .nil))) .nil)))))))
  (.cons (.set (.name 5) (.bin false .Add (.var 5) (.lst false (.cons (.call 11 (.cons (.tup (.cons (.var 4) (.cons (.int 1) .nil))) (.cons (.tup (.cons (.var 4) (.cons (.int 1) .nil))) .nil))) (.cons (.call 11 (.cons (.tup (.cons (.int 2) (.cons (.int 3) .nil))) (.cons (.tup (.cons (.neg (.int 3)) (.cons (.int 4) .nil))) .nil))) (.cons (.call 13 (.cons (.tup (.cons (.int 2) (.cons (.int 3) .nil))) (.cons (.tup (.cons (.int 3) (.cons (.int 4) .nil))) .nil))) (.cons (.call 13 (.cons (.tup (.cons (.neg (.int 1)) (.cons (.int 2) .nil))) (.cons (.tup (.cons (.neg (.int 2)) (.cons (.int 3) .nil))) .nil))) .nil)))))))
  (.cons (.ite (.not (.call 18 (.cons (.var 5) (.cons (.lst false (.cons (.tup (.cons (.neg (.int 3)) (.cons (.int 2) .nil))) (.cons (.tup (.cons (.int 0) (.cons (.int 1) .nil))) (.cons (.tup (.cons (.int 1) (.cons (.int 1) .nil))) (.cons (.tup (.cons (.int 5) (.cons (.int 6) .nil))) (.cons (.tup (.cons (.neg (.int 1)) (.cons (.int 6) .nil))) (.cons (.tup (.cons (.bin false .Mult (.var 4) (.var 4)) (.cons (.int 1) .nil))) (.cons (.tup (.cons (.neg (.int 1)) (.cons (.int 2) .nil))) (.cons (.bl false) (.cons (.bl true) .nil)))))))))) .nil)))) (.cons (.ret (.bl false)) .nil) .nil)
  (.cons (.set (.name 6) (.lst false (.cons (.tup (.cons (.int 1) (.cons (.int 2) .nil))) (.cons (.tup (.cons (.int 0) (.cons (.int 1) .nil))) (.cons (.tup (.cons (.var 4) (.cons (.int 1) .nil))) (.cons (.tup (.cons (.int 1) (.cons (.var 4) .nil))) (.cons (.tup (.cons (.bin false .Add (.var 4) (.int 1)) (.cons (.int 1) .nil))) (.cons (.tup (.cons (.bin false .Sub (.neg (.var 4)) (.int 1)) (.cons (.int 1) .nil))) (.cons (.tup (.cons (.int 1) (.cons (.bin false .Add (.var 4) (.int 1)) .nil))) (.cons (.tup (.cons (.int 2) (.cons (.int 4) .nil))) (.cons (.tup (.cons (.int 0) (.cons (.int 2) .nil))) (.cons (.tup (.cons (.int 1) (.cons (.int 0) .nil))) (.cons (.tup (.cons (.int 1) (.cons (.neg (.int 2)) .nil))) (.cons (.lst false (.cons (.int 1) (.cons (.int 2) .nil))) .nil))))))))))))))
  (.cons (.set (.name 6) (.bin false .Add (.var 6) (.lst false (.cons (.tup (.cons (.int 1) .nil)) (.cons (.tup (.cons (.int 1) (.cons (.int 2) (.cons (.int 3) .nil)))) (.cons (.tup (.cons (.bl true) (.cons (.int 2) .nil))) (.cons (.tup (.cons (.int 1) (.cons (.bl true) .nil))) (.cons .non (.cons (.int 1) (.cons (.str "1/2") (.cons (.tup (.cons (.tup (.cons (.int 1) .nil)) (.cons (.int 2) .nil))) .nil)))))))))))
  (.cons (.ite (.not (.call 18 (.cons (.comp false [12] (.call 3 (.cons (.var 12) .nil)) (.name 12) (.of (.var 6)) .nil) (.cons (.bin false .Add (.bin false .Mult (.lst false (.cons (.bl true) .nil)) (.int 4)) (.bin false .Mult (.lst false (.cons (.bl false) .nil)) (.int 16))) .nil)))) (.cons (.ret (.bl false)) .nil) .nil)
  (.cons (.set (.tup (.cons (.name 10) (.cons (.name 11) .nil))) (.tup (.cons (.call 16 (.cons (.var 1) (.cons (.slc (.var 6) (.cons (.int 4) .nil) .nil) .nil))) (.cons (.lst false .nil) .nil))))
  (.cons (.for_ (.name 7) (.of (.tup (.cons (.fnv 10) (.cons (.fnv 11) (.cons (.fnv 12) (.cons (.fnv 13) .nil)))))) (.cons (.set (.name 11) (.bin false .Add (.var 11) (.lst false (.cons (.lam 23 (.cvar 7 (.cons (.var 10) (.cons (.var 10) .nil)))) .nil)))) (.cons (.set (.name 11) (.bin false .Add (.var 11) (.lst false (.cons (.lam 23 (.cvar 7 (.cons (.tup (.cons (.int 0) (.cons (.int 1) .nil))) (.cons (.var 10) .nil)))) .nil)))) .nil)))
  (.cons (.for_ (.name 8) (.of (.tup (.cons (.tup (.cons (.bin false .Add (.var 4) (.int 1)) (.cons (.int 1) .nil))) (.cons (.tup (.cons (.int 1) (.cons (.bin false .Add (.var 4) (.int 1)) .nil))) (.cons (.tup (.cons (.int 1) (.cons (.int 0) .nil))) (.cons (.tup (.cons (.bl true) (.cons (.int 1) .nil))) (.cons (.tup (.cons (.int 1) (.cons .non .nil))) (.cons (.tup (.cons .non (.cons (.int 0) .nil))) .nil)))))))) (.cons (.set (.name 11) (.bin false .Add (.var 11) (.lst false (.cons (.lam 23 (.call 9 (.cons (.idx (.var 8) (.int 0)) (.cons (.idx (.var 8) (.int 1)) .nil)))) .nil)))) .nil))
  (.cons (.ret (.cmp .Eq (.var 11) (.bin false .Add (.bin false .Mult (.lst false (.cons (.str "portion") .nil)) (.int 8)) (.bin false .Mult (.lst false (.cons (.str "number") .nil)) (.int 6))))) .nil))))))))))))))⟩
def rows : List Rw := [⟨.std d0, top 7, false⟩, ⟨.std d1, top 8, false⟩, ⟨.std d2, top 9, false⟩, ⟨.std d3, top 12, false⟩, ⟨.std d4, top 13, false⟩, ⟨.std d5, top 14, false⟩, ⟨.std d6, top 15, false⟩, ⟨.std d7, top 16, false⟩, ⟨.std d8, top 17, false⟩, ⟨.std d9, top 18, false⟩, ⟨.std d10, top 19, false⟩, ⟨.std d11, top 20, false⟩, ⟨.std d12, top 21, false⟩, ⟨.std d13, top 22, false⟩, ⟨.std d14, top 24, false⟩, ⟨.std d15, top 25, false⟩, ⟨.std d16, top 26, false⟩, ⟨.std d17, top 27, false⟩, ⟨.std d18, top 28, false⟩, ⟨.std d19, top 29, false⟩, ⟨.std d20, top 30, false⟩, ⟨.std d21, top 31, false⟩, ⟨.std d22, top 32, false⟩, ⟨.err d23, top 33, false⟩, ⟨.std d24, top 34, true⟩, ⟨.std d25, top 35, true⟩]
def Ds : List Def := rows.map (·.d)
def sg : Sg := ⟨Ds, ["abs", "bool", "int", "isinstance", "len", "list", "range", "str", "tuple", "zip"], [("gcd", "math.gcd")], [("GREAT", 1000000000000000000000000000000000000000000000000000000000000)], ["InvalidNumber", "InvalidPortion", "NotFound"], "QuarryError"⟩
end K00

set_option maxHeartbeats 4000000
set_option exponentiation.threshold 20000
namespace K00
open PySem Mini L2
def CupOk (a b : Int) : Prop := 0 ≤ a ∧ 0 ≤ b ∧ b < 4294967296
abbrev M1 (a b : Int) : Mem := [[.int a, .int b]]
theorem small_mul {i j : Int} (h : j.natAbs < 2 ^ 64) : mulOk i j = true := by
  unfold mulOk
  simp [bind_ok, bind_exc, isi_int_int, isi_bool_int, cmpD_le, cmp_le, cmp_gt, cmp_ge, cmp_eq, bin_add, bin_sub, at_0, at_1, truR_bl, ended_ret, ended_next, ended_exc, denSs, denS, denE, denEs, denTs, denI, startU, bi_int, bi_abs, bi_gcd, setT, Mini.stored, bi_len_tup, bi_len_lst, bi_list_rol, Mini.alloc, negD, h]
theorem small_mul' {i j : Int} (h : i.natAbs < 2 ^ 64) : mulOk i j = true := by
  unfold mulOk
  simp [bind_ok, bind_exc, isi_int_int, isi_bool_int, cmpD_le, cmp_le, cmp_gt, cmp_ge, cmp_eq, bin_add, bin_sub, at_0, at_1, truR_bl, ended_ret, ended_next, ended_exc, denSs, denS, denE, denEs, denTs, denI, startU, bi_int, bi_abs, bi_gcd, setT, Mini.stored, bi_len_tup, bi_len_lst, bi_list_rol, Mini.alloc, negD, h]
theorem great_mul {i j : Int} (h : i.natAbs < 2 ^ 9000) (h2 : j.natAbs < 2 ^ 9000) : mulOk i j = true := by
  unfold mulOk
  simp [bind_ok, bind_exc, isi_int_int, isi_bool_int, cmpD_le, cmp_le, cmp_gt, cmp_ge, cmp_eq, bin_add, bin_sub, at_0, at_1, truR_bl, ended_ret, ended_next, ended_exc, denSs, denS, denE, denEs, denTs, denI, startU, bi_int, bi_abs, bi_gcd, setT, Mini.stored, bi_len_tup, bi_len_lst, bi_list_rol, Mini.alloc, negD, h, h2]
theorem div_ok {j : Int} (h : j ≠ 0) (h2 : j.natAbs < 2 ^ 9000) : divOk j = true := by
  unfold divOk
  simp [bind_ok, bind_exc, isi_int_int, isi_bool_int, cmpD_le, cmp_le, cmp_gt, cmp_ge, cmp_eq, bin_add, bin_sub, at_0, at_1, truR_bl, ended_ret, ended_next, ended_exc, denSs, denS, denE, denEs, denTs, denI, startU, bi_int, bi_abs, bi_gcd, setT, Mini.stored, bi_len_tup, bi_len_lst, bi_list_rol, Mini.alloc, negD, h, h2]
theorem roll (k : Nat) (a b many : Int) (h : CupOk a b) (hm : 0 < many) (hm2 : many.natAbs < 2 ^ 9000) : ∃ r a' b', callD Ds (k + 1) 15 [.ref 0, .int many] (M1 a b) = .ok (.int r) (M1 a' b') ∧ CupOk a' b' ∧ 0 ≤ r ∧ r < many := by
  obtain ⟨h1, h2, h3⟩ := h
  rw [call_at (d := d15) rfl]
  have hmz : (many != 0) = true := by simp [bind_ok, bind_exc, isi_int_int, isi_bool_int, cmpD_le, cmp_le, cmp_gt, cmp_ge, cmp_eq, bin_add, bin_sub, at_0, at_1, truR_bl, ended_ret, ended_next, ended_exc, denSs, denS, denE, denEs, denTs, denI, startU, bi_int, bi_abs, bi_gcd, setT, Mini.stored, bi_len_tup, bi_len_lst, bi_list_rol, Mini.alloc, negD]; omega
  have hdv : divOk many = true := div_ok (by omega) hm2
  by_cases ha : 0 < a
  · refine ⟨a.fmod many, a.fdiv many, b, ?_, ⟨Int.fdiv_nonneg h1 (by omega), h2, h3⟩, Int.fmod_nonneg_of_pos a hm, Int.fmod_lt_of_pos a hm⟩
    simp [bind_ok, bind_exc, isi_int_int, isi_bool_int, cmpD_le, cmp_le, cmp_gt, cmp_ge, cmp_eq, bin_add, bin_sub, at_0, at_1, truR_bl, ended_ret, ended_next, ended_exc, denSs, denS, denE, denEs, denTs, denI, startU, bi_int, bi_abs, bi_gcd, setT, Mini.stored, bi_len_tup, bi_len_lst, bi_list_rol, Mini.alloc, negD, runD, d15, M1, idx_ref (μ := M1 a b) (n := 0) rfl, ha, bin_mod hmz, bin_fdiv hdv, show ixN 2 0 = some 0 from ix_nat (i := 0) (by omega)]
  · obtain ⟨b1, eb⟩ : ∃ b1, (b * 29059 + 10009).fmod 2147483543 = b1 := ⟨_, rfl⟩
    have p1 := Int.fmod_nonneg_of_pos (b * 29059 + 10009) (b := 2147483543) (by decide)
    have p2 := Int.fmod_lt_of_pos (b * 29059 + 10009) (b := 2147483543) (by decide)
    rw [eb] at p1 p2
    have hm1 : mulOk b1 (b1 + 359) = true := small_mul' (by omega)
    refine ⟨(((b1 * (b1 + 359)).fmod 2147483587).fdiv 967).fmod many, a, b1, ?_, ⟨h1, p1, by omega⟩, Int.fmod_nonneg_of_pos _ hm, Int.fmod_lt_of_pos _ hm⟩
    simp [bind_ok, bind_exc, isi_int_int, isi_bool_int, cmpD_le, cmp_le, cmp_gt, cmp_ge, cmp_eq, bin_add, bin_sub, at_0, at_1, truR_bl, ended_ret, ended_next, ended_exc, denSs, denS, denE, denEs, denTs, denI, startU, bi_int, bi_abs, bi_gcd, setT, Mini.stored, bi_len_tup, bi_len_lst, bi_list_rol, Mini.alloc, negD, runD, d15, M1, idx_ref (μ := M1 a b) (n := 0) rfl, ha, bin_mod hmz, show ixN 2 1 = some 1 from ix_nat (i := 1) (by omega), bin_mul (small_mul (i := b) (j := 29059) (by decide)), bin_mod (j := 2147483543) (by decide), eb,
      idx_ref (μ := M1 a b1) (n := 0) rfl, bin_mul hm1, bin_mod (j := 2147483587) (by decide), bin_fdiv (j := 967) (by decide +kernel)]
theorem some_ (k : Nat) (a b : Int) (xs : List U) (h : CupOk a b) (hn : 0 < xs.length) (hl : xs.length < 2 ^ 64) : ∃ (i : Nat) (u : U) (a' b' : Int), xs[i]? = some u ∧ callD Ds (k + 2) 16 [.ref 0, .lst xs] (M1 a b) = .ok u (M1 a' b') ∧ CupOk a' b' := by
  obtain ⟨r, a', b', e, c, h0, h1⟩ := roll k a b xs.length h (by omega) (by
    have : (2 : Nat) ^ 64 < 2 ^ 9000 := by decide +kernel
    omega)
  have hlt : r.toNat < xs.length := by omega
  refine ⟨r.toNat, xs[r.toNat], a', b', List.getElem?_eq_getElem hlt, ?_, c⟩
  rw [call_at (d := d16) rfl]
  simp [bind_ok, bind_exc, isi_int_int, isi_bool_int, cmpD_le, cmp_le, cmp_gt, cmp_ge, cmp_eq, bin_add, bin_sub, at_0, at_1, truR_bl, ended_ret, ended_next, ended_exc, denSs, denS, denE, denEs, denTs, denI, startU, bi_int, bi_abs, bi_gcd, setT, Mini.stored, bi_len_tup, bi_len_lst, bi_list_rol, Mini.alloc, negD, runD, d16, e, idx_lst, at_int h0 (List.getElem?_eq_getElem hlt)]
theorem cup_ (k : Nat) (ns : List Int) (hl : ns.length ≤ 63) : ∃ a b, callD Ds (k + 1) 14 [.rol (ns.map U.int)] [] = .ok (.ref 0) (M1 a b) ∧ CupOk a b := by
  obtain ⟨c, hc⟩ : ∃ c : Int, atU (ns.map U.int ++ [.int 0]) 0 = some (.int c) := by
    cases ns with
    | nil => exact ⟨0, at_0⟩
    | cons n ns => exact ⟨n, at_0⟩
  rw [call_at (d := d14) rfl]
  obtain ⟨e, he, he0⟩ : ∃ e : Int, (if c < 0 then -c else c) = e ∧ 0 ≤ e := ⟨_, rfl, by split <;> omega⟩
  have p1 := Int.fmod_nonneg_of_pos (e * 431 + 6323) (b := 1884129671) (by decide)
  have p2 := Int.fmod_lt_of_pos (e * 431 + 6323) (b := 1884129671) (by decide)
  have hd : CupOk (if 1000000000000000000 ≤ e then e.fdiv 173 else 0) ((e * 431 + 6323).fmod 1884129671 + 277) := ⟨by split; exact Int.fdiv_nonneg he0 (by decide); decide, by omega, by omega⟩
  refine ⟨_, _, ?_, hd⟩
  have hcat : binD false .Add (.lst (ns.map U.int)) (.lst [.int 0]) [] = .ok (.lst (ns.map U.int ++ [.int 0])) [] := bin_cat (by simp [bind_ok, bind_exc, isi_int_int, isi_bool_int, cmpD_le, cmp_le, cmp_gt, cmp_ge, cmp_eq, bin_add, bin_sub, at_0, at_1, truR_bl, ended_ret, ended_next, ended_exc, denSs, denS, denE, denEs, denTs, denI, startU, bi_int, bi_abs, bi_gcd, setT, Mini.stored, bi_len_tup, bi_len_lst, bi_list_rol, Mini.alloc, negD, bigL]; omega)
  by_cases hg : 1000000000000000000 ≤ e
  · simp [bind_ok, bind_exc, isi_int_int, isi_bool_int, cmpD_le, cmp_le, cmp_gt, cmp_ge, cmp_eq, bin_add, bin_sub, at_0, at_1, truR_bl, ended_ret, ended_next, ended_exc, denSs, denS, denE, denEs, denTs, denI, startU, bi_int, bi_abs, bi_gcd, setT, Mini.stored, bi_len_tup, bi_len_lst, bi_list_rol, Mini.alloc, negD, runD, d14, hcat, idx_lst, hc, he, bin_pow (i := 10) (j := 18) (by decide), hg, bin_fdiv (j := 173) (by decide +kernel), bin_mul (small_mul (i := e) (j := 431) (by decide)), bin_mod (j := 1884129671) (by decide), bigL]
  · simp [bind_ok, bind_exc, isi_int_int, isi_bool_int, cmpD_le, cmp_le, cmp_gt, cmp_ge, cmp_eq, bin_add, bin_sub, at_0, at_1, truR_bl, ended_ret, ended_next, ended_exc, denSs, denS, denE, denEs, denTs, denI, startU, bi_int, bi_abs, bi_gcd, setT, Mini.stored, bi_len_tup, bi_len_lst, bi_list_rol, Mini.alloc, negD, runD, d14, hcat, idx_lst, hc, he, bin_pow (i := 10) (j := 18) (by decide), hg, bin_fdiv (j := 173) (by decide +kernel), bin_mul (small_mul (i := e) (j := 431) (by decide)), bin_mod (j := 1884129671) (by decide), bigL]
end K00

set_option maxHeartbeats 4000000
set_option exponentiation.threshold 20000
namespace K00
open PySem Mini L2
/-! ### Euclid -/
abbrev eB : ISs := .cons (.ite (.cmp .Eq (.var 1) (.int 0)) (.cons (.ret (.var 0)) .nil) .nil) (.cons (.par 0 1 (.var 1) (.bin false .Mod (.var 0) (.var 1))) .nil)
theorem eZ (C : Orc) (a : Int) (t : Option U) (μ : Mem) : denSs C eB [some (.int a), some (.int 0), t] μ = .ok (.ret (.int a)) μ := by simp [bind_ok, bind_exc, isi_int_int, isi_bool_int, cmpD_le, cmp_le, cmp_gt, cmp_ge, cmp_eq, bin_add, bin_sub, at_0, at_1, truR_bl, ended_ret, ended_next, ended_exc, denSs, denS, denE, denEs, denTs, denI, startU, bi_int, bi_abs, bi_gcd, setT, Mini.stored, bi_len_tup, bi_len_lst, bi_list_rol, Mini.alloc, negD]
theorem eN (C : Orc) (a b : Nat) (t : Option U) (μ : Mem) (h : b ≠ 0) : denSs C eB [some (.int a), some (.int b), t] μ = .ok (.next [some (.int b), some (.int (a % b : Nat)), t]) μ := by
  have hb : ((b : Int) != 0) = true := by simp [bind_ok, bind_exc, isi_int_int, isi_bool_int, cmpD_le, cmp_le, cmp_gt, cmp_ge, cmp_eq, bin_add, bin_sub, at_0, at_1, truR_bl, ended_ret, ended_next, ended_exc, denSs, denS, denE, denEs, denTs, denI, startU, bi_int, bi_abs, bi_gcd, setT, Mini.stored, bi_len_tup, bi_len_lst, bi_list_rol, Mini.alloc, negD]; omega
  have e : (b : Int) ≠ 0 := by omega
  have f : ((a : Int)).fmod b = ((a % b : Nat) : Int) := by
    rw [Int.fmod_eq_emod_of_nonneg _ (by omega)]
    rfl
  have e2 : ((b : Int) == 0) = false := by simp [bind_ok, bind_exc, isi_int_int, isi_bool_int, cmpD_le, cmp_le, cmp_gt, cmp_ge, cmp_eq, bin_add, bin_sub, at_0, at_1, truR_bl, ended_ret, ended_next, ended_exc, denSs, denS, denE, denEs, denTs, denI, startU, bi_int, bi_abs, bi_gcd, setT, Mini.stored, bi_len_tup, bi_len_lst, bi_list_rol, Mini.alloc, negD]; omega
  simp [bind_ok, bind_exc, isi_int_int, isi_bool_int, cmpD_le, cmp_le, cmp_gt, cmp_ge, cmp_eq, bin_add, bin_sub, at_0, at_1, truR_bl, ended_ret, ended_next, ended_exc, denSs, denS, denE, denEs, denTs, denI, startU, bi_int, bi_abs, bi_gcd, setT, Mini.stored, bi_len_tup, bi_len_lst, bi_list_rol, Mini.alloc, negD, bin_mod hb, e2, f]
theorem euclid (C : Orc) (μ : Mem) : ∀ (m : Nat) (xs : List U) (a b : Nat) (t : Option U), b < 2 ^ m → 2 * m + 1 ≤ xs.length →
    forLoop (fun ρ μ => denSs C eB ρ μ) (fun u μ ρ => setT (.name 2) u μ ρ) xs [some (.int a), some (.int b), t] μ = .ok (.ret (.int (Nat.gcd a b))) μ
  | m, [], a, b, t, _, hl => by simp [bind_ok, bind_exc, isi_int_int, isi_bool_int, cmpD_le, cmp_le, cmp_gt, cmp_ge, cmp_eq, bin_add, bin_sub, at_0, at_1, truR_bl, ended_ret, ended_next, ended_exc, denSs, denS, denE, denEs, denTs, denI, startU, bi_int, bi_abs, bi_gcd, setT, Mini.stored, bi_len_tup, bi_len_lst, bi_list_rol, Mini.alloc, negD] at hl
  | 0, x :: xs, a, b, t, hb, hl => by
    have e : b = 0 := by omega
    subst e
    have z := eZ C a (some x) μ
    simp only [forLoop, setT, List.set]
    rw [show ((0 : Nat) : Int) = 0 from rfl, z]
    simp [bind_ok, bind_exc, isi_int_int, isi_bool_int, cmpD_le, cmp_le, cmp_gt, cmp_ge, cmp_eq, bin_add, bin_sub, at_0, at_1, truR_bl, ended_ret, ended_next, ended_exc, denSs, denS, denE, denEs, denTs, denI, startU, bi_int, bi_abs, bi_gcd, setT, Mini.stored, bi_len_tup, bi_len_lst, bi_list_rol, Mini.alloc, negD]
  | m + 1, [x], a, b, t, hb, hl => by simp [bind_ok, bind_exc, isi_int_int, isi_bool_int, cmpD_le, cmp_le, cmp_gt, cmp_ge, cmp_eq, bin_add, bin_sub, at_0, at_1, truR_bl, ended_ret, ended_next, ended_exc, denSs, denS, denE, denEs, denTs, denI, startU, bi_int, bi_abs, bi_gcd, setT, Mini.stored, bi_len_tup, bi_len_lst, bi_list_rol, Mini.alloc, negD] at hl
  | m + 1, x :: y :: xs, a, b, t, hb, hl => by
    by_cases h0 : b = 0
    · subst h0
      have z := eZ C a (some x) μ
      simp only [forLoop, setT, List.set]
      rw [show ((0 : Nat) : Int) = 0 from rfl, z]
      simp [bind_ok, bind_exc, isi_int_int, isi_bool_int, cmpD_le, cmp_le, cmp_gt, cmp_ge, cmp_eq, bin_add, bin_sub, at_0, at_1, truR_bl, ended_ret, ended_next, ended_exc, denSs, denS, denE, denEs, denTs, denI, startU, bi_int, bi_abs, bi_gcd, setT, Mini.stored, bi_len_tup, bi_len_lst, bi_list_rol, Mini.alloc, negD]
    · have z := eN C a b (some x) μ h0
      by_cases h1 : a % b = 0
      · have z2 := eZ C b (some y) μ
        simp only [forLoop, setT, List.set]
        rw [z]
        dsimp only
        rw [h1]
        simp only [List.set]
        rw [show ((0 : Nat) : Int) = 0 from rfl, z2]
        have : Nat.gcd a b = b := by
          rw [Nat.gcd_comm, Nat.gcd_rec, h1]
          simp [bind_ok, bind_exc, isi_int_int, isi_bool_int, cmpD_le, cmp_le, cmp_gt, cmp_ge, cmp_eq, bin_add, bin_sub, at_0, at_1, truR_bl, ended_ret, ended_next, ended_exc, denSs, denS, denE, denEs, denTs, denI, startU, bi_int, bi_abs, bi_gcd, setT, Mini.stored, bi_len_tup, bi_len_lst, bi_list_rol, Mini.alloc, negD]
        simp [bind_ok, bind_exc, isi_int_int, isi_bool_int, cmpD_le, cmp_le, cmp_gt, cmp_ge, cmp_eq, bin_add, bin_sub, at_0, at_1, truR_bl, ended_ret, ended_next, ended_exc, denSs, denS, denE, denEs, denTs, denI, startU, bi_int, bi_abs, bi_gcd, setT, Mini.stored, bi_len_tup, bi_len_lst, bi_list_rol, Mini.alloc, negD, this]
      · have z2 := eN C b (a % b) (some y) μ h1
        have hr : b % (a % b) < 2 ^ m := by
          have h2 : a % b < b := Nat.mod_lt _ (by omega)
          have h3 : b % (a % b) < a % b := Nat.mod_lt _ (by omega)
          have h4 := Nat.div_add_mod b (a % b)
          have h5 : 1 ≤ b / (a % b) := (Nat.one_le_div_iff (by omega)).mpr (by omega)
          have h6 : a % b * 1 ≤ a % b * (b / (a % b)) := Nat.mul_le_mul_left _ h5
          have h7 : 2 ^ (m + 1) = 2 * 2 ^ m := by rw [Nat.pow_succ]; omega
          omega
        have ih := euclid C μ m xs (a % b) (b % (a % b)) (some y) hr (by simp [bind_ok, bind_exc, isi_int_int, isi_bool_int, cmpD_le, cmp_le, cmp_gt, cmp_ge, cmp_eq, bin_add, bin_sub, at_0, at_1, truR_bl, ended_ret, ended_next, ended_exc, denSs, denS, denE, denEs, denTs, denI, startU, bi_int, bi_abs, bi_gcd, setT, Mini.stored, bi_len_tup, bi_len_lst, bi_list_rol, Mini.alloc, negD] at hl; omega)
        have hg : Nat.gcd a b = Nat.gcd (a % b) (b % (a % b)) := by
          rw [Nat.gcd_comm a b, Nat.gcd_rec b a, Nat.gcd_rec (a % b) b, Nat.gcd_comm (b % (a % b))]
        simp only [forLoop, setT, List.set]
        rw [z]
        dsimp only [List.set]
        rw [z2]
        dsimp only
        simp only [setT] at ih
        rw [ih, hg]
theorem divisor (k : Nat) (a b : Nat) (μ : Mem) (hb : b < 2 ^ 500) : callD Ds (k + 1) 19 [.int a, .int b] μ = .ok (.int (Nat.gcd a b)) μ := by
  rw [call_at (d := d19) rfl]
  have z := euclid (orc Ds k) μ 500 (rngL 0 1200) a b none hb (by simp [bind_ok, bind_exc, isi_int_int, isi_bool_int, cmpD_le, cmp_le, cmp_gt, cmp_ge, cmp_eq, bin_add, bin_sub, at_0, at_1, truR_bl, ended_ret, ended_next, ended_exc, denSs, denS, denE, denEs, denTs, denI, startU, bi_int, bi_abs, bi_gcd, setT, Mini.stored, bi_len_tup, bi_len_lst, bi_list_rol, Mini.alloc, negD, rngL])
  have z2 := (for_at (t := .name 2) (b := eB) (rng1_at (C := orc Ds k) (n := 1200) (ρ := [some (.int a), some (.int b), none]) (μ := μ) (by decide))).trans z
  have z3 := seq_ret (ss := .cons (.ret (.var 0)) .nil) z2
  simp only [runD, d19, List.length_cons, List.length_nil, startU, List.map_cons, List.map_nil]
  exact (congrArg ended z3)
end K00

set_option maxHeartbeats 4000000
set_option exponentiation.threshold 20000
namespace K00
open PySem Mini L2
abbrev pr (p : Int × Int) : U := .tup [.int p.1, .int p.2]
def low (t b : Int) : Int × Int := (t.fdiv (if 0 < b then (Nat.gcd t.natAbs b.natAbs : Nat) else -((Nat.gcd t.natAbs b.natAbs : Nat) : Int)), b.fdiv (if 0 < b then (Nat.gcd t.natAbs b.natAbs : Nat) else -((Nat.gcd t.natAbs b.natAbs : Nat) : Int)))
theorem absI (i : Int) : (if i < 0 then -i else i) = (i.natAbs : Int) := by split <;> omega
theorem two9000 {n : Nat} (h : n < 2 ^ 500) : n < 2 ^ 9000 := Nat.lt_trans h (by decide +kernel)
theorem gdiv (t b : Int) (hb : b ≠ 0) (hbb : b.natAbs < 2 ^ 500) : divOk (Nat.gcd t.natAbs b.natAbs : Nat) = true ∧ divOk (-((Nat.gcd t.natAbs b.natAbs : Nat) : Int)) = true := by
  have hp : 0 < Nat.gcd t.natAbs b.natAbs := Nat.gcd_pos_of_pos_right _ (by omega)
  have hl : Nat.gcd t.natAbs b.natAbs ≤ b.natAbs := Nat.gcd_le_right _ (by omega)
  have h9 := two9000 (Nat.lt_of_le_of_lt hl hbb)
  exact ⟨div_ok (by omega) (by simpa using h9), div_ok (by omega) (by simpa using h9)⟩
theorem plain_ (k : Nat) (t b : Int) (μ : Mem) (hb : b ≠ 0) (hbb : b.natAbs < 2 ^ 500) : callD Ds (k + 2) 20 [.int t, .int b] μ = .ok (pr (low t b)) μ := by
  rw [call_at (d := d20) rfl]
  have z := divisor k t.natAbs b.natAbs μ hbb
  obtain ⟨g1, g2⟩ := gdiv t b hb hbb
  by_cases h : 0 < b
  · simp [bind_ok, bind_exc, isi_int_int, isi_bool_int, isi_tup_tup, cmpD_le, cmp_le, cmp_gt, cmp_ge, cmp_eq, bin_add, bin_sub, at_0, at_1, truR_bl, ended_ret, ended_next, ended_exc, denSs, denS, denE, denEs, denTs, denI, startU, bi_int, bi_abs, bi_gcd, setT, Mini.stored, bi_len_tup, bi_len_lst, bi_list_rol, Mini.alloc, negD, idx_tup, runD, d20, absI, z, h, bin_fdiv g1, low, pr, bigL]
  · simp [bind_ok, bind_exc, isi_int_int, isi_bool_int, isi_tup_tup, cmpD_le, cmp_le, cmp_gt, cmp_ge, cmp_eq, bin_add, bin_sub, at_0, at_1, truR_bl, ended_ret, ended_next, ended_exc, denSs, denS, denE, denEs, denTs, denI, startU, bi_int, bi_abs, bi_gcd, setT, Mini.stored, bi_len_tup, bi_len_lst, bi_list_rol, Mini.alloc, negD, idx_tup, runD, d20, absI, z, h, bin_fdiv g2, low, pr, bigL]
theorem lowest_ (k : Nat) (t b : Int) (μ : Mem) (hb : b ≠ 0) (hbb : b.natAbs < 2 ^ 500) : callD Ds (k + 1) 5 [.int t, .int b] μ = .ok (pr (low t b)) μ := by
  rw [call_at (d := d5) rfl]
  obtain ⟨g1, g2⟩ := gdiv t b hb hbb
  by_cases h : 0 < b
  · simp [bind_ok, bind_exc, isi_int_int, isi_bool_int, isi_tup_tup, cmpD_le, cmp_le, cmp_gt, cmp_ge, cmp_eq, bin_add, bin_sub, at_0, at_1, truR_bl, ended_ret, ended_next, ended_exc, denSs, denS, denE, denEs, denTs, denI, startU, bi_int, bi_abs, bi_gcd, setT, Mini.stored, bi_len_tup, bi_len_lst, bi_list_rol, Mini.alloc, negD, idx_tup, runD, d5, h, bin_fdiv g1, low, pr, bigL]
  · simp [bind_ok, bind_exc, isi_int_int, isi_bool_int, isi_tup_tup, cmpD_le, cmp_le, cmp_gt, cmp_ge, cmp_eq, bin_add, bin_sub, at_0, at_1, truR_bl, ended_ret, ended_next, ended_exc, denSs, denS, denE, denEs, denTs, denI, startU, bi_int, bi_abs, bi_gcd, setT, Mini.stored, bi_len_tup, bi_len_lst, bi_list_rol, Mini.alloc, negD, idx_tup, runD, d5, h, bin_fdiv g2, low, pr, bigL]
/-! ### portions -/
abbrev G : Int := 1000000000000000000000000000000000000000000000000000000000000
structure P (p : Int × Int) : Prop where
  lo : -G ≤ p.1
  hi : p.1 ≤ G
  pos : 1 ≤ p.2
  hi2 : p.2 ≤ G
  co : Nat.gcd p.1.natAbs p.2.natAbs = 1
theorem low_P (t b : Int) (h1 : -G ≤ t) (h2 : t ≤ G) (h3 : 1 ≤ b) (h4 : b ≤ G) : P (low t b) := by
  obtain ⟨m, n, co, em, en⟩ := Nat.exists_coprime t.natAbs b.natAbs
  have hp : 0 < Nat.gcd t.natAbs b.natAbs := Nat.gcd_pos_of_pos_right _ (by omega)
  unfold low
  rw [if_pos (by omega)]
  generalize Nat.gcd t.natAbs b.natAbs = g at *
  have hm : m * 1 ≤ m * g := Nat.mul_le_mul_left _ hp
  have hn : n * 1 ≤ n * g := Nat.mul_le_mul_left _ hp
  have gz : (g : Int) ≠ 0 := by omega
  have eb : b = (n : Int) * (g : Int) := by
    have : ((n * g : Nat) : Int) = (b.natAbs : Int) := by rw [← en]
    rw [Int.natCast_mul] at this
    omega
  have n1 : 1 ≤ n := by
    rcases Nat.eq_zero_or_pos n with z | z
    · subst z
      simp [bind_ok, bind_exc, isi_int_int, isi_bool_int, isi_tup_tup, cmpD_le, cmp_le, cmp_gt, cmp_ge, cmp_eq, bin_add, bin_sub, at_0, at_1, truR_bl, ended_ret, ended_next, ended_exc, denSs, denS, denE, denEs, denTs, denI, startU, bi_int, bi_abs, bi_gcd, setT, Mini.stored, bi_len_tup, bi_len_lst, bi_list_rol, Mini.alloc, negD, idx_tup] at eb
      omega
    · exact z
  obtain ⟨x, ex, xm⟩ : ∃ x : Int, t = x * (g : Int) ∧ x.natAbs = m := by
    have e : ((m * g : Nat) : Int) = (t.natAbs : Int) := by rw [← em]
    rw [Int.natCast_mul] at e
    by_cases ht : 0 ≤ t
    · exact ⟨m, by omega, by simp [bind_ok, bind_exc, isi_int_int, isi_bool_int, isi_tup_tup, cmpD_le, cmp_le, cmp_gt, cmp_ge, cmp_eq, bin_add, bin_sub, at_0, at_1, truR_bl, ended_ret, ended_next, ended_exc, denSs, denS, denE, denEs, denTs, denI, startU, bi_int, bi_abs, bi_gcd, setT, Mini.stored, bi_len_tup, bi_len_lst, bi_list_rol, Mini.alloc, negD, idx_tup]⟩
    · exact ⟨-m, by rw [Int.neg_mul]; omega, by simp [bind_ok, bind_exc, isi_int_int, isi_bool_int, isi_tup_tup, cmpD_le, cmp_le, cmp_gt, cmp_ge, cmp_eq, bin_add, bin_sub, at_0, at_1, truR_bl, ended_ret, ended_next, ended_exc, denSs, denS, denE, denEs, denTs, denI, startU, bi_int, bi_abs, bi_gcd, setT, Mini.stored, bi_len_tup, bi_len_lst, bi_list_rol, Mini.alloc, negD, idx_tup]⟩
  have f1 : t.fdiv g = x := by rw [ex, Int.mul_fdiv_cancel _ gz]
  have f2 : b.fdiv g = n := by rw [eb, Int.mul_fdiv_cancel _ gz]
  rw [f1, f2]
  have b1 : b.natAbs = n * g := en
  have t1 : t.natAbs = m * g := em
  exact ⟨by simp only [G] at *; omega, by simp only [G] at *; omega, by simp only; omega, by simp only [G] at *; omega, by rw [xm]; simpa using co⟩
theorem whole (k : Nat) (μ : Mem) (v lo hi : Int) : callD Ds (k + 1) 0 [.int v, .int lo, .int hi] μ = .ok (.bl (decide (lo ≤ v) && decide (v ≤ hi))) μ := by
  rw [call_at (d := d0) rfl]
  simp [bind_ok, bind_exc, isi_int_int, isi_bool_int, isi_tup_tup, cmpD_le, cmp_le, cmp_gt, cmp_ge, cmp_eq, bin_add, bin_sub, at_0, at_1, truR_bl, ended_ret, ended_next, ended_exc, denSs, denS, denE, denEs, denTs, denI, startU, bi_int, bi_abs, bi_gcd, setT, Mini.stored, bi_len_tup, bi_len_lst, bi_list_rol, Mini.alloc, negD, idx_tup, runD, d0]
  by_cases h : lo ≤ v <;> simp [bind_ok, bind_exc, isi_int_int, isi_bool_int, isi_tup_tup, cmpD_le, cmp_le, cmp_gt, cmp_ge, cmp_eq, bin_add, bin_sub, at_0, at_1, truR_bl, ended_ret, ended_next, ended_exc, denSs, denS, denE, denEs, denTs, denI, startU, bi_int, bi_abs, bi_gcd, setT, Mini.stored, bi_len_tup, bi_len_lst, bi_list_rol, Mini.alloc, negD, idx_tup, h]
theorem is_p (k : Nat) (μ : Mem) (p : Int × Int) (h : P p) : callD Ds (k + 2) 3 [pr p] μ = .ok (.bl true) μ := by
  rw [call_at (d := d3) rfl]
  have t : callD Ds (k + 1) 2 [pr p, .int 2, .int 2] μ = .ok (.bl true) μ := by
    rw [call_at (d := d2) rfl]
    simp [bind_ok, bind_exc, isi_int_int, isi_bool_int, isi_tup_tup, cmpD_le, cmp_le, cmp_gt, cmp_ge, cmp_eq, bin_add, bin_sub, at_0, at_1, truR_bl, ended_ret, ended_next, ended_exc, denSs, denS, denE, denEs, denTs, denI, startU, bi_int, bi_abs, bi_gcd, setT, Mini.stored, bi_len_tup, bi_len_lst, bi_list_rol, Mini.alloc, negD, idx_tup, runD, d2, pr]
  have w1 := whole k μ p.1 (-1000000000000000000000000000000000000000000000000000000000000) 1000000000000000000000000000000000000000000000000000000000000
  have w2 := whole k μ p.2 1 1000000000000000000000000000000000000000000000000000000000000
  have a1 := h.lo
  have a2 := h.hi
  have a3 := h.pos
  have a4 := h.hi2
  have c1 : (decide (-1000000000000000000000000000000000000000000000000000000000000 ≤ p.1) && decide (p.1 ≤ 1000000000000000000000000000000000000000000000000000000000000)) = true := by simp only [Bool.and_eq_true, decide_eq_true_eq]; exact ⟨a1, a2⟩
  have c2 : (decide (1 ≤ p.2) && decide (p.2 ≤ 1000000000000000000000000000000000000000000000000000000000000)) = true := by simp only [Bool.and_eq_true, decide_eq_true_eq]; exact ⟨a3, a4⟩
  rw [c1] at w1
  rw [c2] at w2
  have co := h.co
  simp only [pr] at t
  simp [bind_ok, bind_exc, isi_int_int, isi_bool_int, isi_tup_tup, cmpD_le, cmp_le, cmp_gt, cmp_ge, cmp_eq, bin_add, bin_sub, at_0, at_1, truR_bl, ended_ret, ended_next, ended_exc, denSs, denS, denE, denEs, denTs, denI, startU, bi_int, bi_abs, bi_gcd, setT, Mini.stored, bi_len_tup, bi_len_lst, bi_list_rol, Mini.alloc, negD, idx_tup, runD, d3, pr, t, w1, w2, co]
end K00

set_option maxHeartbeats 4000000
set_option exponentiation.threshold 20000
namespace K00
open PySem Mini L2
theorem G500 {n : Nat} (h : n ≤ 1000000000000000000000000000000000000000000000000000000000000) : n < 2 ^ 9000 := Nat.lt_of_le_of_lt h (by decide +kernel)
theorem P.n1 {p : Int × Int} (h : P p) : p.1.natAbs ≤ 1000000000000000000000000000000000000000000000000000000000000 := by
  have := h.lo; have := h.hi; simp only [G] at *; omega
theorem P.n2 {p : Int × Int} (h : P p) : p.2.natAbs ≤ 1000000000000000000000000000000000000000000000000000000000000 := by
  have := h.pos; have := h.hi2; simp only [G] at *; omega
theorem need (k : Nat) (μ : Mem) (p : Int × Int) (h : P p) : callD Ds (k + 3) 4 [pr p] μ = .ok .non μ := by
  rw [call_at (d := d4) rfl]
  have z := is_p k μ p h
  simp only [pr] at z
  simp [bind_ok, bind_exc, isi_int_int, isi_bool_int, isi_tup_tup, cmpD_le, cmp_le, cmp_gt, cmp_ge, cmp_eq, bin_add, bin_sub, at_0, at_1, truR_bl, ended_ret, ended_next, ended_exc, denSs, denS, denE, denEs, denTs, denI, startU, bi_int, bi_abs, bi_gcd, setT, Mini.stored, bi_len_tup, bi_len_lst, bi_list_rol, Mini.alloc, negD, idx_tup, runD, d4, pr, z]
theorem mulP {p q : Int} (h1 : p.natAbs ≤ 1000000000000000000000000000000000000000000000000000000000000) (h2 : q.natAbs ≤ 1000000000000000000000000000000000000000000000000000000000000) : mulOk p q = true := great_mul (G500 h1) (G500 h2)
theorem mul_b {p q : Int} (h1 : p.natAbs ≤ 1000000000000000000000000000000000000000000000000000000000000) (h2 : q.natAbs ≤ 1000000000000000000000000000000000000000000000000000000000000) : (p * q).natAbs < 2 ^ 500 := by
  rw [Int.natAbs_mul]
  exact Nat.lt_of_le_of_lt (Nat.mul_le_mul h1 h2) (by decide +kernel)
theorem pos_mul {p q : Int × Int} (h : P p) (g : P q) : p.2 * q.2 ≠ 0 := Int.mul_ne_zero (by have := h.pos; omega) (by have := g.pos; omega)
theorem sum_ (k : Nat) (μ : Mem) (p q : Int × Int) (h : P p) (g : P q) : callD Ds (k + 4) 10 [pr p, pr q] μ = .ok (pr (low (p.1 * q.2 + q.1 * p.2) (p.2 * q.2))) μ := by
  have z1 := need k μ p h
  have z2 := need k μ q g
  have z3 : callD Ds (k + 3) 6 [pr p, pr q] μ = .ok (pr (low (p.1 * q.2 + q.1 * p.2) (p.2 * q.2))) μ := by
    rw [call_at (d := d6) rfl]
    have w := lowest_ (k + 1) (p.1 * q.2 + q.1 * p.2) (p.2 * q.2) μ (pos_mul h g) (mul_b h.n2 g.n2)
    simp [bind_ok, bind_exc, isi_int_int, isi_bool_int, isi_tup_tup, cmpD_le, cmp_le, cmp_gt, cmp_ge, cmp_eq, bin_add, bin_sub, at_0, at_1, truR_bl, ended_ret, ended_next, ended_exc, denSs, denS, denE, denEs, denTs, denI, startU, bi_int, bi_abs, bi_gcd, setT, Mini.stored, bi_len_tup, bi_len_lst, bi_list_rol, Mini.alloc, negD, idx_tup, runD, d6, pr, bin_mul (mulP h.n1 g.n2), bin_mul (mulP g.n1 h.n2), bin_mul (mulP h.n2 g.n2), w]
  rw [call_at (d := d10) rfl]
  simp only [pr] at z1 z2 z3
  simp [bind_ok, bind_exc, isi_int_int, isi_bool_int, isi_tup_tup, cmpD_le, cmp_le, cmp_gt, cmp_ge, cmp_eq, bin_add, bin_sub, at_0, at_1, truR_bl, ended_ret, ended_next, ended_exc, denSs, denS, denE, denEs, denTs, denI, startU, bi_int, bi_abs, bi_gcd, setT, Mini.stored, bi_len_tup, bi_len_lst, bi_list_rol, Mini.alloc, negD, idx_tup, runD, d10, pr, z1, z2, z3]
theorem prod_ (k : Nat) (μ : Mem) (p q : Int × Int) (h : P p) (g : P q) : callD Ds (k + 4) 11 [pr p, pr q] μ = .ok (pr (low (p.1 * q.1) (p.2 * q.2))) μ := by
  have z1 := need k μ p h
  have z2 := need k μ q g
  have z3 : callD Ds (k + 3) 7 [pr p, pr q] μ = .ok (pr (low (p.1 * q.1) (p.2 * q.2))) μ := by
    rw [call_at (d := d7) rfl]
    have w := lowest_ (k + 1) (p.1 * q.1) (p.2 * q.2) μ (pos_mul h g) (mul_b h.n2 g.n2)
    simp [bind_ok, bind_exc, isi_int_int, isi_bool_int, isi_tup_tup, cmpD_le, cmp_le, cmp_gt, cmp_ge, cmp_eq, bin_add, bin_sub, at_0, at_1, truR_bl, ended_ret, ended_next, ended_exc, denSs, denS, denE, denEs, denTs, denI, startU, bi_int, bi_abs, bi_gcd, setT, Mini.stored, bi_len_tup, bi_len_lst, bi_list_rol, Mini.alloc, negD, idx_tup, runD, d7, pr, bin_mul (mulP h.n1 g.n1), bin_mul (mulP h.n2 g.n2), w]
  rw [call_at (d := d11) rfl]
  simp only [pr] at z1 z2 z3
  simp [bind_ok, bind_exc, isi_int_int, isi_bool_int, isi_tup_tup, cmpD_le, cmp_le, cmp_gt, cmp_ge, cmp_eq, bin_add, bin_sub, at_0, at_1, truR_bl, ended_ret, ended_next, ended_exc, denSs, denS, denE, denEs, denTs, denI, startU, bi_int, bi_abs, bi_gcd, setT, Mini.stored, bi_len_tup, bi_len_lst, bi_list_rol, Mini.alloc, negD, idx_tup, runD, d11, pr, z1, z2, z3]
theorem by_ (k : Nat) (μ : Mem) (p q : Int × Int) (h : P p) (g : P q) (hq : q.1 ≠ 0) : callD Ds (k + 4) 12 [pr p, pr q] μ = .ok (pr (low (p.1 * q.2) (p.2 * q.1))) μ := by
  have z1 := need k μ p h
  have z2 := need k μ q g
  have w := lowest_ (k + 2) (p.1 * q.2) (p.2 * q.1) μ (Int.mul_ne_zero (by have := h.pos; omega) hq) (mul_b h.n2 g.n1)
  have e : (q.1 == 0) = false := by simpa using hq
  rw [call_at (d := d12) rfl]
  simp only [pr] at z1 z2
  simp [bind_ok, bind_exc, isi_int_int, isi_bool_int, isi_tup_tup, cmpD_le, cmp_le, cmp_gt, cmp_ge, cmp_eq, bin_add, bin_sub, at_0, at_1, truR_bl, ended_ret, ended_next, ended_exc, denSs, denS, denE, denEs, denTs, denI, startU, bi_int, bi_abs, bi_gcd, setT, Mini.stored, bi_len_tup, bi_len_lst, bi_list_rol, Mini.alloc, negD, idx_tup, runD, d12, pr, z1, z2, w, e, bin_mul (mulP h.n1 g.n2), bin_mul (mulP h.n2 g.n1)]
theorem by0 (k : Nat) (μ : Mem) (p q : Int × Int) (h : P p) (g : P q) (hq : q.1 = 0) : callD Ds (k + 4) 12 [pr p, pr q] μ = .exc ⟨"NotFound", none⟩ μ := by
  have z1 := need k μ p h
  have z2 := need k μ q g
  rw [call_at (d := d12) rfl]
  simp only [pr] at z1 z2
  have e : (q.1 == 0) = true := by simpa using hq
  simp [bind_ok, bind_exc, isi_int_int, isi_bool_int, isi_tup_tup, cmpD_le, cmp_le, cmp_gt, cmp_ge, cmp_eq, bin_add, bin_sub, at_0, at_1, truR_bl, ended_ret, ended_next, ended_exc, denSs, denS, denE, denEs, denTs, denI, startU, bi_int, bi_abs, bi_gcd, setT, Mini.stored, bi_len_tup, bi_len_lst, bi_list_rol, Mini.alloc, negD, idx_tup, runD, d12, pr, z1, z2, e]
theorem higher (k : Nat) (μ : Mem) (p q : Int × Int) (h : P p) (g : P q) : callD Ds (k + 4) 13 [pr p, pr q] μ = .ok (.bl (decide (q.1 * p.2 < p.1 * q.2))) μ := by
  have z1 := need k μ p h
  have z2 := need k μ q g
  have z3 : callD Ds (k + 3) 8 [pr p, pr q] μ = .ok (.int (p.1 * q.2 - q.1 * p.2)) μ := by
    rw [call_at (d := d8) rfl]
    simp [bind_ok, bind_exc, isi_int_int, isi_bool_int, isi_tup_tup, cmpD_le, cmp_le, cmp_gt, cmp_ge, cmp_eq, bin_add, bin_sub, at_0, at_1, truR_bl, ended_ret, ended_next, ended_exc, denSs, denS, denE, denEs, denTs, denI, startU, bi_int, bi_abs, bi_gcd, setT, Mini.stored, bi_len_tup, bi_len_lst, bi_list_rol, Mini.alloc, negD, idx_tup, runD, d8, pr, bin_mul (mulP h.n1 g.n2), bin_mul (mulP g.n1 h.n2)]
  rw [call_at (d := d13) rfl]
  simp only [pr] at z1 z2 z3
  have e : decide (0 < p.1 * q.2 - q.1 * p.2) = decide (q.1 * p.2 < p.1 * q.2) := by
    by_cases z : q.1 * p.2 < p.1 * q.2
    · rw [decide_eq_true z, decide_eq_true (by omega)]
    · rw [decide_eq_false z, decide_eq_false (by omega)]
  simp [bind_ok, bind_exc, isi_int_int, isi_bool_int, isi_tup_tup, cmpD_le, cmp_le, cmp_gt, cmp_ge, cmp_eq, bin_add, bin_sub, at_0, at_1, truR_bl, ended_ret, ended_next, ended_exc, denSs, denS, denE, denEs, denTs, denI, startU, bi_int, bi_abs, bi_gcd, setT, Mini.stored, bi_len_tup, bi_len_lst, bi_list_rol, Mini.alloc, negD, idx_tup, runD, d13, pr, z1, z2, z3, e]
theorem no_ (a b : Int) : lamD Ds 23 (.exc ⟨"NotFound", none⟩ (M1 a b)) = .ok (.str "no") (M1 a b) := by rfl
end K00

set_option maxHeartbeats 4000000
set_option exponentiation.threshold 20000
namespace K00
open PySem Mini L2
/-! ### the comparison of what is told with what is due -/
def srt : U → Int
  | .non => 0 | .bl _ => 1 | .int _ => 2 | .str _ => 3 | .tup _ => 4 | .lst _ => 5 | _ => 7
theorem sort_ (k : Nat) (μ : Mem) (u : U) (h : srt u ≠ 7) : callD Ds (k + 1) 17 [u] μ = .ok (.int (srt u)) μ := by
  rw [call_at (d := d17) rfl]
  cases u <;> first | rfl | (exact absurd rfl h)
inductive Pl : Nat → U → Prop
  | non {n} : Pl n .non
  | bl {n} (b : Bool) : Pl n (.bl b)
  | int {n} (i : Int) : Pl n (.int i)
  | str {n} (i : Str) : Pl n (.str i)
  | tup {n} (xs : List U) (h : ∀ x ∈ xs, Pl n x) : Pl (n + 1) (.tup xs)
  | lst {n} (xs : List U) (h : ∀ x ∈ xs, Pl n x) : Pl (n + 1) (.lst xs)
theorem like_loop {C : Orc} {ρ : Slots} {μ : Mem} (hρ : ρ.length = 5) : ∀ xs : List U, (∀ x ∈ xs, C.call 18 [x, x] μ = .ok (.bl true) μ) →
    compLoop (stepD (fun ρ μ => denTs C (.cons (.not (.call 18 (.cons (.var 3) (.cons (.var 4) .nil)))) .nil) ρ μ) (fun ρ μ => denE C (.int 1) ρ μ)) (fun u μ => setT (.tup (.cons (.name 3) (.cons (.name 4) .nil))) u μ (wipeU ρ [3, 4])) (zipU xs xs) μ = .ok [] μ
  | [], _ => rfl
  | x :: xs, h => by
    have ih := like_loop hρ xs fun y hy => h y (List.mem_cons_of_mem _ hy)
    have hx := h x List.mem_cons_self
    unfold zipU compLoop
    have hs : setT (.tup (.cons (.name 3) (.cons (.name 4) .nil))) (.tup [x, x]) μ (wipeU ρ [3, 4]) = some (((wipeU ρ [3, 4]).set 3 (some x)).set 4 (some x)) := rfl
    rw [hs]
    dsimp only
    have hst : stepD (fun ρ μ => denTs C (.cons (.not (.call 18 (.cons (.var 3) (.cons (.var 4) .nil)))) .nil) ρ μ) (fun ρ μ => denE C (.int 1) ρ μ) (((wipeU ρ [3, 4]).set 3 (some x)).set 4 (some x)) μ = .ok none μ := by
      simp [bind_ok, bind_exc, isi_int_int, isi_bool_int, isi_tup_tup, cmpD_le, cmp_le, cmp_gt, cmp_ge, cmp_eq, bin_add, bin_sub, at_0, at_1, truR_bl, ended_ret, ended_next, ended_exc, denSs, denS, denE, denEs, denTs, denI, startU, bi_int, bi_abs, bi_gcd, setT, Mini.stored, bi_len_tup, bi_len_lst, bi_list_rol, Mini.alloc, negD, idx_tup, stepD, wipeU, hρ, hx]
    rw [hst]
    exact ih
theorem like_s (k : Nat) (u : U) (μ : Mem) (h : srt u = 0 ∨ srt u = 1 ∨ srt u = 2 ∨ srt u = 3) : callD Ds (k + 2) 18 [u, u] μ = .ok (.bl true) μ := by
  have z := sort_ k μ u (by omega)
  rw [call_at (d := d18) rfl]
  have e0 : cmpR .In (.int 0) (.tup [.int 4, .int 5]) μ = .ok (.bl false) μ := rfl
  have e1 : cmpR .In (.int 1) (.tup [.int 4, .int 5]) μ = .ok (.bl false) μ := rfl
  have e2 : cmpR .In (.int 2) (.tup [.int 4, .int 5]) μ = .ok (.bl false) μ := rfl
  have e3 : cmpR .In (.int 3) (.tup [.int 4, .int 5]) μ = .ok (.bl false) μ := rfl
  cases u with
  | non =>
    have e : cmpR .Eq .non .non μ = .ok (.bl true) μ := rfl
    simp [bind_ok, bind_exc, isi_int_int, isi_bool_int, isi_tup_tup, cmpD_le, cmp_le, cmp_gt, cmp_ge, cmp_eq, bin_add, bin_sub, at_0, at_1, truR_bl, ended_ret, ended_next, ended_exc, denSs, denS, denE, denEs, denTs, denI, startU, bi_int, bi_abs, bi_gcd, setT, Mini.stored, bi_len_tup, bi_len_lst, bi_list_rol, Mini.alloc, negD, idx_tup, runD, d18, z, cmp_ne, srt, e0, e, bigL]
  | bl b =>
    have e : cmpR .Eq (.bl b) (.bl b) μ = .ok (.bl true) μ := by cases b <;> rfl
    simp [bind_ok, bind_exc, isi_int_int, isi_bool_int, isi_tup_tup, cmpD_le, cmp_le, cmp_gt, cmp_ge, cmp_eq, bin_add, bin_sub, at_0, at_1, truR_bl, ended_ret, ended_next, ended_exc, denSs, denS, denE, denEs, denTs, denI, startU, bi_int, bi_abs, bi_gcd, setT, Mini.stored, bi_len_tup, bi_len_lst, bi_list_rol, Mini.alloc, negD, idx_tup, runD, d18, z, cmp_ne, srt, e1, e, bigL]
  | int i => simp [bind_ok, bind_exc, isi_int_int, isi_bool_int, isi_tup_tup, cmpD_le, cmp_le, cmp_gt, cmp_ge, cmp_eq, bin_add, bin_sub, at_0, at_1, truR_bl, ended_ret, ended_next, ended_exc, denSs, denS, denE, denEs, denTs, denI, startU, bi_int, bi_abs, bi_gcd, setT, Mini.stored, bi_len_tup, bi_len_lst, bi_list_rol, Mini.alloc, negD, idx_tup, runD, d18, z, cmp_ne, srt, e2, bigL]
  | str s =>
    have e : cmpR .Eq (.str s) (.str s) μ = .ok (.bl true) μ := by
      show R.ok (U.bl (s == s)) μ = _
      simp [bind_ok, bind_exc, isi_int_int, isi_bool_int, isi_tup_tup, cmpD_le, cmp_le, cmp_gt, cmp_ge, cmp_eq, bin_add, bin_sub, at_0, at_1, truR_bl, ended_ret, ended_next, ended_exc, denSs, denS, denE, denEs, denTs, denI, startU, bi_int, bi_abs, bi_gcd, setT, Mini.stored, bi_len_tup, bi_len_lst, bi_list_rol, Mini.alloc, negD, idx_tup]
    simp [bind_ok, bind_exc, isi_int_int, isi_bool_int, isi_tup_tup, cmpD_le, cmp_le, cmp_gt, cmp_ge, cmp_eq, bin_add, bin_sub, at_0, at_1, truR_bl, ended_ret, ended_next, ended_exc, denSs, denS, denE, denEs, denTs, denI, startU, bi_int, bi_abs, bi_gcd, setT, Mini.stored, bi_len_tup, bi_len_lst, bi_list_rol, Mini.alloc, negD, idx_tup, runD, d18, z, cmp_ne, srt, e3, e, bigL]
  | _ => simp [bind_ok, bind_exc, isi_int_int, isi_bool_int, isi_tup_tup, cmpD_le, cmp_le, cmp_gt, cmp_ge, cmp_eq, bin_add, bin_sub, at_0, at_1, truR_bl, ended_ret, ended_next, ended_exc, denSs, denS, denE, denEs, denTs, denI, startU, bi_int, bi_abs, bi_gcd, setT, Mini.stored, bi_len_tup, bi_len_lst, bi_list_rol, Mini.alloc, negD, idx_tup, srt] at h
theorem like_ : ∀ (n k : Nat) (u : U) (μ : Mem), Pl n u → callD Ds (k + n + 2) 18 [u, u] μ = .ok (.bl true) μ := by
  intro n
  induction n with
  | zero =>
    intro k u μ h
    cases h <;> exact like_s k _ μ (by simp [bind_ok, bind_exc, isi_int_int, isi_bool_int, isi_tup_tup, cmpD_le, cmp_le, cmp_gt, cmp_ge, cmp_eq, bin_add, bin_sub, at_0, at_1, truR_bl, ended_ret, ended_next, ended_exc, denSs, denS, denE, denEs, denTs, denI, startU, bi_int, bi_abs, bi_gcd, setT, Mini.stored, bi_len_tup, bi_len_lst, bi_list_rol, Mini.alloc, negD, idx_tup, srt])
  | succ n ih =>
    intro k u μ h
    cases h with
    | tup xs h =>
      have z := sort_ (k + n + 1) μ (.tup xs) (by simp [bind_ok, bind_exc, isi_int_int, isi_bool_int, isi_tup_tup, cmpD_le, cmp_le, cmp_gt, cmp_ge, cmp_eq, bin_add, bin_sub, at_0, at_1, truR_bl, ended_ret, ended_next, ended_exc, denSs, denS, denE, denEs, denTs, denI, startU, bi_int, bi_abs, bi_gcd, setT, Mini.stored, bi_len_tup, bi_len_lst, bi_list_rol, Mini.alloc, negD, idx_tup, srt])
      have e4 : cmpR .In (.int 4) (.tup [.int 4, .int 5]) μ = .ok (.bl true) μ := rfl
      have ee : cmpR .Eq (.lst []) (.lst []) μ = .ok (.bl true) μ := rfl
      have lp := like_loop (C := orc Ds (k + n + 2)) (ρ := [some (.tup xs), some (.tup xs), some (.int 4), none, none]) (μ := μ) rfl xs fun x hx => ih k x μ (h x hx)
      show callD Ds (k + n + 2 + 1) 18 [.tup xs, .tup xs] μ = _
      rw [call_at (d := d18) rfl]
      simp only [setT, denTs, denE, denEs, bind_ok] at lp
      simp [bind_ok, bind_exc, isi_int_int, isi_bool_int, isi_tup_tup, cmpD_le, cmp_le, cmp_gt, cmp_ge, cmp_eq, bin_add, bin_sub, at_0, at_1, truR_bl, ended_ret, ended_next, ended_exc, denSs, denS, denE, denEs, denTs, denI, startU, bi_int, bi_abs, bi_gcd, setT, Mini.stored, bi_len_tup, bi_len_lst, bi_list_rol, Mini.alloc, negD, idx_tup, runD, d18, z, cmp_ne, srt, e4, ee, bigL, lp]
    | lst xs h =>
      have z := sort_ (k + n + 1) μ (.lst xs) (by simp [bind_ok, bind_exc, isi_int_int, isi_bool_int, isi_tup_tup, cmpD_le, cmp_le, cmp_gt, cmp_ge, cmp_eq, bin_add, bin_sub, at_0, at_1, truR_bl, ended_ret, ended_next, ended_exc, denSs, denS, denE, denEs, denTs, denI, startU, bi_int, bi_abs, bi_gcd, setT, Mini.stored, bi_len_tup, bi_len_lst, bi_list_rol, Mini.alloc, negD, idx_tup, srt])
      have e4 : cmpR .In (.int 5) (.tup [.int 4, .int 5]) μ = .ok (.bl true) μ := rfl
      have ee : cmpR .Eq (.lst []) (.lst []) μ = .ok (.bl true) μ := rfl
      have lp := like_loop (C := orc Ds (k + n + 2)) (ρ := [some (.lst xs), some (.lst xs), some (.int 5), none, none]) (μ := μ) rfl xs fun x hx => ih k x μ (h x hx)
      show callD Ds (k + n + 2 + 1) 18 [.lst xs, .lst xs] μ = _
      rw [call_at (d := d18) rfl]
      simp only [setT, denTs, denE, denEs, bind_ok] at lp
      simp [bind_ok, bind_exc, isi_int_int, isi_bool_int, isi_tup_tup, cmpD_le, cmp_le, cmp_gt, cmp_ge, cmp_eq, bin_add, bin_sub, at_0, at_1, truR_bl, ended_ret, ended_next, ended_exc, denSs, denS, denE, denEs, denTs, denI, startU, bi_int, bi_abs, bi_gcd, setT, Mini.stored, bi_len_tup, bi_len_lst, bi_list_rol, Mini.alloc, negD, idx_tup, runD, d18, z, cmp_ne, srt, e4, ee, bigL, lp]
    | non => exact like_s (k + n + 1) _ μ (by simp [bind_ok, bind_exc, isi_int_int, isi_bool_int, isi_tup_tup, cmpD_le, cmp_le, cmp_gt, cmp_ge, cmp_eq, bin_add, bin_sub, at_0, at_1, truR_bl, ended_ret, ended_next, ended_exc, denSs, denS, denE, denEs, denTs, denI, startU, bi_int, bi_abs, bi_gcd, setT, Mini.stored, bi_len_tup, bi_len_lst, bi_list_rol, Mini.alloc, negD, idx_tup, srt])
    | bl b => exact like_s (k + n + 1) _ μ (by simp [bind_ok, bind_exc, isi_int_int, isi_bool_int, isi_tup_tup, cmpD_le, cmp_le, cmp_gt, cmp_ge, cmp_eq, bin_add, bin_sub, at_0, at_1, truR_bl, ended_ret, ended_next, ended_exc, denSs, denS, denE, denEs, denTs, denI, startU, bi_int, bi_abs, bi_gcd, setT, Mini.stored, bi_len_tup, bi_len_lst, bi_list_rol, Mini.alloc, negD, idx_tup, srt])
    | int b => exact like_s (k + n + 1) _ μ (by simp [bind_ok, bind_exc, isi_int_int, isi_bool_int, isi_tup_tup, cmpD_le, cmp_le, cmp_gt, cmp_ge, cmp_eq, bin_add, bin_sub, at_0, at_1, truR_bl, ended_ret, ended_next, ended_exc, denSs, denS, denE, denEs, denTs, denI, startU, bi_int, bi_abs, bi_gcd, setT, Mini.stored, bi_len_tup, bi_len_lst, bi_list_rol, Mini.alloc, negD, idx_tup, srt])
    | str b => exact like_s (k + n + 1) _ μ (by simp [bind_ok, bind_exc, isi_int_int, isi_bool_int, isi_tup_tup, cmpD_le, cmp_le, cmp_gt, cmp_ge, cmp_eq, bin_add, bin_sub, at_0, at_1, truR_bl, ended_ret, ended_next, ended_exc, denSs, denS, denE, denEs, denTs, denI, startU, bi_int, bi_abs, bi_gcd, setT, Mini.stored, bi_len_tup, bi_len_lst, bi_list_rol, Mini.alloc, negD, idx_tup, srt])
end K00

set_option maxHeartbeats 4000000
set_option exponentiation.threshold 20000
namespace K00
open PySem Mini L2
theorem pl_pr (n : Nat) (p : Int × Int) : Pl (n + 1) (pr p) := .tup _ fun x hx => by
  simp only [List.mem_cons, List.mem_nil_iff, or_false] at hx
  rcases hx with rfl | rfl <;> exact .int _
theorem right (k : Nat) (a b : Int) (p q : Int × Int) (h : P p) (g : P q) : callD Ds (k + 6) 24 [pr p, pr q] (M1 a b) = .ok (.bl true) (M1 a b) := by
  have s1 := sum_ (k + 1) (M1 a b) p q h g
  have s2 := prod_ (k + 1) (M1 a b) p q h g
  have s3 := higher (k + 1) (M1 a b) p q h g
  have s4 := is_p (k + 3) (M1 a b) p h
  have t1 := plain_ (k + 3) (p.1 * q.2 + q.1 * p.2) (p.2 * q.2) (M1 a b) (pos_mul h g) (mul_b h.n2 g.n2)
  have t2 := plain_ (k + 3) (p.1 * q.1) (p.2 * q.2) (M1 a b) (pos_mul h g) (mul_b h.n2 g.n2)
  have l1 := like_ 2 (k + 1) (.lst [pr (low (p.1 * q.2 + q.1 * p.2) (p.2 * q.2)), pr (low (p.1 * q.1) (p.2 * q.2)), .bl (decide (q.1 * p.2 < p.1 * q.2)), .bl true]) (M1 a b) (.lst _ fun x hx => by
    simp only [List.mem_cons, List.mem_nil_iff, or_false] at hx
    rcases hx with rfl | rfl | rfl | rfl
    · exact pl_pr _ _
    · exact pl_pr _ _
    · exact .bl _
    · exact .bl _)
  have m1 := bin_mul (m := false) (μ := M1 a b) (mulP h.n1 g.n2)
  have m2 := bin_mul (m := false) (μ := M1 a b) (mulP g.n1 h.n2)
  have m3 := bin_mul (m := false) (μ := M1 a b) (mulP h.n2 g.n2)
  have m4 := bin_mul (m := false) (μ := M1 a b) (mulP h.n1 g.n1)
  have m5 := bin_mul (m := false) (μ := M1 a b) (mulP h.n2 g.n1)
  rw [call_at (d := d24) rfl]
  simp only [pr] at s1 s2 s3 s4 t1 t2 l1
  by_cases hq : q.1 = 0
  · have e := by0 (k + 1) (M1 a b) p q h g hq
    have e0 : (q.1 == 0) = true := by simpa using hq
    have en := no_ a b
    have es : cmpR .Eq (.str "no") (.str "no") (M1 a b) = .ok (.bl true) (M1 a b) := rfl
    simp only [pr] at e
    simp [bind_ok, bind_exc, isi_int_int, isi_bool_int, isi_tup_tup, cmpD_le, cmp_le, cmp_gt, cmp_ge, cmp_eq, bin_add, bin_sub, at_0, at_1, truR_bl, ended_ret, ended_next, ended_exc, denSs, denS, denE, denEs, denTs, denI, startU, bi_int, bi_abs, bi_gcd, setT, Mini.stored, bi_len_tup, bi_len_lst, bi_list_rol, Mini.alloc, negD, idx_tup, runD, d24, pr, m1, m2, m3, m4, m5, s1, s2, s3, s4, t1, t2, l1, e, e0, en, es, bigL]
  · have e := by_ (k + 1) (M1 a b) p q h g hq
    have e0 : (q.1 == 0) = false := by simpa using hq
    have t3 := plain_ (k + 3) (p.1 * q.2) (p.2 * q.1) (M1 a b) (Int.mul_ne_zero (by have := h.pos; omega) hq) (mul_b h.n2 g.n1)
    have l2 := like_ 1 (k + 2) (pr (low (p.1 * q.2) (p.2 * q.1))) (M1 a b) (pl_pr _ _)
    simp only [pr] at e t3 l2
    simp [bind_ok, bind_exc, isi_int_int, isi_bool_int, isi_tup_tup, cmpD_le, cmp_le, cmp_gt, cmp_ge, cmp_eq, bin_add, bin_sub, at_0, at_1, truR_bl, ended_ret, ended_next, ended_exc, denSs, denS, denE, denEs, denTs, denI, startU, bi_int, bi_abs, bi_gcd, setT, Mini.stored, bi_len_tup, bi_len_lst, bi_list_rol, Mini.alloc, negD, idx_tup, runD, d24, pr, m1, m2, m3, m4, m5, s1, s2, s3, s4, t1, t2, l1, e, e0, t3, l2, bigL]
/-! ### drawn portions -/
theorem great_loop (k : Nat) (n : Int) (h0 : 0 ≤ n) (hn : n.natAbs < 2 ^ 500) : ∀ (xs : List U) (f a b : Int) (t : Option U), 0 ≤ f → f ≤ n → CupOk a b → ∃ f' a' b' t', forLoop (fun ρ μ => denSs (orc Ds (k + 1)) (.cons (.set (.name 2) (.bin false .Mod (.bi false "int" (.cons (.bin false .Add (.bin false .Add (.bin false .Mult (.var 2) (.bin false .Pow (.int 10) (.int 18))) (.bin false .Mult (.call 15 (.cons (.var 0) (.cons (.bin false .Pow (.int 10) (.int 9)) .nil))) (.bin false .Pow (.int 10) (.int 9)))) (.call 15 (.cons (.var 0) (.cons (.bin false .Pow (.int 10) (.int 9)) .nil)))) .nil)) (.bin false .Add (.var 1) (.int 1)))) .nil) ρ μ) (fun u μ ρ => setT (.name 3) u μ ρ) xs [some (.ref 0), some (.int n), some (.int f), t] (M1 a b) = .ok (.next [some (.ref 0), some (.int n), some (.int f'), t']) (M1 a' b') ∧ 0 ≤ f' ∧ f' ≤ n ∧ CupOk a' b'
  | [], f, a, b, t, hf, hfn, hc => ⟨f, a, b, t, rfl, hf, hfn, hc⟩
  | x :: xs, f, a, b, t, hf, hfn, hc => by
    obtain ⟨r1, a1, b1, e1, c1, p1, q1⟩ := roll k a b 1000000000 hc (by decide) (by decide +kernel)
    obtain ⟨r2, a2, b2, e2, c2, p2, q2⟩ := roll k a1 b1 1000000000 c1 (by decide) (by decide +kernel)
    have hm : ((n + 1) != 0) = true := by simp [bind_ok, bind_exc, isi_int_int, isi_bool_int, isi_tup_tup, cmpD_le, cmp_le, cmp_gt, cmp_ge, cmp_eq, bin_add, bin_sub, at_0, at_1, truR_bl, ended_ret, ended_next, ended_exc, denSs, denS, denE, denEs, denTs, denI, startU, bi_int, bi_abs, bi_gcd, setT, Mini.stored, bi_len_tup, bi_len_lst, bi_list_rol, Mini.alloc, negD, idx_tup]; omega
    obtain ⟨f', a', b', t', e3, r⟩ := great_loop k n h0 hn xs ((f * 1000000000000000000 + r1 * 1000000000 + r2).fmod (n + 1)) a2 b2 (some x) (Int.fmod_nonneg_of_pos _ (by omega)) (by have := Int.fmod_lt_of_pos (f * 1000000000000000000 + r1 * 1000000000 + r2) (b := n + 1) (by omega); omega) c2
    refine ⟨f', a', b', t', ?_, r⟩
    unfold forLoop
    simp only [setT] at e3 ⊢
    have e9 : (10 : Int) ^ (9 : Int).toNat = 1000000000 := by decide
    have e18 : (10 : Int) ^ (18 : Int).toNat = 1000000000000000000 := by decide
    simp [bind_ok, bind_exc, isi_int_int, isi_bool_int, isi_tup_tup, cmpD_le, cmp_le, cmp_gt, cmp_ge, cmp_eq, bin_add, bin_sub, at_0, at_1, truR_bl, ended_ret, ended_next, ended_exc, denSs, denS, denE, denEs, denTs, denI, startU, bi_int, bi_abs, bi_gcd, setT, Mini.stored, bi_len_tup, bi_len_lst, bi_list_rol, Mini.alloc, negD, idx_tup, bin_pow (i := 10) (j := 9) (by decide), bin_pow (i := 10) (j := 18) (by decide), e1, e2, bin_mul (small_mul (i := f) (j := 1000000000000000000) (by decide)), bin_mul (small_mul (i := r1) (j := 1000000000) (by decide)), bin_mod hm]
    simp [bind_ok, bind_exc, isi_int_int, isi_bool_int, isi_tup_tup, cmpD_le, cmp_le, cmp_gt, cmp_ge, cmp_eq, bin_add, bin_sub, at_0, at_1, truR_bl, ended_ret, ended_next, ended_exc, denSs, denS, denE, denEs, denTs, denI, startU, bi_int, bi_abs, bi_gcd, setT, Mini.stored, bi_len_tup, bi_len_lst, bi_list_rol, Mini.alloc, negD, idx_tup] at e3
    exact e3
end K00

set_option maxHeartbeats 4000000
set_option exponentiation.threshold 20000
namespace K00
open PySem Mini L2
theorem great_ (k : Nat) (n a b : Int) (h0 : 0 ≤ n) (hn : n.natAbs < 2 ^ 500) (hc : CupOk a b) : ∃ f a' b', callD Ds (k + 2) 21 [.ref 0, .int n] (M1 a b) = .ok (.int f) (M1 a' b') ∧ 0 ≤ f ∧ f ≤ n ∧ CupOk a' b' := by
  obtain ⟨f, a', b', t', e, r⟩ := great_loop k n h0 hn (rngL 0 4) 0 a b none (by decide) h0 hc
  refine ⟨f, a', b', ?_, r⟩
  have z := (for_at (t := .name 3) (rng1_at (C := orc Ds (k + 1)) (n := 4) (ρ := [some (.ref 0), some (.int n), some (.int 0), none]) (μ := M1 a b) (by decide))).trans e
  rw [call_at (d := d21) rfl]
  have y : denS (orc Ds (k + 1)) (.set (.name 2) (.int 0)) [some (.ref 0), some (.int n), none, none] (M1 a b) = .ok (.next [some (.ref 0), some (.int n), some (.int 0), none]) (M1 a b) := rfl
  have w := (seq_next (ss := .cons _ (.cons (.ret (.var 2)) .nil)) y).trans (seq_next (ss := .cons (.ret (.var 2)) .nil) z)
  simp only [runD, d21, List.length_cons, List.length_nil, startU, List.map_cons, List.map_nil]
  refine (congrArg ended w).trans ?_
  simp [bind_ok, bind_exc, isi_int_int, isi_bool_int, isi_tup_tup, cmpD_le, cmp_le, cmp_gt, cmp_ge, cmp_eq, bin_add, bin_sub, at_0, at_1, truR_bl, ended_ret, ended_next, ended_exc, denSs, denS, denE, denEs, denTs, denI, startU, bi_int, bi_abs, bi_gcd, setT, Mini.stored, bi_len_tup, bi_len_lst, bi_list_rol, Mini.alloc, negD, idx_tup]
theorem portion_ (k : Nat) (a b : Int) (hc : CupOk a b) : ∃ p a' b', callD Ds (k + 4) 22 [.ref 0] (M1 a b) = .ok (pr p) (M1 a' b') ∧ P p ∧ CupOk a' b' := by
  obtain ⟨i, u, a1, b1, hi, e1, c1⟩ := some_ (k + 1) a b [.int 1, .int 8, .int 1000000000000, .int G] hc (by decide) (by decide)
  obtain ⟨n, rfl, n0, n1⟩ : ∃ n : Int, u = .int n ∧ 1 ≤ n ∧ n ≤ G := by
    match i, hi with
    | 0, h => cases h; exact ⟨_, rfl, by decide, by decide⟩
    | 1, h => cases h; exact ⟨_, rfl, by decide, by decide⟩
    | 2, h => cases h; exact ⟨_, rfl, by decide, by decide⟩
    | 3, h => cases h; exact ⟨_, rfl, by decide, by decide⟩
    | j + 4, h => simp [bind_ok, bind_exc, isi_int_int, isi_bool_int, isi_tup_tup, cmpD_le, cmp_le, cmp_gt, cmp_ge, cmp_eq, bin_add, bin_sub, at_0, at_1, truR_bl, ended_ret, ended_next, ended_exc, denSs, denS, denE, denEs, denTs, denI, startU, bi_int, bi_abs, bi_gcd, setT, Mini.stored, bi_len_tup, bi_len_lst, bi_list_rol, Mini.alloc, negD, idx_tup] at h
  have n5 : n.natAbs < 2 ^ 500 := by
    have : n.natAbs ≤ 1000000000000000000000000000000000000000000000000000000000000 := by simp only [G] at n1; omega
    exact Nat.lt_of_le_of_lt this (by decide +kernel)
  have n6 : (n - 1).natAbs < 2 ^ 500 := by omega
  obtain ⟨f, a2, b2, e2, f0, f1, c2⟩ := great_ (k + 1) n a1 b1 (by omega) n5 c1
  obtain ⟨j, v, a3, b3, hj, e3, c3⟩ := some_ (k + 1) a2 b2 [.int 1, .int (-1)] c2 (by decide) (by decide)
  obtain ⟨s, rfl, hs⟩ : ∃ s : Int, v = .int s ∧ (s = 1 ∨ s = -1) := by
    match j, hj with
    | 0, h => cases h; exact ⟨_, rfl, .inl rfl⟩
    | 1, h => cases h; exact ⟨_, rfl, .inr rfl⟩
    | j + 2, h => simp [bind_ok, bind_exc, isi_int_int, isi_bool_int, isi_tup_tup, cmpD_le, cmp_le, cmp_gt, cmp_ge, cmp_eq, bin_add, bin_sub, at_0, at_1, truR_bl, ended_ret, ended_next, ended_exc, denSs, denS, denE, denEs, denTs, denI, startU, bi_int, bi_abs, bi_gcd, setT, Mini.stored, bi_len_tup, bi_len_lst, bi_list_rol, Mini.alloc, negD, idx_tup] at h
  obtain ⟨w, a4, b4, e4, w0, w1, c4⟩ := great_ (k + 1) (n - 1) a3 b3 (by omega) n6 c3
  have t1 : -n ≤ f * s ∧ f * s ≤ n := by rcases hs with rfl | rfl <;> omega
  have z := plain_ (k + 1) (f * s) (1 + w) (M1 a4 b4) (by omega) (by omega)
  refine ⟨low (f * s) (1 + w), a4, b4, ?_, low_P _ _ (by simp only [G] at *; omega) (by simp only [G] at *; omega) (by omega) (by simp only [G] at *; omega), c4⟩
  rw [call_at (d := d22) rfl]
  have hm : mulOk f s = true := small_mul (by rcases hs with rfl | rfl <;> decide)
  have e12 : (10 : Int) ^ (12 : Int).toNat = 1000000000000 := by decide
  have e60 : (10 : Int) ^ (60 : Int).toNat = G := by decide
  simp only [pr, G] at z e1 e3 ⊢
  simp [bind_ok, bind_exc, isi_int_int, isi_bool_int, isi_tup_tup, cmpD_le, cmp_le, cmp_gt, cmp_ge, cmp_eq, bin_add, bin_sub, at_0, at_1, truR_bl, ended_ret, ended_next, ended_exc, denSs, denS, denE, denEs, denTs, denI, startU, bi_int, bi_abs, bi_gcd, setT, Mini.stored, bi_len_tup, bi_len_lst, bi_list_rol, Mini.alloc, negD, idx_tup, runD, d22, pr, bin_pow (i := 10) (j := 12) (by decide), bin_pow (i := 10) (j := 60) (by decide), bigL, e1, e2, e3, e4, bin_mul hm, z]
end K00

set_option maxHeartbeats 4000000
set_option exponentiation.threshold 20000
namespace K00
open PySem Mini L2
def dropN : ISs → Nat → ISs
  | ss, 0 => ss
  | .cons _ ss, n + 1 => dropN ss n
  | .nil, _ + 1 => .nil
def takeN : ISs → Nat → ISs
  | _, 0 => .nil
  | .cons s ss, n + 1 => .cons s (takeN ss n)
  | .nil, _ + 1 => .nil
theorem den_cut {C : Orc} : ∀ (n : Nat) (b : ISs) {ρ ρ1 : Slots} {μ μ1 : Mem}, denSs C (takeN b n) ρ μ = .ok (.next ρ1) μ1 → denSs C b ρ μ = denSs C (dropN b n) ρ1 μ1
  | 0, b, _, _, _, _, h => by
    have e : takeN b 0 = .nil := by cases b <;> rfl
    have e2 : dropN b 0 = b := by cases b <;> rfl
    rw [e] at h
    simp only [denSs] at h
    cases h
    rw [e2]
  | n + 1, .nil, _, _, _, _, h => by
    simp only [takeN, denSs] at h
    cases h
    rfl
  | n + 1, .cons s ss, ρ, ρ1, μ, μ1, h => by
    have h : denSs C (.cons s (takeN ss n)) ρ μ = _ := h
    show denSs C (.cons s ss) ρ μ = denSs C (dropN ss n) ρ1 μ1
    simp only [denSs] at h ⊢
    cases q : denS C s ρ μ with
    | bad => rw [q] at h; cases h
    | exc c μ2 => rw [q] at h; cases h
    | ok f μ2 =>
      rw [q] at h
      cases f with
      | next ρ2 => exact den_cut n ss h
      | ret u => cases h
      | brk u => cases h
      | cont u => cases h
/-- the law's names behind the loop -/
abbrev sl (s l : U) (t o : Option U) : Slots := [some s, some (.ref 0), some l, t, none, none, none, none, none, o, none, none, none]
abbrev lB : ISs := (.cons (.set (.name 9) (.call 22 (.cons (.var 1) .nil))) (.cons (.ite (.or (.not (.call 24 (.cons (.var 9) (.cons (.var 2) .nil)))) (.or (.not (.call 24 (.cons (.var 2) (.cons (.var 9) .nil)))) (.not (.call 24 (.cons (.var 9) (.cons (.var 9) .nil)))))) (.cons (.ret (.bl false)) .nil) .nil) (.cons (.set (.name 2) (.var 9)) .nil)))
section
theorem law_loop (k : Nat) (s : U) : ∀ (xs : List U) (p : Int × Int) (a b : Int) (t o : Option U), P p → CupOk a b → ∃ p' a' b' t' o', forLoop (fun ρ μ => denSs (orc Ds (k + 6)) lB ρ μ) (fun u μ ρ => setT (.name 3) u μ ρ) xs (sl s (pr p) t o) (M1 a b) = .ok (.next (sl s (pr p') t' o')) (M1 a' b') ∧ P p' ∧ CupOk a' b'
  | [], p, a, b, t, o, hp, hc => ⟨p, a, b, t, o, rfl, hp, hc⟩
  | x :: xs, p, a, b, t, o, hp, hc => by
    obtain ⟨q, a1, b1, e1, hq, c1⟩ := portion_ (k + 2) a b hc
    obtain ⟨p', a', b', t', o', e2, r⟩ := law_loop k s xs q a1 b1 (some x) (some (pr q)) hq c1
    refine ⟨p', a', b', t', o', ?_, r⟩
    have r1 := right k a1 b1 q p hq hp
    have r2 := right k a1 b1 p q hp hq
    have r3 := right k a1 b1 q q hq hq
    have body : denSs (orc Ds (k + 6)) lB (sl s (pr p) (some x) o) (M1 a b) = .ok (.next (sl s (pr q) (some x) (some (pr q)))) (M1 a1 b1) := by
      simp only [pr] at e1 r1 r2 r3 ⊢
      simp [bind_ok, truR_bl, denSs, denS, denE, denEs, denTs, denI, setT, Mini.stored, e1, r1, r2, r3]
    unfold forLoop
    show (match denSs (orc Ds (k + 6)) lB (sl s (pr p) (some x) o) (M1 a b) with
      | .ok (.next ρ2) μ1 => forLoop (fun ρ μ => denSs (orc Ds (k + 6)) lB ρ μ) (fun u μ ρ => setT (.name 3) u μ ρ) xs ρ2 μ1
      | .ok (.cont ρ2) μ1 => forLoop (fun ρ μ => denSs (orc Ds (k + 6)) lB ρ μ) (fun u μ ρ => setT (.name 3) u μ ρ) xs ρ2 μ1
      | .ok (.brk ρ2) μ1 => .ok (.next ρ2) μ1
      | .ok (.ret u) μ1 => .ok (.ret u) μ1
      | .exc c μ1 => .exc c μ1
      | .bad => .bad) = _
    rw [body]
    exact e2
end
abbrev tl (x y : Int) : U := .tup [.int x, .int y]
def toldU : List U := [tl (-3) 2, tl 0 1, tl 1 1, tl 5 6, tl (-1) 6, tl (G * G) 1, tl (-1) 2, .bl false, .bl true]
def badU : List U := [tl (G + 1) 1, tl (-G - 1) 1, tl 1 (G + 1), tl 2 4, tl 0 2, tl 1 0, tl 1 (-2), .lst [.int 1, .int 2], .tup [.int 1], .tup [.int 1, .int 2, .int 3], .tup [.bl true, .int 2], .tup [.int 1, .bl true], .non, .int 1, .str "1/2", .tup [.tup [.int 1], .int 2]]
def oddU : List U := [tl 1 2, tl 0 1, tl G 1, tl 1 G] ++ badU
abbrev s2 (s l : U) (t o : Option U) (bad words : Option U) : Slots := [some s, some (.ref 0), some l, t, some (.int G), some (.lst toldU), some (.lst oddU), none, none, o, bad, words, none]
theorem mid (s l : U) (t o : Option U) (a b : Int) : denSs (orc Ds 20) (takeN (dropN d25.body 3) 7) (sl s l t o) (M1 a b) = .ok (.next (s2 s l t o none none)) (M1 a b) := by kernel_rfl
theorem last (s l : U) (t o : Option U) (a b : Int) : ∀ (i : Nat) (u : U), badU[i]? = some u → denSs (orc Ds 20) (dropN d25.body 11) (s2 s l t o (some u) (some (.lst []))) (M1 a b) = .ok (.ret (.bl true)) (M1 a b)
  | 0, _, h => by cases h; kernel_rfl
  | 1, _, h => by cases h; kernel_rfl
  | 2, _, h => by cases h; kernel_rfl
  | 3, _, h => by cases h; kernel_rfl
  | 4, _, h => by cases h; kernel_rfl
  | 5, _, h => by cases h; kernel_rfl
  | 6, _, h => by cases h; kernel_rfl
  | 7, _, h => by cases h; kernel_rfl
  | 8, _, h => by cases h; kernel_rfl
  | 9, _, h => by cases h; kernel_rfl
  | 10, _, h => by cases h; kernel_rfl
  | 11, _, h => by cases h; kernel_rfl
  | 12, _, h => by cases h; kernel_rfl
  | 13, _, h => by cases h; kernel_rfl
  | 14, _, h => by cases h; kernel_rfl
  | 15, _, h => by cases h; kernel_rfl
  | i + 16, _, h => by simp [badU] at h
theorem plain : ∀ ns : List Int, ns.length ≤ 63 → (∀ z ∈ ns, Builtin.Int.intBits z ≤ 1048576) → ∃ μ, callD sg.Ds (20 + 1) 25 [.rol (ns.map U.int)] [] = .ok (.bl true) μ := by
  intro ns hl _
  obtain ⟨a, b, e1, c1⟩ := cup_ 19 ns hl
  obtain ⟨p, a2, b2, e2, hp, c2⟩ := portion_ 16 a b c1
  obtain ⟨p', a3, b3, t', o', e3, hp', c3⟩ := law_loop 14 (.rol (ns.map U.int)) (rngL 0 10) p a2 b2 none none hp c2
  obtain ⟨i, u, a4, b4, hi, e4, c4⟩ := some_ 18 a3 b3 badU c3 (by decide) (by decide)
  refine ⟨M1 a4 b4, ?_⟩
  show callD Ds (20 + 1) 25 [.rol (ns.map U.int)] [] = _
  rw [call_at (d := d25) rfl]
  have w1 : denS (orc Ds 20) (.set (.name 1) (.call 14 (.cons (.var 0) .nil))) (startU d25.N [.rol (ns.map U.int)]) [] = .ok (.next [some (.rol (ns.map U.int)), some (.ref 0), none, none, none, none, none, none, none, none, none, none, none]) (M1 a b) := by
    simp only [denS, denE, denEs, startU, d25, List.map_cons, List.map_nil, List.length_cons, List.length_nil, List.getElem?_cons_zero, bind_ok, List.cons_append, List.nil_append, e1]
    rfl
  have w2 : denS (orc Ds 20) (.set (.name 2) (.call 22 (.cons (.var 1) .nil))) [some (.rol (ns.map U.int)), some (.ref 0), none, none, none, none, none, none, none, none, none, none, none] (M1 a b) = .ok (.next (sl (.rol (ns.map U.int)) (pr p) none none)) (M1 a2 b2) := by
    simp only [denS, denE, denEs, List.getElem?_cons_succ, List.getElem?_cons_zero, bind_ok, e2]
    rfl
  have w3 := (for_at (t := .name 3) (rng1_at (C := orc Ds 20) (n := 10) (ρ := sl (.rol (ns.map U.int)) (pr p) none none) (μ := M1 a2 b2) (by decide))).trans e3
  have w4 : denS (orc Ds 20) (.set (.tup (.cons (.name 10) (.cons (.name 11) .nil))) (.tup (.cons (.call 16 (.cons (.var 1) (.cons (.slc (.var 6) (.cons (.int 4) .nil) .nil) .nil))) (.cons (.lst false .nil) .nil)))) (s2 (.rol (ns.map U.int)) (pr p') t' o' none none) (M1 a3 b3) = .ok (.next (s2 (.rol (ns.map U.int)) (pr p') t' o' (some u) (some (.lst [])))) (M1 a4 b4) := by
    have z : slcD (.lst oddU) (some 4) none (M1 a3 b3) = .ok (.lst badU) (M1 a3 b3) := by kernel_rfl
    simp only [denS, denE, denEs, List.getElem?_cons_succ, List.getElem?_cons_zero, bind_ok, optI, z, e4]
    rfl
  have f1 := seq_next (ss := dropN d25.body 1) w1
  have f2 := seq_next (ss := dropN d25.body 2) w2
  have f3 := seq_next (ss := dropN d25.body 3) w3
  have f4 := den_cut 7 (dropN d25.body 3) (mid (.rol (ns.map U.int)) (pr p') t' o' a3 b3)
  have f5 := seq_next (ss := dropN d25.body 11) w4
  have f6 := last (.rol (ns.map U.int)) (pr p') t' o' a4 b4 i u hi
  have all : denSs (orc Ds 20) d25.body (startU d25.N [.rol (ns.map U.int)]) [] = .ok (.ret (.bl true)) (M1 a4 b4) := f1.trans (f2.trans (f3.trans (f4.trans (f5.trans f6))))
  show ended (denSs (orc Ds 20) d25.body (startU d25.N [.rol (ns.map U.int)]) []) = _
  rw [all]
  rfl
end K00

set_option maxHeartbeats 0
namespace K00
open PySem PySem.Spec PyProof.Rows L2 LamX Mini
theorem c0 : Rw.chk sg ⟨.std d0, top 7, false⟩ = true := by decide +kernel
theorem c1 : Rw.chk sg ⟨.std d1, top 8, false⟩ = true := by decide +kernel
theorem c2 : Rw.chk sg ⟨.std d2, top 9, false⟩ = true := by decide +kernel
theorem c3 : Rw.chk sg ⟨.std d3, top 12, false⟩ = true := by decide +kernel
theorem c4 : Rw.chk sg ⟨.std d4, top 13, false⟩ = true := by decide +kernel
theorem c5 : Rw.chk sg ⟨.std d5, top 14, false⟩ = true := by decide +kernel
theorem c6 : Rw.chk sg ⟨.std d6, top 15, false⟩ = true := by decide +kernel
theorem c7 : Rw.chk sg ⟨.std d7, top 16, false⟩ = true := by decide +kernel
theorem c8 : Rw.chk sg ⟨.std d8, top 17, false⟩ = true := by decide +kernel
theorem c9 : Rw.chk sg ⟨.std d9, top 18, false⟩ = true := by decide +kernel
theorem c10 : Rw.chk sg ⟨.std d10, top 19, false⟩ = true := by decide +kernel
theorem c11 : Rw.chk sg ⟨.std d11, top 20, false⟩ = true := by decide +kernel
theorem c12 : Rw.chk sg ⟨.std d12, top 21, false⟩ = true := by decide +kernel
theorem c13 : Rw.chk sg ⟨.std d13, top 22, false⟩ = true := by decide +kernel
theorem c14 : Rw.chk sg ⟨.std d14, top 24, false⟩ = true := by decide +kernel
theorem c15 : Rw.chk sg ⟨.std d15, top 25, false⟩ = true := by decide +kernel
theorem c16 : Rw.chk sg ⟨.std d16, top 26, false⟩ = true := by decide +kernel
theorem c17 : Rw.chk sg ⟨.std d17, top 27, false⟩ = true := by decide +kernel
theorem c18 : Rw.chk sg ⟨.std d18, top 28, false⟩ = true := by decide +kernel
theorem c19 : Rw.chk sg ⟨.std d19, top 29, false⟩ = true := by decide +kernel
theorem c20 : Rw.chk sg ⟨.std d20, top 30, false⟩ = true := by decide +kernel
theorem c21 : Rw.chk sg ⟨.std d21, top 31, false⟩ = true := by decide +kernel
theorem c22 : Rw.chk sg ⟨.std d22, top 32, false⟩ = true := by decide +kernel
theorem c23 : Rw.chk sg ⟨.err d23, top 33, false⟩ = true := by decide +kernel
theorem c24 : Rw.chk sg ⟨.std d24, top 34, true⟩ = true := by decide +kernel
theorem c25 : Rw.chk sg ⟨.std d25, top 35, true⟩ = true := by decide +kernel
theorem chk : rows.all (Rw.chk sg) = true := by
  simp only [rows, List.all_cons, List.all_nil, c0, c1, c2, c3, c4, c5, c6, c7, c8, c9, c10, c11, c12, c13, c14, c15, c16, c17, c18, c19, c20, c21, c22, c23, c24, c25, Bool.and_self]
end K00

set_option maxHeartbeats 0
namespace K00
open PySem PySem.Spec PyProof.Rows L2 LamX Mini
theorem b0 : (⟨.std d0, top 7, false⟩ : Rw).bnd := fun _ _ _ _ _ _ us hl => match us, hl with | [_, _, _], _ => rfl
theorem b1 : (⟨.std d1, top 8, false⟩ : Rw).bnd := fun _ _ _ _ _ _ us hl => match us, hl with | [_, _, _], _ => rfl
theorem b2 : (⟨.std d2, top 9, false⟩ : Rw).bnd := fun _ _ _ _ _ _ us hl => match us, hl with | [_, _, _], _ => rfl
theorem b3 : (⟨.std d3, top 12, false⟩ : Rw).bnd := fun _ _ _ _ _ _ us hl => match us, hl with | [_], _ => rfl
theorem b4 : (⟨.std d4, top 13, false⟩ : Rw).bnd := fun _ _ _ _ _ _ us hl => match us, hl with | [_], _ => rfl
theorem b5 : (⟨.std d5, top 14, false⟩ : Rw).bnd := fun _ _ _ _ _ _ us hl => match us, hl with | [_, _], _ => rfl
theorem b6 : (⟨.std d6, top 15, false⟩ : Rw).bnd := fun _ _ _ _ _ _ us hl => match us, hl with | [_, _], _ => rfl
theorem b7 : (⟨.std d7, top 16, false⟩ : Rw).bnd := fun _ _ _ _ _ _ us hl => match us, hl with | [_, _], _ => rfl
theorem b8 : (⟨.std d8, top 17, false⟩ : Rw).bnd := fun _ _ _ _ _ _ us hl => match us, hl with | [_, _], _ => rfl
theorem b9 : (⟨.std d9, top 18, false⟩ : Rw).bnd := fun _ _ _ _ _ _ us hl => match us, hl with | [_, _], _ => rfl
theorem b10 : (⟨.std d10, top 19, false⟩ : Rw).bnd := fun _ _ _ _ _ _ us hl => match us, hl with | [_, _], _ => rfl
theorem b11 : (⟨.std d11, top 20, false⟩ : Rw).bnd := fun _ _ _ _ _ _ us hl => match us, hl with | [_, _], _ => rfl
theorem b12 : (⟨.std d12, top 21, false⟩ : Rw).bnd := fun _ _ _ _ _ _ us hl => match us, hl with | [_, _], _ => rfl
theorem b13 : (⟨.std d13, top 22, false⟩ : Rw).bnd := fun _ _ _ _ _ _ us hl => match us, hl with | [_, _], _ => rfl
theorem b14 : (⟨.std d14, top 24, false⟩ : Rw).bnd := fun _ _ _ _ _ _ us hl => match us, hl with | [_], _ => rfl
theorem b15 : (⟨.std d15, top 25, false⟩ : Rw).bnd := fun _ _ _ _ _ _ us hl => match us, hl with | [_, _], _ => rfl
theorem b16 : (⟨.std d16, top 26, false⟩ : Rw).bnd := fun _ _ _ _ _ _ us hl => match us, hl with | [_, _], _ => rfl
theorem b17 : (⟨.std d17, top 27, false⟩ : Rw).bnd := fun _ _ _ _ _ _ us hl => match us, hl with | [_], _ => rfl
theorem b18 : (⟨.std d18, top 28, false⟩ : Rw).bnd := fun _ _ _ _ _ _ us hl => match us, hl with | [_, _], _ => rfl
theorem b19 : (⟨.std d19, top 29, false⟩ : Rw).bnd := fun _ _ _ _ _ _ us hl => match us, hl with | [_, _], _ => rfl
theorem b20 : (⟨.std d20, top 30, false⟩ : Rw).bnd := fun _ _ _ _ _ _ us hl => match us, hl with | [_, _], _ => rfl
theorem b21 : (⟨.std d21, top 31, false⟩ : Rw).bnd := fun _ _ _ _ _ _ us hl => match us, hl with | [_, _], _ => rfl
theorem b22 : (⟨.std d22, top 32, false⟩ : Rw).bnd := fun _ _ _ _ _ _ us hl => match us, hl with | [_], _ => rfl
theorem b23 : (⟨.err d23, top 33, false⟩ : Rw).bnd := fun _ _ _ _ _ _ us hl => match us, hl with | [_], _ => rfl
theorem b24 : (⟨.std d24, top 34, false⟩ : Rw).bnd := fun _ _ _ _ _ _ us hl => match us, hl with | [_, _], _ => rfl
theorem b25 : (⟨.std d25, top 35, false⟩ : Rw).bnd := fun _ _ _ _ _ _ us hl => match us, hl with | [_], _ => rfl
theorem bnds : bndL rows := ⟨b0, b1, b2, b3, b4, b5, b6, b7, b8, b9, b10, b11, b12, b13, b14, b15, b16, b17, b18, b19, b20, b21, b22, b23, b24, b25, trivial⟩
end K00

set_option maxHeartbeats 0
namespace K00
open PySem PySem.Spec PyProof.Rows L2 LamX Mini
def ln0 : List PySem.Str := ["QuarryError", "InvalidNumber", "InvalidPortion", "NotFound", "is_whole", "need_whole", "is_tuple_of", "GREAT", "is_portion", "need_portion", "lowest", "plus", "times", "lead", "portion", "portion_sum", "portion_product", "portion_by", "is_higher", "_law_cup", "_law_roll", "_law_some", "_law_sort", "_law_like", "_law_divisor", "_law_plain", "_law_great", "_law_portion", "_law_error", "_law_pair_right"]
abbrev lns : List PySem.Str := ln0
abbrev R : PySem.W.OpenRow := PySem.W.OpenLaw.row PySem.Challenge.rw_latticequarry_k00_whole_portions
abbrev hk : PySem.W.Hook := He.hookX 4 (faL sg rows) (fnL rows) [] (tfL rows) (exL sg rows)
def ob (s : PySem.W.SharedT) : He.AlX := He.obsX 4 (faL sg rows) (fnL rows) [] (tfL rows) (exL sg rows) (HandSHeadRun.getT s)
theorem ob_eq (s : PySem.W.SharedT) : ob s = hk.obs s.abs := He.obsX_eq (HandSHeadRun.getT_eq s)
theorem run (w : World) : HandSHeadRun.RunEqI R (PySem.W.view R.prog [0, 35]) hk ob 6000 lns w := by
  unfold HandSHeadRun.RunEqI
  kernel_rfl
end K00

open PySem PySem.W PySem.Calls PyProof.Rows
theorem PySem.Challenge.cw_latticequarry_k00_whole_portions_holds : PySem.Challenge.rw_latticequarry_k00_whole_portions.Holds := by
  w_on; o_law
  refine HandSHeadRun.head_imp (r := OpenLaw.row PySem.Challenge.rw_latticequarry_k00_whole_portions) (q := view (OpenLaw.row PySem.Challenge.rw_latticequarry_k00_whole_portions).prog [0, 35]) (H := K00.hk) (ob := K00.ob) (M := 6000) (loose := K00.lns) (d := HandSHeadRun.topDef (OpenLaw.row PySem.Challenge.rw_latticequarry_k00_whole_portions).prog 35) (kwd := []) K00.ob_eq
    K00.run (by kernel_rfl) (by kernel_rfl) (by kernel_rfl) (by rfl) (by first | assumption | decide +kernel) (by decide +kernel) ⟨rfl, rfl, rfl, rfl, rfl, by decide +kernel⟩ ?hw ?hc
  case hw => w_witness2
  case hc =>
    refine LamX.walk_ofTsE (l := PySem.Challenge.rw_latticequarry_k00_whole_portions) (n := 63) (k := 63) (x := "script") (CX := fun w => L2N.CX (PySem.Challenge.rw_latticequarry_k00_whole_portions).prog w) rfl (by decide) (by kernel_rfl) ⟨rfl, by decide, by decide⟩ ?F (fun w H s e s' z => by
      obtain ⟨_, _, _, _, _, _, _, _, _, _, _, _, f⟩ := z
      exact f)
    intro w mg fa h Y G hmg0
    obtain ⟨K, KX, c⟩ := Y
    have hmg : mg ("law" : PySem.Str) = some (.ref fa) := by
      have e : (HandSHeadRun.topDef (OpenLaw.row PySem.Challenge.rw_latticequarry_k00_whole_portions).prog 35).name = ("law" : PySem.Str) := by kernel_rfl
      rw [← e]
      exact hmg0
    have ez : fa = He.ga K "law" := by
      have z := hmg.symm.trans (He.glo_ok KX G (He.SaysD.facts (He.SaysT.d c.t) (f := .glo "law") (List.mem_append_left _ (List.mem_map.mpr ⟨⟨.std K00.d25, K00.top 35, true⟩, by simp [K00.rows], rfl⟩))))
      cases z
      rfl
    rw [ez]
    exact ⟨K, KX, Mini.law_at (S := K00.sg) (rs := K00.rows) (k := 20) (j := 25) (d := K00.d25) rfl K00.chk K00.bnds c KX G rfl rfl rfl K00.plain⟩
