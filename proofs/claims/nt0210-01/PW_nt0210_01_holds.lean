import PyProof.Rows.All
import Wide.All
import OpenK.AllK
import Wide.FinOn
import PySem.Challenge.RW_nt0210_01
set_option Elab.async false

section
open PySem PySem.W PyProof.Rows
set_option maxRecDepth 100000
namespace Mine

inductive V where
  | none
  | bool (b : Bool)
  | int (i : Int)
  | str (s : Str)
  | tup (l : List V)
  | lst (l : List V)
  | inst (c : Addr) (ns : List Str) (vs : List V)
  | rng (a b : Int)
  | val (v : Value)

inductive D where
  | v (x : V)
  | m (i : Nat)

noncomputable abbrev Sto := List (List V)

inductive Out (α : Type) where
  | ok (a : α) (st : Sto)
  | exc (x : V) (st : Sto)
  | stuck

noncomputable def Out.bind {α β : Type} : Out α → (α → Sto → Out β) → Out β
  | .ok a st, f => f a st
  | .exc x st, _ => .exc x st
  | .stuck, _ => .stuck

inductive Fl where
  | next | brk | cont
  | ret (d : D)

noncomputable abbrev En := List (Str × D)

noncomputable def seteq (x y : Str) : Bool := x == y
noncomputable def setE (x : Str) (d : D) : En → En
  | [] => [(x, d)]
  | (y, e) :: r => if x == y then (y, d) :: r else (y, e) :: setE x d r

structure Cx where
  G : Str → Option Value
  mt : Pos → Bool
  meth : Addr → Str → Option Addr
  attr : Addr → Str → Bool
  able : Value → Bool

mutual
noncomputable def V.dat : V → Option PyData
  | .none => some .none
  | .bool b => some (.bool b)
  | .int i => some (.int i)
  | .str s => some (.str s)
  | .tup l => (V.dats l).map PyData.tuple
  | .lst l => (V.dats l).map PyData.list
  | .inst _ _ _ => Option.none
  | .rng _ _ => Option.none
  | .val _ => Option.none
noncomputable def V.dats : List V → Option (List PyData)
  | [] => some []
  | x :: xs => match x.dat, V.dats xs with
    | some d, some ds => some (d :: ds)
    | _, _ => Option.none
end

noncomputable def D.dat (st : Sto) : D → Option PyData
  | .v x => x.dat
  | .m i => match st[i]? with
    | some l => (V.dats l).map PyData.list
    | Option.none => Option.none

noncomputable def eqD (a b : D) (st : Sto) : Option Bool :=
  match a.dat st, b.dat st with
  | some x, some y => if SeqAt.shaped x && SeqAt.shaped y then some (PyData.eqv x y) else Option.none
  | _, _ => Option.none

noncomputable def cmp : CmpOp → D → D → Sto → Option Bool
  | .Lt, .v (.int a), .v (.int b), _ => some (decide (a < b))
  | .LtE, .v (.int a), .v (.int b), _ => some (decide (a ≤ b))
  | .Gt, .v (.int a), .v (.int b), _ => some (decide (b < a))
  | .GtE, .v (.int a), .v (.int b), _ => some (decide (b ≤ a))
  | .Eq, .v (.int a), .v (.int b), _ => some (a == b)
  | .NotEq, .v (.int a), .v (.int b), _ => some (a != b)
  | .Eq, a, b, st => eqD a b st
  | .NotEq, a, b, st => (eqD a b st).map not
  | _, _, _, _ => Option.none

noncomputable def b2i (b : Bool) : Int := if b then 1 else 0

noncomputable def V.num : V → Option Int
  | .int i => some i
  | .bool b => some (b2i b)
  | _ => Option.none

noncomputable def small (x : Int) : Bool := decide (x.natAbs.log2 < 9000)
noncomputable def mulOk (a b : Int) : Bool := (small a && small b) || decide (a.natAbs.log2 < 60)
noncomputable def dvOk (b : Int) : Bool := decide (b ≠ 0) && small b

noncomputable def binI : Operator → Int → Int → Option Int
  | .Add, a, b => some (a + b)
  | .Sub, a, b => some (a - b)
  | .Mult, a, b => if mulOk a b then some (a * b) else Option.none
  | .FloorDiv, a, b => if dvOk b then some (a.fdiv b) else Option.none
  | .Mod, a, b => if b = 0 then Option.none else some (a.fmod b)
  | .Pow, a, n => if 0 ≤ n ∧ (Builtin.Int.intBits a : Int) * n ≤ 2 ^ 27 then some (a ^ n.toNat) else Option.none
  | .LShift, a, n => if 0 ≤ n ∧ (Builtin.Int.intBits a : Int) + n ≤ 2 ^ 27 then some (a * 2 ^ n.toNat) else Option.none
  | .RShift, a, n => if 0 ≤ n then some (a.fdiv (2 ^ n.toNat)) else Option.none
  | .BitAnd, a, b => some (Builtin.bitAnd a b)
  | _, _, _ => Option.none

noncomputable def szOk (n : Nat) : Bool := decide (n ≤ 2 ^ 20)

noncomputable def binop (op : Operator) (a b : D) : Option V :=
  match a, b with
  | .v (.int x), .v (.int y) => (binI op x y).map V.int
  | .v (.bool x), .v (.bool y) => match op with
    | .Sub => some (.int (b2i x - b2i y))
    | _ => Option.none
  | .v (.lst x), .v (.lst y) => match op with
    | .Add => if szOk (x.length + y.length) then some (.lst (x ++ y)) else Option.none
    | _ => Option.none
  | .v (.tup x), .v (.tup y) => match op with
    | .Add => if szOk (x.length + y.length) then some (.tup (x ++ y)) else Option.none
    | _ => Option.none
  | _, _ => Option.none

noncomputable def truth : D → Option Bool
  | .v (.bool b) => some b
  | .v (.int i) => some (i != 0)
  | _ => Option.none

noncomputable def ofO {α : Type} (st : Sto) : Option α → Out α
  | some a => .ok a st
  | Option.none => .stuck

noncomputable def vals : List D → Option (List V)
  | [] => some []
  | .v x :: r => (vals r).map (x :: ·)
  | .m _ :: _ => Option.none

/-- an item by Python's index -/
noncomputable def itemAt (l : List V) (k : Int) : Option V :=
  if -(2 ^ 63) ≤ k ∧ k < 2 ^ 63 then (match seqIndex? k l.length with
    | some j => l[j]?
    | Option.none => Option.none) else Option.none

noncomputable def sub1 (o i : D) (st : Sto) : Option V :=
  match o, i with
  | .v (.tup l), .v (.int k) => itemAt l k
  | .v (.lst l), .v (.int k) => itemAt l k
  | .m j, .v (.int k) => match st[j]? with
    | some l => itemAt l k
    | Option.none => Option.none
  | _, _ => Option.none

noncomputable def evs (f : Expr → Sto → Out D) : List Expr → Sto → Out (List D)
  | [], st => .ok [] st
  | e :: es, st => (f e st).bind fun d st => (evs f es st).bind fun ds st => .ok (d :: ds) st

noncomputable def partI : Option Expr → Option (Option Nat)
  | Option.none => some Option.none
  | some (.Constant (.int i) _ _) => if 0 ≤ i then some (some i.toNat) else Option.none
  | _ => Option.none

noncomputable def cutL (l : List V) : Option Nat → Option Nat → Option (List V)
  | Option.none, some n => some (l.take n)
  | some n, Option.none => some (l.drop n)
  | _, _ => Option.none

noncomputable def listM (name : Str) (i : Nat) (ds : List D) (st : Sto) : Out D :=
  match st[i]? with
  | Option.none => .stuck
  | some l =>
    if name == Str.ofString "append" then (match ds with
      | [.v x] => if szOk l.length then .ok (.v .none) (st.set i (l ++ [x])) else .stuck
      | _ => .stuck)
    else if name == Str.ofString "pop" then (match ds with
      | [] => (match l.getLast? with
        | some x => .ok (.v x) (st.set i l.dropLast)
        | Option.none => .stuck)
      | [.v (.int 0)] => (match l with
        | x :: r => .ok (.v x) (st.set i r)
        | [] => .stuck)
      | _ => .stuck)
    else .stuck

noncomputable def isStar : Expr → Bool
  | .Starred _ _ => true
  | _ => false
noncomputable def isAttr : Expr → Bool
  | .Attribute _ _ _ => true
  | _ => false
noncomputable def isComp : Expr → Bool
  | .ListComp _ _ _ _ => true
  | .SetComp _ _ _ _ => true
  | .DictComp _ _ _ _ _ => true
  | _ => false
noncomputable def isDisp : Expr → Bool
  | .Set _ _ _ => true
  | _ => false

noncomputable def oneGen : List Comprehension → Option (Expr × Expr × List Expr)
  | [g] => if g.is_async == 0 then some (g.target, g.iter, g.ifs) else Option.none
  | _ => Option.none
noncomputable def isNm : Expr → Bool
  | .Name _ _ => true
  | _ => false
/-- `f()` with a plain name: as a base of an attribute it might be super() -/
noncomputable def isBare : Expr → Bool
  | .Call (.Name _ _) [] [] _ => true
  | _ => false
noncomputable def noStar (l : List Expr) : Bool := l.all fun e => !isStar e
noncomputable def noDisp (l : List Expr) : Bool := l.all fun e => !isDisp e
noncomputable def isVal : V → Bool
  | .val _ => true
  | _ => false

noncomputable def badName (x : Str) : Bool := x == Str.ofString "__debug__" || x == Str.ofString "__classdict__"

noncomputable def allInt : List V → Bool
  | [] => true
  | .int _ :: r => allInt r
  | _ :: _ => false

noncomputable def isLoc (sc : Scope) (x : Str) : Bool := sc.names.lookup x == some .local || sc.names.lookup x == some .cell || sc.names.lookup x == some .free

structure In where
  ex : Scope → En → Expr → Sto → Out D
  tt : Scope → En → Expr → Sto → Out Bool
  st : Scope → En → Stmt → Sto → Out (Fl × En)

noncomputable def chain (f : Expr → Sto → Out D) (a : D) : List CmpOp → List Expr → Sto → Out Bool
  | [op], [r], st => (f r st).bind fun b st => ofO st (cmp op a b st)
  | op :: ops, r :: rs, st => (f r st).bind fun b st => match cmp op a b st with
    | some true => chain f b ops rs st
    | some false => .ok false st
    | Option.none => .stuck
  | _, _, _ => .stuck

noncomputable def allT (f : Expr → Sto → Out Bool) : BoolOp → List Expr → Sto → Out Bool
  | .And, [], st => .ok true st
  | .Or, [], st => .ok false st
  | .And, e :: es, st => (f e st).bind fun b st => if b then allT f .And es st else .ok false st
  | .Or, e :: es, st => (f e st).bind fun b st => if b then .ok true st else allT f .Or es st

noncomputable def boolV (f : Expr → Sto → Out D) (op : BoolOp) : List Expr → Sto → Out D
  | [], _ => .stuck
  | [e], st => f e st
  | e :: es, st => (f e st).bind fun d st => match op, truth d with
    | .And, some false => .ok d st
    | .Or, some true => .ok d st
    | _, some _ => boolV f op es st
    | _, Option.none => .stuck

noncomputable def exs (f : En → Stmt → Sto → Out (Fl × En)) : List Stmt → En → Sto → Out (Fl × En)
  | [], ρ, st => .ok (.next, ρ) st
  | s :: r, ρ, st => (f ρ s st).bind fun p st => match p.1 with
    | .next => exs f r p.2 st
    | fl => .ok (fl, p.2) st

noncomputable def whileN (tst : En → Sto → Out Bool) (body : En → Sto → Out (Fl × En)) : Nat → En → Sto → Out (Fl × En)
  | 0, _, _ => .stuck
  | k + 1, ρ, st => (tst ρ st).bind fun b st => if b then
      (body ρ st).bind fun p st => match p.1 with
        | .next => whileN tst body k p.2 st
        | .cont => whileN tst body k p.2 st
        | .brk => .ok (.next, p.2) st
        | .ret d => .ok (.ret d, p.2) st
    else .ok (.next, ρ) st

noncomputable def forL (put : V → En → Option En) (body : En → Sto → Out (Fl × En)) : List V → En → Sto → Out (Fl × En)
  | [], ρ, st => .ok (.next, ρ) st
  | x :: r, ρ, st => match put x ρ with
    | Option.none => .stuck
    | some ρ₁ => (body ρ₁ st).bind fun p st => match p.1 with
      | .next => forL put body r p.2 st
      | .cont => forL put body r p.2 st
      | .brk => .ok (.next, p.2) st
      | .ret d => .ok (.ret d, p.2) st

/-- names of a tuple of names -/
noncomputable def namesOf : List Expr → Option (List Str)
  | [] => some []
  | .Name x _ :: r => (namesOf r).map (x :: ·)
  | _ :: _ => Option.none

noncomputable def distinct : List Str → Bool
  | [] => true
  | x :: r => !r.contains x && distinct r

noncomputable def putAll (sc : Scope) : List Str → List V → En → Option En
  | [], [], ρ => some ρ
  | x :: xs, v :: vs, ρ => if sc.names.lookup x == some .local then putAll sc xs vs (setE x (.v v) ρ) else Option.none
  | _, _, _ => Option.none

noncomputable def envS (sc : Scope) : Env := { scope := sc, locals := 0, globals := 0, cells := [] }

noncomputable def swOk (sc : Scope) (ts : List Expr) (k : Nat) (tp : Pos) (value : Expr) (xs : List Str) : Bool :=
  match swappedStores [.Tuple ts k tp] value (envS sc) with
  | .pure Option.none => true
  | .pure (some ys) => ys == xs
  | _ => false

noncomputable def LIM : Nat := 1000000000

noncomputable def rngL (a b : Int) : List V := (List.range (b - a).toNat).map fun (i : Nat) => V.int (a + (i : Int))

noncomputable def itemsOf : D → Option (List V)
  | .v (.lst l) => some l
  | .v (.tup l) => some l
  | .v (.rng a b) => if a.natAbs ≤ 2 ^ 20 ∧ b.natAbs ≤ 2 ^ 20 then some (rngL a b) else Option.none
  | _ => Option.none

noncomputable def putT (sc : Scope) (t : Expr) (x : V) (ρ : En) : Option En :=
  match t with
  | .Name n _ => putAll sc [n] [x] ρ
  | _ => Option.none

noncomputable def relab (scope sc : Scope) : Scope := relabel scope (envS sc)
noncomputable def compOk (scope sc : Scope) : Bool := scope.kind == .function && scope.names.all fun x => x.2 != .cell && (x.2 != .local || scope.names.lookup x.1 == some .local) &&
  (x.2 != .free || (scope.names.lookup x.1 == some .free && (sc.names.lookup x.1 == some .cell || sc.names.lookup x.1 == some .free)))

noncomputable def tests (f : En → Expr → Sto → Out Bool) (ifs : List Expr) (ρ : En) (st : Sto) : Out Bool :=
  match ifs with
  | [] => .ok true st
  | [c] => f ρ c st
  | _ => .stuck
noncomputable def freeOf (sc : Scope) (ρ : En) : En := ρ.filter fun x => sc.names.lookup x.1 == some .cell || sc.names.lookup x.1 == some .free

noncomputable def compL (put : V → En → Option En) (test : En → Sto → Out Bool) (elt : En → Sto → Out D) : List V → En → List V → Sto → Out (List V)
  | [], _, acc, st => .ok acc st
  | x :: r, ρ, acc, st => match put x ρ with
    | Option.none => .stuck
    | some ρ₁ => (test ρ₁ st).bind fun b st => if b then (elt ρ₁ st).bind fun d st => match d with
        | .v y => if szOk acc.length then compL put test elt r ρ₁ (acc ++ [y]) st else .stuck
        | .m _ => .stuck
      else compL put test elt r ρ₁ acc st

/-- one layer -/
noncomputable def step (C : Cx) (Φ : D → List D → Sto → Out D) (I : In) : In where
  ex := fun sc ρ e st => match e with
    | .Constant (.int i) _ _ => .ok (.v (.int i)) st
    | .Constant (.bool b) _ _ => .ok (.v (.bool b)) st
    | .Constant (.str s) _ _ => .ok (.v (.str s)) st
    | .Constant .none _ _ => .ok (.v .none) st
    | .Name x _ => if badName x then .stuck else if isLoc sc x then ofO st (ρ.lookup x) else if sc.names.lookup x == some .globalImplicit then ofO st ((C.G x).map fun v => D.v (.val v)) else .stuck
    | .BinOp l op r _ => (I.ex sc ρ l st).bind fun a st => (I.ex sc ρ r st).bind fun b st => ofO st ((binop op a b).map D.v)
    | .UnaryOp .Not x _ => (I.ex sc ρ x st).bind fun a st => ofO st ((truth a).map fun b => D.v (.bool (!b)))
    | .IfExp c a b _ => (I.tt sc ρ c st).bind fun t st => if t then I.ex sc ρ a st else I.ex sc ρ b st
    | .BoolOp op vs _ => boolV (I.ex sc ρ) op vs st
    | .Compare l ops cs _ => if noDisp cs && ops.length == cs.length then (I.ex sc ρ l st).bind fun a st => (chain (I.ex sc ρ) a ops cs st).bind fun b st => .ok (.v (.bool b)) st else .stuck
    | .Tuple es _ _ => if noStar es && szOk es.length then (evs (I.ex sc ρ) es st).bind fun ds st => ofO st ((vals ds).map fun l => D.v (.tup l)) else .stuck
    | .List es pos => if noStar es && szOk es.length then (evs (I.ex sc ρ) es st).bind fun ds st => match vals ds with
      | some l => if C.mt pos then .ok (.m st.length) (st ++ [l]) else .ok (.v (.lst l)) st
      | Option.none => .stuck
      else .stuck
    | .Subscript o (.Slice lo hi Option.none _) _ => (I.ex sc ρ o st).bind fun d st => match d, partI lo, partI hi with
      | .v (.lst l), some a, some b => if szOk l.length then ofO st ((cutL l a b).map fun m => D.v (.lst m)) else .stuck
      | _, _, _ => .stuck
    | .Subscript o i _ => if isStar i then .stuck else (I.ex sc ρ o st).bind fun d st => (I.ex sc ρ i st).bind fun k st => ofO st ((sub1 d k st).map D.v)
    | .Attribute o a _ => if isBare o then .stuck else (I.ex sc ρ o st).bind fun d st => match d with
      | .v (.inst c ns vs) => if C.attr c a then (match (ns.zip vs).lookup a with
        | some x => if isVal x then .stuck else .ok (.v x) st
        | Option.none => .stuck) else .stuck
      | _ => .stuck
    | .Call (.Attribute o name ap) args [] pos => if !isBare o && noStar args && decide (args.length < 20) && ap.endLine == pos.line then (I.ex sc ρ o st).bind fun d st => match d with
        | .m i => (evs (I.ex sc ρ) args st).bind fun ds st => listM name i ds st
        | .v (.inst c ns _) => (match C.meth c name with
          | some f => if ns.contains name then .stuck else (evs (I.ex sc ρ) args st).bind fun ds st => Φ (.v (.val (.ref f))) (d :: ds) st
          | Option.none => .stuck)
        | _ => .stuck
      else .stuck
    | .Call f args [] _ => if isAttr f || !noStar args then .stuck else (I.ex sc ρ f st).bind fun d st => match d with
        | .v (.val v) => if C.able v then (evs (I.ex sc ρ) args st).bind fun ds st => Φ d ds st else .stuck
        | _ => .stuck
    | .ListComp elt gens scope pos => (match oneGen gens with
      | some (target, iter, ifs) => if (compOk scope sc && !isDisp iter) && isNm target then (I.ex sc ρ iter st).bind fun d st => match itemsOf d with
        | some l => (compL (putT (relab scope sc) target) (tests (I.tt (relab scope sc)) ifs) (fun ρ st => I.ex (relab scope sc) ρ elt st) l (freeOf (relab scope sc) ρ) [] st).bind fun acc st =>
            if C.mt pos then .ok (.m st.length) (st ++ [acc]) else .ok (.v (.lst acc)) st
        | Option.none => .stuck
        else .stuck
      | Option.none => .stuck)
    | _ => .stuck
  tt := fun sc ρ e st => match e with
    | .UnaryOp .Not x _ => (I.tt sc ρ x st).bind fun b st => .ok (!b) st
    | .BoolOp op vs _ => allT (I.tt sc ρ) op vs st
    | .IfExp c a b _ => (I.tt sc ρ c st).bind fun t st => if t then I.tt sc ρ a st else I.tt sc ρ b st
    | .Compare l ops cs _ => if noDisp cs && ops.length == cs.length then (I.ex sc ρ l st).bind fun a st => chain (I.ex sc ρ) a ops cs st else .stuck
    | e => (I.ex sc ρ e st).bind fun d st => ofO st (truth d)
  st := fun sc ρ s st => match s with
    | .Pass _ => .ok (.next, ρ) st
    | .Break _ => .ok (.brk, ρ) st
    | .Continue _ => .ok (.cont, ρ) st
    | .Return (some e) _ => (I.ex sc ρ e st).bind fun d st => .ok (.ret d, ρ) st
    | .Expr e _ => if isComp e then .stuck else (I.ex sc ρ e st).bind fun _ st => .ok (.next, ρ) st
    | .Assign [.Name x _] e _ => if isComp e then .stuck else (I.ex sc ρ e st).bind fun d st => if sc.names.lookup x == some .local then .ok (.next, setE x d ρ) st else .stuck
    | .Assign [.Tuple ts k tp] e _ => if isComp e then .stuck else match namesOf ts with
      | some xs => if distinct xs && swOk sc ts k tp e xs then (I.ex sc ρ e st).bind fun d st => match d with
          | .v (.tup l) => (match putAll sc xs l ρ with
            | some ρ' => .ok (.next, ρ') st
            | Option.none => .stuck)
          | _ => .stuck
        else .stuck
      | Option.none => .stuck
    | .Assign [.Subscript o i _] e _ => if isComp e || isStar i then .stuck else (I.ex sc ρ e st).bind fun d st => (I.ex sc ρ o st).bind fun a st => (I.ex sc ρ i st).bind fun k st => match d, a, k with
      | .v (.int x), .m j, .v (.int z) => (match st[j]? with
        | some l => if allInt l = true ∧ 0 ≤ z ∧ z < l.length ∧ z < 2 ^ 63 then .ok (.next, ρ) (st.set j (l.set z.toNat (.int x))) else .stuck
        | Option.none => .stuck)
      | _, _, _ => .stuck
    | .If c a b _ => (I.tt sc ρ c st).bind fun t st => if t then exs (I.st sc) a ρ st else exs (I.st sc) b ρ st
    | .While c b [] _ => whileN (fun ρ st => I.tt sc ρ c st) (fun ρ st => exs (I.st sc) b ρ st) LIM ρ st
    | .For t it b [] _ => if isDisp it then .stuck else (I.ex sc ρ it st).bind fun d st => match itemsOf d with
      | some l => forL (putT sc t) (fun ρ st => exs (I.st sc) b ρ st) l ρ st
      | Option.none => .stuck
    | _ => .stuck

noncomputable def none0 : In := ⟨fun _ _ _ _ => .stuck, fun _ _ _ _ => .stuck, fun _ _ _ _ => .stuck⟩
noncomputable def X (C : Cx) (Φ : D → List D → Sto → Out D) : Nat → In
  | 0 => none0
  | n + 1 => step C Φ (X C Φ n)

structure FnI where
  ps : List Str
  sc : Scope
  body : List Stmt

structure Tab where
  fn : Addr → Option FnI
  cls : Addr → Option (List Str)

noncomputable def bin1 (T : Tab) (v : Value) (ds : List D) (st : Sto) : Out D :=
  match v, ds with
  | .builtin "abs", [.v (.int i)] => .ok (.v (.int (if i < 0 then -i else i))) st
  | .builtin "min", [.v (.int a), .v (.int b)] => .ok (.v (.int (if b < a then b else a))) st
  | .builtin "isinstance", [.v x, .v (.val (.type "int"))] => (match x with
    | .int _ => .ok (.v (.bool true)) st
    | .bool _ => .ok (.v (.bool true)) st
    | .inst c' _ _ => if (T.cls c').isSome then .ok (.v (.bool false)) st else .stuck
    | _ => .stuck)
  | .builtin "isinstance", [.v x, .v (.val (.type "bool"))] => (match x with
    | .int _ => .ok (.v (.bool false)) st
    | .bool _ => .ok (.v (.bool true)) st
    | .inst c' _ _ => if (T.cls c').isSome then .ok (.v (.bool false)) st else .stuck
    | _ => .stuck)
  | .builtin "isinstance", [.v x, .v (.val (.ref c))] => (match x with
    | .int _ => if (T.cls c).isSome then .ok (.v (.bool false)) st else .stuck
    | .inst c' _ _ => if (T.cls c).isSome && (T.cls c').isSome then .ok (.v (.bool (c == c'))) st else .stuck
    | _ => .stuck)
  | .type "range", [.v (.int b)] => if b.natAbs < 2 ^ 20 then .ok (.v (.rng 0 b)) st else .stuck
  | .type "range", [.v (.int a), .v (.int b)] => if a.natAbs < 2 ^ 20 ∧ b.natAbs < 2 ^ 20 then .ok (.v (.rng a b)) st else .stuck
  | _, _ => .stuck

noncomputable def retn (n : Nat) (d : D) (st : Sto) : Out D :=
  match d with
  | .v x => .ok (.v x) (st.take n)
  | .m i => if i < n then .ok (.m i) (st.take n) else .ok (.m i) st

noncomputable def runBody (C : Cx) (Φ : D → List D → Sto → Out D) (f : FnI) (ds : List D) (st : Sto) : Out D :=
  if f.ps.length = ds.length then
    (exs ((X C Φ 64).st f.sc) f.body (f.ps.zip ds) st).bind fun p st' => match p.1 with
      | .next => retn st.length (.v .none) st'
      | .ret d => retn st.length d st'
      | _ => .stuck
  else .stuck

noncomputable def callS (C : Cx) (T : Tab) (Φ : D → List D → Sto → Out D) (d : D) (ds : List D) (st : Sto) : Out D :=
  match d with
  | .v (.val (.ref a)) => (match T.fn a with
    | some f => runBody C Φ f ds st
    | Option.none => (match T.cls a with
      | some ns => if ns.length = ds.length then ofO st ((vals ds).map fun l => D.v (.inst a ns l)) else .stuck
      | Option.none => .stuck))
  | .v (.val v) => bin1 T v ds st
  | _ => .stuck

noncomputable def R (C : Cx) (T : Tab) : Nat → D → List D → Sto → Out D
  | 0 => fun _ _ _ => .stuck
  | n + 1 => callS C T (R C T n)

end Mine

end

section
open PySem PySem.W PySem.Spec PySem.Calls PyProof.Rows
set_option maxRecDepth 100000
namespace Mine

/-- the entries of an instance's dict bear these names -/
noncomputable def Keyed : List DictEntry → List Str → Prop
  | [], [] => True
  | e :: es, n :: ns => (∃ t, e.key = .str n t) ∧ Keyed es ns
  | _, _ => False

mutual
noncomputable def Rep (B : Addr → Prop) (h : Heap) : Value → V → Prop
  | v, .none => v = .none
  | v, .bool b => v = .bool b
  | v, .int i => ∃ t, v = .int i t
  | v, .str s => ∃ t, v = .str s t
  | v, .tup l => ∃ a vs n, v = .ref a ∧ ¬ B a ∧ h.get? a = some ({ cls := .type "tuple", data := .seq (vs.toArray) n } : Obj) ∧ Reps B h vs l
  | v, .lst l => ∃ a o vs n, v = .ref a ∧ ¬ B a ∧ h.get? a = some o ∧ o.cls = .type "list" ∧ o.data = .seq (vs.toArray) n ∧ Reps B h vs l
  | v, .inst c ns l => ∃ x dx es n, v = .ref x ∧ ¬ B x ∧ ¬ B dx ∧ h.get? x = some (instObj c dx) ∧ h.get? dx = some (dictOf es n) ∧ Keyed es ns ∧ Reps B h (es.map (·.val)) l
  | v, .rng a b => ∃ r t u w, v = .ref r ∧ ¬ B r ∧ IsRange h r a b 1 t u w
  | v, .val x => v = x
noncomputable def Reps (B : Addr → Prop) (h : Heap) : List Value → List V → Prop
  | [], [] => True
  | v :: vs, x :: xs => Rep B h v x ∧ Reps B h vs xs
  | [], _ :: _ => False
  | _ :: _, [] => False
end

noncomputable def RepD (σ : List Addr) (B : Addr → Prop) (h : Heap) (v : Value) : D → Prop
  | .v x => Rep B h v x
  | .m i => ∃ a, σ[i]? = some a ∧ v = .ref a

noncomputable def RepDs (σ : List Addr) (B : Addr → Prop) (h : Heap) : List Value → List D → Prop
  | [], [] => True
  | v :: vs, d :: ds => RepD σ B h v d ∧ RepDs σ B h vs ds
  | _, _ => False

theorem isRange_obj {h h' : Heap} {r a b c t u w} (x : IsRange h r a b c t u w) (k : ∀ o, h.get? r = some o → h'.get? r = some o) : IsRange h' r a b c t u w := k _ x

mutual
theorem Rep.mono {B B' : Addr → Prop} {h h' : Heap} (k : ∀ a o, h.get? a = some o → ¬ B a → h'.get? a = some o ∧ ¬ B' a) : ∀ {x : V} {v : Value}, Rep B h v x → Rep B' h' v x
  | .none, _, r => r
  | .bool _, _, r => r
  | .int _, _, r => r
  | .str _, _, r => r
  | .tup l, v, r => by
    unfold Rep at r ⊢
    obtain ⟨a, vs, n, e, hb, ho, hr⟩ := r
    exact ⟨a, vs, n, e, (k a _ ho hb).2, (k a _ ho hb).1, Reps.mono k hr⟩
  | .lst l, v, r => by
    unfold Rep at r ⊢
    obtain ⟨a, o, vs, n, e, hb, ho, hc, hd, hr⟩ := r
    exact ⟨a, o, vs, n, e, (k a o ho hb).2, (k a o ho hb).1, hc, hd, Reps.mono k hr⟩
  | .inst c ns l, v, r => by
    unfold Rep at r ⊢
    obtain ⟨x, dx, es, n, e, hb, hb', ho, hd, hk, hr⟩ := r
    exact ⟨x, dx, es, n, e, (k x _ ho hb).2, (k dx _ hd hb').2, (k x _ ho hb).1, (k dx _ hd hb').1, hk, Reps.mono k hr⟩
  | .rng a b, v, r => by
    unfold Rep at r ⊢
    obtain ⟨q, t, u, w, e, hb, hr⟩ := r
    exact ⟨q, t, u, w, e, (k q _ hr hb).2, (k q _ hr hb).1⟩
  | .val _, _, r => r
theorem Reps.mono {B B' : Addr → Prop} {h h' : Heap} (k : ∀ a o, h.get? a = some o → ¬ B a → h'.get? a = some o ∧ ¬ B' a) : ∀ {xs : List V} {vs : List Value}, Reps B h vs xs → Reps B' h' vs xs
  | [], [], _ => trivial
  | _ :: _, _ :: _, r => ⟨Rep.mono k r.1, Reps.mono k r.2⟩
  | [], _ :: _, r => r.elim
  | _ :: _, [], r => r.elim
end

theorem Reps.length {B : Addr → Prop} {h : Heap} : ∀ {vs : List Value} {xs : List V}, Reps B h vs xs → vs.length = xs.length
  | [], [], _ => rfl
  | _ :: _, _ :: _, r => congrArg (· + 1) (Reps.length r.2)
  | [], _ :: _, r => r.elim
  | _ :: _, [], r => r.elim
theorem Reps.get {B : Addr → Prop} {h : Heap} : ∀ {vs : List Value} {xs : List V} (_ : Reps B h vs xs) {i : Nat} {x : V}, xs[i]? = some x → ∃ v, vs[i]? = some v ∧ Rep B h v x
  | _ :: _, _ :: _, r, 0, x, e => ⟨_, rfl, by cases e; exact r.1⟩
  | _ :: _, _ :: _, r, i + 1, x, e => by
    obtain ⟨v, a, b⟩ := Reps.get r.2 (i := i) (by simpa using e)
    exact ⟨v, by simpa using a, b⟩
  | [], [], _, _, _, e => by cases e
  | [], _ :: _, r, _, _, _ => r.elim
  | _ :: _, [], r, _, _, _ => r.elim
theorem Reps.append {B : Addr → Prop} {h : Heap} : ∀ {vs ws : List Value} {xs ys : List V}, Reps B h vs xs → Reps B h ws ys → Reps B h (vs ++ ws) (xs ++ ys)
  | [], _, [], _, _, s => s
  | _ :: _, _, _ :: _, _, r, s => ⟨r.1, Reps.append r.2 s⟩
  | [], _, _ :: _, _, r, _ => r.elim
  | _ :: _, _, [], _, r, _ => r.elim
theorem Reps.take {B : Addr → Prop} {h : Heap} : ∀ {vs : List Value} {xs : List V} (n : Nat), Reps B h vs xs → Reps B h (vs.take n) (xs.take n)
  | _, _, 0, _ => by simp only [List.take_zero]; trivial
  | [], [], _ + 1, _ => trivial
  | _ :: _, _ :: _, n + 1, r => ⟨r.1, Reps.take n r.2⟩
  | [], _ :: _, _, r => r.elim
  | _ :: _, [], _, r => r.elim
theorem Reps.drop {B : Addr → Prop} {h : Heap} : ∀ {vs : List Value} {xs : List V} (n : Nat), Reps B h vs xs → Reps B h (vs.drop n) (xs.drop n)
  | _, _, 0, r => by simpa only [List.drop_zero] using r
  | [], [], _ + 1, _ => trivial
  | _ :: _, _ :: _, n + 1, r => Reps.drop n r.2
  | [], _ :: _, _, r => r.elim
  | _ :: _, [], _, r => r.elim
theorem Reps.set {B : Addr → Prop} {h : Heap} : ∀ {vs : List Value} {xs : List V} (n : Nat) {v : Value} {x : V}, Reps B h vs xs → Rep B h v x → Reps B h (vs.set n v) (xs.set n x)
  | [], [], _, _, _, _, _ => trivial
  | _ :: _, _ :: _, 0, _, _, r, q => ⟨q, r.2⟩
  | _ :: _, _ :: _, n + 1, _, _, r, q => ⟨r.1, Reps.set n r.2 q⟩
  | [], _ :: _, _, _, _, r, _ => r.elim
  | _ :: _, [], _, _, _, r, _ => r.elim

/-- written places kept, none goes -/
noncomputable def Kp (W : Addr → Prop) (h h' : Heap) : Prop := ∀ b o, h.get? b = some o → (¬ W b → h'.get? b = some o) ∧ ∃ o', h'.get? b = some o'
theorem Kp.refl {W : Addr → Prop} {h : Heap} : Kp W h h := fun _ o e => ⟨fun _ => e, o, e⟩
theorem Kp.at {W : Addr → Prop} {h h' : Heap} (k : Kp W h h') {b : Addr} {o : Obj} (e : h.get? b = some o) (n : ¬ W b) : h'.get? b = some o := (k b o e).1 n
theorem Kp.weak {W W' : Addr → Prop} {h h' : Heap} (k : Kp W h h') (s : ∀ a, W a → W' a) : Kp W' h h' := fun b o e => ⟨fun n => (k b o e).1 fun w => n (s b w), (k b o e).2⟩
theorem Kp.trans {W W' : Addr → Prop} {h h' h'' : Heap} (k : Kp W h h') (k' : Kp W' h' h'') (s : ∀ a, (∃ o, h.get? a = some o) → W' a → W a) : Kp W h h'' := fun b o e =>
  ⟨fun n => k'.at (k.at e n) fun w => n (s b ⟨o, e⟩ w), by
    obtain ⟨o', e'⟩ := (k b o e).2
    exact (k' b o' e').2⟩
theorem Kp.push {W : Addr → Prop} {h : Heap} (o : Obj) : Kp W h (h.push o) := fun _ o' e => ⟨fun _ => Heap.get?_push_of_some _ e, o', Heap.get?_push_of_some _ e⟩
theorem Kp.all {W : Addr → Prop} {h h' : Heap} (k : ∀ b o, h.get? b = some o → h'.get? b = some o) : Kp W h h' := fun b o e => ⟨fun _ => k b o e, o, k b o e⟩
theorem Kp.same {W : Addr → Prop} {h h' : Heap} {a : Addr} {o : Obj} (s : Heap.SameBut a h h') (w : W a) (ho : h'.get? a = some o) : Kp W h h' := fun b o' e => by
  by_cases q : b = a
  · subst q; exact ⟨fun n => absurd w n, o, ho⟩
  · exact ⟨fun _ => (s.2 b q).trans e, o', (s.2 b q).trans e⟩
/-- the end of a thing that was not there at first -/
theorem Kp.fin {W : Addr → Prop} {h h' h'' : Heap} {a : Addr} (k : Kp W h h') (n : h.get? a = none) (x : Heap.ExtBut a h' h'') : Kp W h h'' := fun b o e => by
  have q : b ≠ a := fun q => by rw [q, n] at e; cases e
  obtain ⟨o', e'⟩ := (k b o e).2
  exact ⟨fun w => x b o q (k.at e w), o', x b o' q e'⟩

noncomputable def Fresh (σ σ' : List Addr) (h : Heap) : Prop := ∃ e, σ' = σ ++ e ∧ ∀ a ∈ e, h.get? a = none
theorem Fresh.refl {σ : List Addr} {h : Heap} : Fresh σ σ h := ⟨[], by simp, fun _ hx => nomatch hx⟩
theorem Fresh.trans {W : Addr → Prop} {σ σ' σ'' : List Addr} {h h' : Heap} (a : Fresh σ σ' h) (b : Fresh σ' σ'' h') (k : Kp W h h') : Fresh σ σ'' h := by
  obtain ⟨e, rfl, he⟩ := a
  obtain ⟨e', rfl, he'⟩ := b
  refine ⟨e ++ e', by rw [List.append_assoc], fun x hx => (List.mem_append.mp hx).elim (he x) fun q => ?_⟩
  cases z : h.get? x with
  | none => rfl
  | some o =>
    obtain ⟨o', z'⟩ := (k x o z).2
    rw [he' x q] at z'; cases z'
theorem Fresh.low {σ σ' : List Addr} {h : Heap} (a : Fresh σ σ' h) {x : Addr} {o : Obj} (l : h.get? x = some o) (m : x ∈ σ') : x ∈ σ := by
  obtain ⟨e, rfl, he⟩ := a
  rcases List.mem_append.mp m with q | q
  · exact q
  · rw [he x q] at l; cases l
theorem Fresh.get {σ σ' : List Addr} {h : Heap} (a : Fresh σ σ' h) {i : Nat} {x : Addr} (e : σ[i]? = some x) : σ'[i]? = some x := by
  obtain ⟨e', rfl, _⟩ := a
  rw [List.getElem?_append_left (List.getElem?_eq_some_iff.mp e).1]; exact e
theorem Fresh.sub {σ σ' : List Addr} {h : Heap} (a : Fresh σ σ' h) {x : Addr} (m : x ∈ σ) : x ∈ σ' := by
  obtain ⟨e', rfl, _⟩ := a
  exact List.mem_append_left _ m

noncomputable def Bad (σ Λ : List Addr) (a : Addr) : Prop := a ∈ σ ∨ a ∈ Λ
noncomputable def InL (σ : List Addr) (a : Addr) : Prop := a ∈ σ

theorem Rep.step {σ σ' Λ : List Addr} {h h' : Heap} {v : Value} {x : V} (r : Rep (Bad σ Λ) h v x) (f : Fresh σ σ' h) (k : Kp (Bad σ Λ) h h') : Rep (Bad σ' Λ) h' v x :=
  r.mono fun a o e n => ⟨k.at e n, fun b => n (b.elim (fun q => .inl (f.low e q)) .inr)⟩
theorem Reps.step {σ σ' Λ : List Addr} {h h' : Heap} {v : List Value} {x : List V} (r : Reps (Bad σ Λ) h v x) (f : Fresh σ σ' h) (k : Kp (Bad σ Λ) h h') : Reps (Bad σ' Λ) h' v x :=
  r.mono fun a o e n => ⟨k.at e n, fun b => n (b.elim (fun q => .inl (f.low e q)) .inr)⟩
theorem RepD.step {σ σ' Λ : List Addr} {h h' : Heap} {v : Value} {d : D} (r : RepD σ (Bad σ Λ) h v d) (f : Fresh σ σ' h) (k : Kp (Bad σ Λ) h h') : RepD σ' (Bad σ' Λ) h' v d := by
  cases d with
  | v x => exact Rep.step r f k
  | m i => obtain ⟨a, e, q⟩ := r; exact ⟨a, f.get e, q⟩
theorem RepDs.step {σ σ' Λ : List Addr} {h h' : Heap} (f : Fresh σ σ' h) (k : Kp (Bad σ Λ) h h') : ∀ {v : List Value} {d : List D}, RepDs σ (Bad σ Λ) h v d → RepDs σ' (Bad σ' Λ) h' v d
  | [], [], _ => trivial
  | _ :: _, _ :: _, r => ⟨RepD.step r.1 f k, RepDs.step f k r.2⟩
  | [], _ :: _, r => r.elim
  | _ :: _, [], r => r.elim

/-- the store of mutable lists -/
noncomputable def StoreOk (σ Λ : List Addr) (h : Heap) (st : Sto) : Prop :=
  σ.length = st.length ∧ σ.Nodup ∧ ∀ (i : Nat) (a : Addr) (l : List V), σ[i]? = some a → st[i]? = some l → ∃ vs : List Value, h.PlainList a vs.toArray ∧ Reps (Bad σ Λ) h vs l ∧ l.length ≤ 2 ^ 20 + 1
theorem isList_keep {h h' : Heap} {a : Addr} {vs : Array Value} (x : h.IsList a vs) (k : ∀ o, h.get? a = some o → h'.get? a = some o) : h'.IsList a vs := by
  obtain ⟨o, ho, y⟩ := x
  exact ⟨o, k o ho, y⟩

end Mine

end

section
open PySem PySem.W PySem.Spec PySem.Calls PyProof.Rows
set_option maxRecDepth 100000
namespace Mine

structure Wd where
  prog : Program
  w : World
  K : Frag
  base : Heap
  p : Program
  loose : List Str
  mg : Str → Option Value
  mb : Str → Option Value
  X : K.In base
  T : TopRead p loose mg mb base
  live : ∃ o, base.get? (base.objs.size - 1) = some o

structure Inv (W : Wd) (σ Λ : List Addr) (h : Heap) (st : Sto) : Prop where
  keep : ∀ b o, W.base.get? b = some o → h.get? b = some o
  new : ∀ a, Bad σ Λ a → W.base.objs.size ≤ a ∧ ∃ o, h.get? a = some o
  store : StoreOk σ Λ h st
  apart : ∀ a ∈ σ, a ∉ Λ

/-- what the frame's names hold -/
noncomputable def Vars (Λ : List Addr) (sc : Scope) (env : Env) (ρ : En) (σ : List Addr) (h : Heap) : Prop :=
  ∃ m, h.Ns env.locals m ∧ ∀ x d, ρ.lookup x = some d →
    (sc.names.lookup x = some .local → ∃ v, m x = some v ∧ RepD σ (Bad σ Λ) h v d) ∧
    (sc.names.lookup x = some .cell ∨ sc.names.lookup x = some .free → ∃ c o v, env.cells.lookup x = some c ∧ h.get? c = some o ∧ o.data = .cell (some v) ∧ c ∉ σ ∧ RepD σ (Bad σ Λ) h v d)

structure EnvOk (Λ : List Addr) (sc : Scope) (env : Env) : Prop where
  kind : sc.kind = .function
  scope : env.scope = sc
  globals : env.globals = mainGlobals
  builtins : env.builtins = builtinsNs
  loc : env.locals ∈ Λ
  cin : ∀ x c, env.cells.lookup x = some c → c ∈ Λ
  cells : ∀ x, sc.names.lookup x = some .cell ∨ sc.names.lookup x = some .free → ∃ c, env.cells.lookup x = some c

noncomputable def Po {α β : Type} (W : Wd) (Λ : List Addr) (X : Addr → Prop) (Rel : List Addr → Heap → β → α → Prop) (E : Value → Shared → Prop) (σ : List Addr) (s : Shared) (r : Out α) (Q : β → Shared → Prop) : Prop :=
  match r with
  | .ok a st' => ∀ σ' h' tk b, Fresh σ σ' s.heap → Kp (fun x => x ∈ σ ∨ X x) s.heap h' → Inv W σ' Λ h' st' → Rel σ' h' b a → Q b { s with heap := h', toks := tk }
  | .exc _ _ => False
  | .stuck => False

noncomputable def NoX : Addr → Prop := fun _ => False
noncomputable def relD (Λ : List Addr) : List Addr → Heap → Value → D → Prop := fun σ h v d => RepD σ (Bad σ Λ) h v d
noncomputable def relDs (Λ : List Addr) : List Addr → Heap → List Value → List D → Prop := fun σ h v d => RepDs σ (Bad σ Λ) h v d
noncomputable def relB : List Addr → Heap → Bool → Bool → Prop := fun _ _ b c => b = c

section
variable {α α' β β' : Type} {W : Wd} {Λ : List Addr} {X X' : Addr → Prop} {Rel : List Addr → Heap → β → α → Prop} {Rel' : List Addr → Heap → β' → α' → Prop} {E : Value → Shared → Prop} {σ : List Addr} {s : Shared}

theorem Po.shift {r : Out α} {Q : β → Shared → Prop} {σ' : List Addr} {h' : Heap} {tk : Nat} (H : Po W Λ X Rel E σ s r Q) (f : Fresh σ σ' s.heap) (k : Kp (fun x => x ∈ σ ∨ X x) s.heap h') :
    Po W Λ X Rel E σ' { s with heap := h', toks := tk } r Q := by
  cases r with
  | ok a st' =>
    intro σ'' h'' tk'' b f' k' i r'
    exact H σ'' h'' tk'' b (f.trans f' k) (k.trans k' fun a l q => q.elim (fun q => .inl (l.elim fun _ e => f.low e q)) .inr) i r'
  | exc x st' => exact H
  | stuck => exact H
theorem Po.weak {r : Out α} {Q : β → Shared → Prop} (H : Po W Λ X' Rel E σ s r Q) (hX : ∀ a, X a → X' a) : Po W Λ X Rel E σ s r Q := by
  cases r with
  | ok a st' => intro σ' h' tk b f k i r'; exact H σ' h' tk b f (k.weak fun a q => q.elim .inl fun q => .inr (hX a q)) i r'
  | exc x st' => exact H
  | stuck => exact H
theorem Po.seq {r : Out α} {f : α → Sto → Out α'} {Q' : β' → Shared → Prop} {Q : β → Shared → Prop} (hX : ∀ a, X a → X' a) (H : Po W Λ X' Rel' E σ s (r.bind f) Q')
    (k : ∀ a st' σ' h' tk b, Fresh σ σ' s.heap → Kp (fun x => x ∈ σ ∨ X x) s.heap h' → Inv W σ' Λ h' st' → Rel σ' h' b a →
      Po W Λ X' Rel' E σ' { s with heap := h', toks := tk } (f a st') Q' → Q b { s with heap := h', toks := tk }) :
    Po W Λ X Rel E σ s r Q := by
  cases r with
  | ok a st' =>
    intro σ' h' tk b f1 k1 i1 r1
    exact k a st' σ' h' tk b f1 k1 i1 r1 (Po.shift H f1 (k1.weak fun a q => q.elim .inl fun q => .inr (hX a q)))
  | exc x st' => exact H
  | stuck => exact H
theorem Po.seq0 {r : Out α} {f : α → Sto → Out α'} {Q' : β' → Shared → Prop} {Q : β → Shared → Prop} (H : Po W Λ X Rel' E σ s (r.bind f) Q')
    (k : ∀ a st' σ' h' tk b, Fresh σ σ' s.heap → Kp (fun x => x ∈ σ ∨ X x) s.heap h' → Inv W σ' Λ h' st' → Rel σ' h' b a →
      Po W Λ X Rel' E σ' { s with heap := h', toks := tk } (f a st') Q' → Q b { s with heap := h', toks := tk }) :
    Po W Λ X Rel E σ s r Q := Po.seq (fun _ q => q) H k
theorem Po.mono {r : Out α} {Q Q' : β → Shared → Prop} (H : Po W Λ X Rel E σ s r Q) (k : ∀ b s', Q b s' → Q' b s') : Po W Λ X Rel E σ s r Q' := by
  cases r with
  | ok a st' => intro σ' h' tk b f1 k1 i1 r1; exact k _ _ (H σ' h' tk b f1 k1 i1 r1)
  | exc x st' => exact H
  | stuck => exact H
/-- an answer that changes nothing -/
theorem Po.now {a : α} {st : Sto} {Q : β → Shared → Prop} {b : β} {tk : Nat} (H : Po W Λ X Rel E σ s (.ok a st) Q) (i : Inv W σ Λ s.heap st) (r : Rel σ s.heap b a) : Q b { s with toks := tk } :=
  H σ s.heap tk b Fresh.refl Kp.refl i r
end

section
variable {W : Wd} {Λ σ σ' : List Addr} {h h' : Heap} {st : Sto}
theorem Inv.size (I : Inv W σ Λ h st) : W.base.objs.size ≤ h.objs.size := by
  obtain ⟨o, e⟩ := W.live
  exact Nat.le_of_pred_lt (Heap.lt_size (I.keep _ _ e))
/-- a change that keeps all that stood -/
theorem Inv.grow (I : Inv W σ Λ h st) (k : ∀ b o, h.get? b = some o → h'.get? b = some o) : Inv W σ Λ h' st := by
  refine ⟨fun b x e => k _ _ (I.keep b x e), fun a b => ⟨(I.new a b).1, ?_⟩, ⟨I.store.1, I.store.2.1, fun i a l e1 e2 => ?_⟩, I.apart⟩
  · obtain ⟨o, e⟩ := (I.new a b).2
    exact ⟨o, k _ _ e⟩
  · obtain ⟨vs, q, r, z⟩ := I.store.2.2 i a l e1 e2
    exact ⟨vs, q.at fun o' e => k _ _ e, r.step Fresh.refl (Kp.all k), z⟩
theorem Inv.push (I : Inv W σ Λ h st) (o : Obj) : Inv W σ Λ (h.push o) st := I.grow fun _ _ e => Heap.get?_push_of_some _ e
theorem Inv.sigma (I : Inv W σ Λ h st) {x : Addr} (l : x ∈ Λ) : x ∉ σ := fun q => I.apart x q l
theorem get_size {h : Heap} : h.get? h.objs.size = none := by
  cases q : h.get? h.objs.size with
  | none => rfl
  | some o => exact absurd (Heap.lt_size q) (Nat.lt_irrefl _)
theorem Inv.newAddr (I : Inv W σ Λ h st) : ¬ Bad σ Λ h.objs.size := fun b => by
  obtain ⟨o, e⟩ := (I.new _ b).2
  rw [get_size] at e; cases e
end

theorem Vars.step {Λ σ σ' : List Addr} {sc : Scope} {env : Env} {ρ : En} {h h' : Heap} (V : Vars Λ sc env ρ σ h) (hl : env.locals ∉ σ) (f : Fresh σ σ' h) (k : Kp (fun x => x ∈ σ ∨ NoX x) h h') : Vars Λ sc env ρ σ' h' := by
  obtain ⟨m, hn, V⟩ := V
  have kb : Kp (Bad σ Λ) h h' := k.weak fun a q => q.elim .inl fun q => q.elim
  refine ⟨m, ?_, fun x d e => ⟨fun q => ?_, fun q => ?_⟩⟩
  · obtain ⟨o, es, ep, ho, r⟩ := hn
    exact ⟨o, es, ep, k.at ho fun q => q.elim hl fun q => q.elim, r⟩
  · obtain ⟨v, a, b⟩ := (V x d e).1 q
    exact ⟨v, a, b.step f kb⟩
  · obtain ⟨c, o, v, a, ho, hd, hc, b⟩ := (V x d e).2 q
    exact ⟨c, o, v, a, k.at ho fun q => q.elim hc fun q => q.elim, hd, fun q => hc (f.low ho q), b.step f kb⟩

/-- an expression's soundness -/
noncomputable def SX {α β : Type} (W : Wd) (A : Around) (Λ : List Addr) (X : Addr → Prop) (Rel : List Addr → Heap → β → α → Prop) (pre : List Addr → Heap → Prop) (f : Sto → Out α) (t : Sem β) : Prop :=
  ∀ E σ s st Q, Inv W σ Λ s.heap st → pre σ s.heap → Po W Λ X Rel E σ s (f st) Q → wpAny (model W.prog W.w) A t Q E s

structure CxOk (W : Wd) (C : Cx) : Prop where
  G : ∀ x v, C.G x = some v → nsIn W.K mainGlobals x = some (some v) ∨ (nsIn W.K mainGlobals x = some none ∧ bootBuiltins x = some v ∧ x ≠ "__name__")
  able : ∀ v, C.able v = true → ∀ (M : Model) h, W.K.In h → ∃ k, (k = Keeper.frame ∨ k = Keeper.machine ∨ k = Keeper.boundFrame) ∧ Looks M h (keeperOf v) k
  meth : ∀ c n f, C.meth c n = some f → plainGet W.K c n = true ∧ findIn W.K (.ref c) n = some (some (.ref f)) ∧ isFn W.K (.ref f) = true ∧ keepIn W.K (.ref f) = true
  attr : ∀ c n, C.attr c n = true → plainGet W.K c n = true ∧ hasDictIn W.K c = true ∧ ∃ a, findIn W.K (.ref c) n = some a ∧ noGet W.K a = true

noncomputable def IE (W : Wd) (A : Around) (I : In) : Prop := ∀ Λ sc env ρ e, EnvOk Λ sc env → SX W A Λ NoX (relD Λ) (Vars Λ sc env ρ) (I.ex sc ρ e) (eval e env)
noncomputable def IT (W : Wd) (A : Around) (I : In) : Prop := ∀ Λ sc env ρ e, EnvOk Λ sc env → SX W A Λ NoX relB (Vars Λ sc env ρ) (I.tt sc ρ e) (PySem.isTrue e env (eval e env))
noncomputable def CS (W : Wd) (A : Around) (Φ : D → List D → Sto → Out D) : Prop :=
  ∀ Λ d ds v vs, SX W A Λ NoX (relD Λ) (fun σ h => (∃ L m, L ∈ Λ ∧ h.Ns L m) ∧ RepD σ (Bad σ Λ) h v d ∧ RepDs σ (Bad σ Λ) h vs ds) (Φ d ds) (call v vs)

end Mine

end

section
open PySem PySem.W PySem.Spec PySem.Calls PyProof.Rows
set_option maxRecDepth 100000
namespace Mine

theorem bits_of_log2 {x : Int} {n : Nat} (h : x.natAbs.log2 < n) (hn : 0 < n) : Builtin.Int.intBits x ≤ n := by
  unfold Builtin.Int.intBits
  split
  · exact Nat.zero_le _
  · exact h
theorem mul_ok {a b : Int} (h : mulOk a b = true) : IntMulOk a b := by
  unfold mulOk at h
  rcases Bool.or_eq_true_iff.mp h with h | h
  · obtain ⟨h1, h2⟩ := Bool.and_eq_true_iff.mp h
    exact IntMulOk.of_le (bits_of_log2 (of_decide_eq_true h1) (by decide)) (bits_of_log2 (of_decide_eq_true h2) (by decide)) (by decide)
  · exact IntMulOk.of_left (Nat.le_trans (bits_of_log2 (of_decide_eq_true h) (by decide)) (by decide))

structure AOk (A : Around) : Prop where
  handled : A.handled = none
  units : A.units + 64 < cLine

/-- a News of all that stands beside the base -/
noncomputable def Alls (base : Heap) (L : Addr) (h : Heap) : List (Addr × Obj) :=
  (List.range h.objs.size).filterMap fun a => match h.get? a, base.get? a with
    | some o, none => if a = L then none else some (a, o)
    | _, _ => none
theorem mem_alls {base : Heap} {L : Addr} {h : Heap} {a : Addr} {o : Obj} : (a, o) ∈ Alls base L h ↔ h.get? a = some o ∧ base.get? a = none ∧ a ≠ L := by
  unfold Alls
  rw [List.mem_filterMap]
  constructor
  · rintro ⟨b, _, e⟩
    split at e
    · rename_i o' h1 h2
      split at e
      · cases e
      · rename_i hne
        cases e
        exact ⟨h1, h2, hne⟩
    · cases e
  · rintro ⟨h1, h2, h3⟩
    refine ⟨a, List.mem_range.mpr (Heap.lt_size h1), ?_⟩
    rw [h1, h2]
    simp [h3]
theorem news_alls {base : Heap} {L : Addr} {h : Heap} : News base L h (Alls base L h) := fun p hp => by
  obtain ⟨a, o⟩ := p
  obtain ⟨h1, h2, h3⟩ := mem_alls.mp hp
  exact ⟨h1, h3, h2⟩

section
variable {W : Wd} {A : Around} {Λ σ : List Addr} {E : Value → Shared → Prop} {s : Shared} {st : Sto}

theorem ofO_map {α β : Type} {st : Sto} {o : Option α} {f : α → β} : ofO st (o.map f) = (match o with | some a => .ok (f a) st | none => .stuck) := by cases o <;> rfl

theorem binop_sound {op : Operator} {a b : D} {va vb : Value} {Q : Value → Shared → Prop} (hA : AOk A) (I : Inv W σ Λ s.heap st) (ra : RepD σ (Bad σ Λ) s.heap va a) (rb : RepD σ (Bad σ Λ) s.heap vb b)
    (H : Po W Λ NoX (relD Λ) E σ s (ofO st ((binop op a b).map D.v)) Q) : wpAny (model W.prog W.w) A (binaryOp op va vb) Q E s := by
  rw [ofO_map] at H
  unfold binop at H
  split at H
  · rename_i x hx
    split at hx
    · rename_i i j
      obtain ⟨t, rfl⟩ := ra
      obtain ⟨u, rfl⟩ := rb
      obtain ⟨z, hz, rfl⟩ := Option.map_eq_some_iff.mp hx
      have fin : Q (.int z s.toks) { s with toks := s.toks + 1 } := H.now I ⟨_, rfl⟩
      unfold binI at hz
      split at hz
      · cases hz; exact add_int fin
      · cases hz; exact sub_int fin
      · split at hz
        · rename_i hm; cases hz; exact mul_int fin (mul_ok hm)
        · cases hz
      · split at hz
        · rename_i hm
          cases hz
          obtain ⟨h1, h2⟩ := Bool.and_eq_true_iff.mp hm
          exact floordiv_int (of_decide_eq_true h1) fin (.inl (PyProof.noPylong_of_log2 (of_decide_eq_true h2)))
        · cases hz
      · split at hz
        · cases hz
        · rename_i hm; cases hz; exact mod_int hm fin
      · split at hz
        · rename_i hm; cases hz; exact pow_int hm.1 hm.2 fin
        · cases hz
      · split at hz
        · rename_i hm; cases hz
          exact lshift_int_or hA.handled (fun q => by omega) (fun _ => hm.2) (fun _ => fin)
        · cases hz
      · split at hz
        · rename_i hm; cases hz; exact rshift_int hm fin
        · cases hz
      · cases hz; exact and_int fin
      · cases hz
    · rename_i p q
      have ra : va = .bool p := ra
      have rb : vb = .bool q := rb
      subst ra rb
      split at hx
      · cases hx
        exact sub_bool (H.now I ⟨_, rfl⟩)
      · cases hx
    · rename_i l1 l2
      split at hx
      · split at hx
        · rename_i hz
          cases hx
          obtain ⟨a1, ⟨c1, dd1, data1, sl1⟩, vs1, n1, rfl, hb1, ho1, hc1, hd1, hr1⟩ := ra
          obtain ⟨a2, ⟨c2, dd2, data2, sl2⟩, vs2, n2, rfl, hb2, ho2, hc2, hd2, hr2⟩ := rb
          simp only at hc1 hd1 hc2 hd2
          subst hc1 hd1 hc2 hd2
          have e : vs1.toArray ++ vs2.toArray = (vs1 ++ vs2).toArray := by simp
          have hz' : vs1.toArray.size + vs2.toArray.size ≤ sizeLine := by
            rw [List.size_toArray, List.size_toArray, hr1.length, hr2.length]
            exact Nat.le_trans (of_decide_eq_true hz) (by decide)
          refine concat_meets ⟨_, ho1, rfl⟩ ⟨_, ho2, rfl⟩ noFill_list_add seq_list_add PySem.F.slot_list_add PySem.F.entry_list_add (PySem.F.args_list_add_2 _ _) (list_addW a1 a2 vs1.toArray vs2.toArray n1 n2 dd1 dd2 sl1 sl2 hz') ⟨ho1, ho2, ?_⟩
          rw [e]
          refine H σ _ s.toks _ Fresh.refl (Kp.push _) (I.push _) ⟨_, _, _, 0, rfl, I.newAddr, Heap.get?_push_size _ rfl, rfl, rfl, ?_⟩
          exact (hr1.append hr2).step Fresh.refl (Kp.push _)
        · cases hx
      · cases hx
    · rename_i l1 l2
      split at hx
      · split at hx
        · rename_i hz
          cases hx
          obtain ⟨a1, vs1, n1, rfl, hb1, ho1, hr1⟩ := ra
          obtain ⟨a2, vs2, n2, rfl, hb2, ho2, hr2⟩ := rb
          have hz' : vs1.toArray.size + vs2.toArray.size ≤ sizeLine := by
            rw [List.size_toArray, List.size_toArray, hr1.length, hr2.length]
            exact Nat.le_trans (of_decide_eq_true hz) (by decide)
          have hr := hr1.append hr2
          by_cases e1 : vs1.toArray.isEmpty = true
          · refine PySem.concat_meets ⟨_, ho1, rfl⟩ ⟨_, ho2, rfl⟩ noFill_tuple_add seq_tuple_add PySem.F.slot_tuple_add PySem.F.entry_tuple_add (PySem.F.args_tuple_add_2 _ _) (PySem.AutoSeq1.tuple___add___tuple_tuple_0 a1 _ n1 a2 _ n2 e1) ⟨ho1, ho2, ?_⟩
            have : vs1 = [] := by simpa using e1
            subst this
            exact H.now I ⟨a2, vs2, n2, rfl, hb2, ho2, hr⟩
          · by_cases e2 : vs2.toArray.isEmpty = true
            · refine PySem.concat_meets ⟨_, ho1, rfl⟩ ⟨_, ho2, rfl⟩ noFill_tuple_add seq_tuple_add PySem.F.slot_tuple_add PySem.F.entry_tuple_add (PySem.F.args_tuple_add_2 _ _) (PySem.AutoSeq1.tuple___add___tuple_tuple_1 a1 _ n1 a2 _ n2 e1 e2) ⟨ho1, ho2, ?_⟩
              have : vs2 = [] := by simpa using e2
              subst this
              rw [List.append_nil] at hr
              exact H.now I ⟨a1, vs1, n1, rfl, hb1, ho1, hr⟩
            · refine PySem.concat_meets ⟨_, ho1, rfl⟩ ⟨_, ho2, rfl⟩ noFill_tuple_add seq_tuple_add PySem.F.slot_tuple_add PySem.F.entry_tuple_add (PySem.F.args_tuple_add_2 _ _) (PySem.AutoSeq1.tuple___add___tuple_tuple_2 a1 _ n1 a2 _ n2 e1 e2 hz') ⟨ho1, ho2, ?_⟩
              have e : vs1.toArray ++ vs2.toArray = (vs1 ++ vs2).toArray := by simp
              rw [e]
              refine H σ _ s.toks _ Fresh.refl (Kp.push _) (I.push _) ⟨_, _, 0, rfl, I.newAddr, Heap.get?_push_size _ rfl, ?_⟩
              exact hr.step Fresh.refl (Kp.push _)
        · cases hx
      · cases hx
    · cases hx
  · exact H.elim

end
end Mine

end

section
open PySem PySem.W PySem.Spec PySem.Calls PyProof.Rows
set_option maxRecDepth 100000
namespace Mine

section
variable {W : Wd} {A : Around} {Λ σ : List Addr} {E : Value → Shared → Prop} {s : Shared} {st : Sto}

theorem truth_sound {d : D} {v : Value} {b : Bool} {B : Addr → Prop} {h : Heap} {Q : Bool → Shared → Prop} (r : RepD σ B h v d) (e : truth d = some b) (q : Q b s) : wpAny (model W.prog W.w) A (truthy v) Q E s := by
  unfold truth at e
  split at e
  · rename_i c
    have r : v = .bool c := r
    subst r; cases e
    exact wpAny_truthy_bool q
  · obtain ⟨t, rfl⟩ := r
    cases e
    exact truthy_int q
  · cases e

mutual
theorem rep_reads {B : Addr → Prop} {h : Heap} : ∀ {x : V} {v : Value} {d : PyData}, Rep B h v x → x.dat = some d → ∃ as, Reads h v d as
  | .none, v, d, r, e => by
    cases e
    have r : v = .none := r
    subst r; exact ⟨_, .none⟩
  | .bool b, v, d, r, e => by
    cases e
    have r : v = .bool b := r
    subst r; exact ⟨_, .bool b⟩
  | .int i, v, d, r, e => by
    cases e
    obtain ⟨t, rfl⟩ := r
    exact ⟨_, .int i t⟩
  | .str x, v, d, r, e => by
    cases e
    obtain ⟨t, rfl⟩ := r
    exact ⟨_, .str x t⟩
  | .tup l, v, d, r, e => by
    unfold Rep at r
    unfold V.dat at e
    obtain ⟨a, vs, n, rfl, hb, ho, hr⟩ := r
    obtain ⟨ds, he, rfl⟩ := Option.map_eq_some_iff.mp e
    obtain ⟨as, q⟩ := reps_reads hr he
    exact ⟨_, .tuple ho rfl rfl (by simpa using q)⟩
  | .lst l, v, d, r, e => by
    unfold Rep at r
    unfold V.dat at e
    obtain ⟨a, o, vs, n, rfl, hb, ho, hc, hd, hr⟩ := r
    obtain ⟨ds, he, rfl⟩ := Option.map_eq_some_iff.mp e
    obtain ⟨as, q⟩ := reps_reads hr he
    exact ⟨_, .list ho hc hd (by simpa using q)⟩
  | .inst _ _ _, _, _, _, e => by cases e
  | .rng _ _, _, _, _, e => by cases e
  | .val _, _, _, _, e => by cases e
theorem reps_reads {B : Addr → Prop} {h : Heap} : ∀ {xs : List V} {vs : List Value} {ds : List PyData}, Reps B h vs xs → V.dats xs = some ds → ∃ as, ReadsAll h vs ds as
  | [], [], ds, _, e => by cases e; exact ⟨_, .nil⟩
  | x :: xs, v :: vs, ds, r, e => by
    unfold V.dats at e
    split at e
    · rename_i d ds' h1 h2
      cases e
      obtain ⟨as, q⟩ := rep_reads r.1 h1
      obtain ⟨bs, q'⟩ := reps_reads r.2 h2
      exact ⟨_, .cons q q'⟩
    · cases e
  | [], _ :: _, _, r, _ => r.elim
  | _ :: _, [], _, r, _ => r.elim
end

theorem dat_reads {d : D} {v : Value} {x : PyData} (I : Inv W σ Λ s.heap st) (r : RepD σ (Bad σ Λ) s.heap v d) (e : d.dat st = some x) : ∃ as, Reads s.heap v x as := by
  cases d with
  | v y => exact rep_reads r e
  | m i =>
    obtain ⟨a, ha, rfl⟩ := r
    unfold D.dat at e
    dsimp only at e
    split at e
    · rename_i l hl
      obtain ⟨ds, he, rfl⟩ := Option.map_eq_some_iff.mp e
      obtain ⟨vs, ⟨n, ho⟩, hr, _⟩ := I.store.2.2 i a l ha hl
      obtain ⟨as, q⟩ := reps_reads hr he
      exact ⟨_, .list ho rfl rfl (by simpa using q)⟩
    · cases e

theorem eqD_sound {a b : D} {va vb : Value} {c : Bool} {Q : Value → Shared → Prop} (hA : AOk A) (I : Inv W σ Λ s.heap st) (ra : RepD σ (Bad σ Λ) s.heap va a) (rb : RepD σ (Bad σ Λ) s.heap vb b)
    (e : eqD a b st = some c) (q : Q (.bool c) s) : wpAny (model W.prog W.w) A (compareOp .Eq va vb) Q E s := by
  unfold eqD at e
  split at e
  · rename_i x y hx hy
    split at e
    · rename_i hs
      obtain ⟨h1, h2⟩ := Bool.and_eq_true_iff.mp hs
      cases e
      obtain ⟨as, r1⟩ := dat_reads I ra hx
      obtain ⟨bs, r2⟩ := dat_reads I rb hy
      exact SeqAt.compareEq_shaped r1 r2 h1 h2 hA.units q
    · cases e
  · cases e
theorem neD_sound {a b : D} {va vb : Value} {c : Bool} {Q : Value → Shared → Prop} (hA : AOk A) (I : Inv W σ Λ s.heap st) (ra : RepD σ (Bad σ Λ) s.heap va a) (rb : RepD σ (Bad σ Λ) s.heap vb b)
    (e : eqD a b st = some c) (q : Q (.bool (!c)) s) : wpAny (model W.prog W.w) A (compareOp .NotEq va vb) Q E s := by
  unfold eqD at e
  split at e
  · rename_i x y hx hy
    split at e
    · rename_i hs
      obtain ⟨h1, h2⟩ := Bool.and_eq_true_iff.mp hs
      cases e
      obtain ⟨as, r1⟩ := dat_reads I ra hx
      obtain ⟨bs, r2⟩ := dat_reads I rb hy
      exact SeqAt.compareNe_shaped r1 r2 h1 h2 hA.units q
    · cases e
  · cases e

theorem cmp_sound {op : CmpOp} {a b : D} {va vb : Value} {c : Bool} {Q : Value → Shared → Prop} (hA : AOk A) (I : Inv W σ Λ s.heap st) (ra : RepD σ (Bad σ Λ) s.heap va a) (rb : RepD σ (Bad σ Λ) s.heap vb b)
    (e : cmp op a b st = some c) (q : Q (.bool c) s) : wpAny (model W.prog W.w) A (compareOp op va vb) Q E s := by
  unfold cmp at e
  split at e
  · obtain ⟨t, rfl⟩ := ra; obtain ⟨u, rfl⟩ := rb; cases e; exact lt_int q
  · obtain ⟨t, rfl⟩ := ra; obtain ⟨u, rfl⟩ := rb; cases e; exact le_int q
  · obtain ⟨t, rfl⟩ := ra; obtain ⟨u, rfl⟩ := rb; cases e; exact gt_int q
  · obtain ⟨t, rfl⟩ := ra; obtain ⟨u, rfl⟩ := rb; cases e; exact ge_int q
  · obtain ⟨t, rfl⟩ := ra; obtain ⟨u, rfl⟩ := rb; cases e; exact eq_int q
  · obtain ⟨t, rfl⟩ := ra; obtain ⟨u, rfl⟩ := rb; cases e; exact ne_int q
  · exact eqD_sound hA I ra rb e q
  · obtain ⟨z, hz, rfl⟩ := Option.map_eq_some_iff.mp e
    exact neD_sound hA I ra rb hz q
  · cases e

theorem sub_ops {slice : PySem.Expr} {o i : Value} : ∃ ops, subscripted slice false o i = operate ops (getItem o i) := by
  unfold subscripted
  split
  · exact ⟨_, rfl⟩
  · rename_i h; cases h
  · exact ⟨_, rfl⟩

theorem seqIndex_spec {k : Int} {n j : Nat} (h : seqIndex? k n = some j) : (0 ≤ k ∧ j = k.toNat) ∨ (k < 0 ∧ -(n : Int) ≤ k ∧ j = (k + n).toNat) := by
  unfold seqIndex? at h
  simp only [Bool.and_eq_true, decide_eq_true_eq] at h
  by_cases hk : k < 0
  · rw [if_pos hk] at h
    split at h
    · cases h; exact .inr ⟨hk, by omega, rfl⟩
    · cases h
  · rw [if_neg hk] at h
    split at h
    · cases h; exact .inl ⟨by omega, rfl⟩
    · cases h
theorem list_item {value slice : PySem.Expr} {a : Addr} {vs : List Value} {l : List V} {x : V} {B : Addr → Prop} {k : Int} {u : Tok} {Q : Value → Shared → Prop} (hl : s.heap.IsList a vs.toArray) (hr : Reps B s.heap vs l)
    (e : itemAt l k = some x) (q : ∀ v, Rep B s.heap v x → Q v s) : wpAny (model W.prog W.w) A (subscriptTail value slice (.ref a) (.int k u)) Q E s := by
  obtain ⟨ops, ho⟩ := sub_ops (slice := slice) (o := .ref a) (i := .int k u)
  unfold itemAt at e
  split at e
  · rename_i hk
    split at e
    · rename_i j hj
      obtain ⟨v, hv, rv⟩ := hr.get e
      refine tail_any hl.typeIs slot_list_getitem.lookup ?_ ho
      rw [← hr.length] at hj
      rcases seqIndex_spec hj with ⟨h0, rfl⟩ | ⟨h0, hlo, rfl⟩
      · exact wpAny_getItem_list hl h0 hk.2 (by simpa using hv) (q v rv)
      · exact wpAny_getItem_list_neg hl h0 (by simpa using hlo) hk.1 (by simpa using hv) (q v rv)
    · cases e
  · cases e

theorem tup_item {value slice : PySem.Expr} {a : Addr} {vs : List Value} {l : List V} {x : V} {n : Nat} {B : Addr → Prop} {k : Int} {u : Tok} {Q : Value → Shared → Prop} (ht : s.heap.get? a = some ({ cls := .type "tuple", data := .seq (vs.toArray) n } : Obj)) (hr : Reps B s.heap vs l)
    (e : itemAt l k = some x) (q : ∀ v, Rep B s.heap v x → Q v s) : wpAny (model W.prog W.w) A (subscriptTail value slice (.ref a) (.int k u)) Q E s := by
  obtain ⟨ops, ho⟩ := sub_ops (slice := slice) (o := .ref a) (i := .int k u)
  unfold itemAt at e
  split at e
  · rename_i hk
    split at e
    · rename_i j hj
      obtain ⟨v, hv, rv⟩ := hr.get e
      rw [← hr.length] at hj
      have hT : IsTup s.heap a vs.toArray := ⟨_, ht, rfl, n, rfl⟩
      refine tail_any (T := "tuple") ⟨_, ht, rfl⟩ slot_tuple_getitem.lookup ?_ ho
      exact getItem_tuple hT hk.1 hk.2 (by simpa using hj) (by simpa using hv) (q v rv)
    · cases e
  · cases e

end
end Mine

end

section
open PySem PySem.W PySem.Spec PySem.Calls PyProof.Rows
set_option maxRecDepth 100000
namespace Mine

theorem star_not {e : PySem.Expr} {rest : List PySem.Expr} {env : Env} (h : isStar e = false) : starEach (e :: rest) env = (false, eval e env) :: starEach rest env := by
  cases e <;> first | rfl | cases h
theorem star_any : ∀ {es : List PySem.Expr} {env : Env} {pos : Pos}, noStar es = true → (backTo pos (starEach es env)).any (·.1) = false
  | [], _, _, _ => rfl
  | e :: r, env, pos, h => by
    unfold noStar at h
    rw [List.all_cons] at h
    obtain ⟨h1, h2⟩ := Bool.and_eq_true_iff.mp h
    rw [star_not (by simpa using h1)]
    show (false || (backTo pos (starEach r env)).any (·.1)) = false
    rw [star_any h2]; rfl
theorem star_all {es : List PySem.Expr} {env : Env} {pos : Pos} (h : noStar es = true) : (backTo pos (starEach es env)).all (fun x => !x.1) = true := by
  have := star_any (env := env) (pos := pos) h
  rw [List.all_eq_true]
  intro x hx
  rw [List.any_eq_false] at this
  simpa using this x hx

section
variable {W : Wd} {A : Around} {Λ σ : List Addr} {E : Value → Shared → Prop} {s : Shared} {st : Sto} {I : In} {sc : Scope} {env : Env} {ρ : En}

theorem evs_sound (hE : EnvOk Λ sc env) (hI : IE W A I) {pos : Pos} : ∀ (es : List PySem.Expr) {σ : List Addr} {s : Shared} {st : Sto} {Q : List Value → Shared → Prop}, noStar es = true → Inv W σ Λ s.heap st → Vars Λ sc env ρ σ s.heap →
    Po W Λ NoX (relDs Λ) E σ s (evs (I.ex sc ρ) es st) Q → wpAny (model W.prog W.w) A (spliced (backTo pos (starEach es env))) Q E s
  | [], σ, s, st, Q, _, iv, V, H => wpAny_pure (H.now iv trivial)
  | e :: r, σ, s, st, Q, h, iv, V, H => by
    unfold noStar at h
    rw [List.all_cons] at h
    obtain ⟨h1, h2⟩ := Bool.and_eq_true_iff.mp h
    rw [star_not (by simpa using h1)]
    refine spliced_cons ?_
    unfold evs at H
    refine hI Λ sc env ρ e hE E σ s st _ iv V (Po.seq0 H fun d st₁ σ₁ h₁ tk₁ v f₁ k₁ i₁ r₁ H₁ => ?_)
    have V₁ := V.step (iv.sigma hE.loc) f₁ k₁
    refine evs_sound hE hI r h2 i₁ V₁ (Po.seq0 H₁ fun ds st₂ σ₂ h₂ tk₂ vs f₂ k₂ i₂ r₂ H₂ => ?_)
    exact Po.now (b := v :: vs) H₂ i₂ ⟨RepD.step r₁ f₂ (k₂.weak fun a q => q.elim .inl fun q => q.elim), r₂⟩

theorem vals_reps {B : Addr → Prop} {h : Heap} : ∀ {ds : List D} {vs : List Value} {l : List V}, RepDs σ B h vs ds → vals ds = some l → Reps B h vs l
  | [], [], _, _, e => by cases e; trivial
  | .v x :: r, v :: vs, l, q, e => by
    unfold vals at e
    obtain ⟨l', e', rfl⟩ := Option.map_eq_some_iff.mp e
    exact ⟨q.1, vals_reps q.2 e'⟩
  | .m _ :: _, _ :: _, _, _, e => by cases e
  | _ :: _, [], _, q, _ => q.elim
  | [], _ :: _, _, q, _ => q.elim
theorem evs_length {f : PySem.Expr → Sto → Out D} : ∀ {es : List PySem.Expr} {st st' : Sto} {ds : List D}, evs f es st = .ok ds st' → ds.length = es.length
  | [], _, _, _, e => by cases e; rfl
  | x :: es, st, st', ds, e => by
    unfold evs at e
    cases h : f x st with
    | ok d st₁ =>
      rw [h] at e
      unfold Out.bind at e
      dsimp only at e
      cases h' : evs f es st₁ with
      | ok ds' st₂ =>
        rw [h'] at e
        cases e
        exact congrArg (· + 1) (evs_length h')
      | exc x st => rw [h'] at e; cases e
      | stuck => rw [h'] at e; cases e
    | exc x st => rw [h] at e; cases e
    | stuck => rw [h] at e; cases e

theorem RepDs.length {B : Addr → Prop} {h : Heap} : ∀ {vs : List Value} {ds : List D}, RepDs σ B h vs ds → vs.length = ds.length
  | [], [], _ => rfl
  | _ :: _, _ :: _, r => congrArg (· + 1) (RepDs.length r.2)
  | [], _ :: _, r => r.elim
  | _ :: _, [], r => r.elim

/-- a new object behind the heap: what it is -/
theorem Inv.tup {σ Λ : List Addr} {h : Heap} {st : Sto} {vs : List Value} {l : List V} (I : Inv W σ Λ h st) (r : Reps (Bad σ Λ) h vs l) : Rep (Bad σ Λ) (h.push { cls := .type "tuple", data := .seq vs.toArray }) (.ref h.objs.size) (.tup l) :=
  ⟨_, _, 0, rfl, I.newAddr, Heap.get?_push_size _ rfl, r.step Fresh.refl (Kp.push _)⟩
theorem Inv.lst {σ Λ : List Addr} {h : Heap} {st : Sto} {vs : List Value} {l : List V} (I : Inv W σ Λ h st) (r : Reps (Bad σ Λ) h vs l) : Rep (Bad σ Λ) (h.push { cls := .type "list", data := .seq vs.toArray }) (.ref h.objs.size) (.lst l) :=
  ⟨_, _, _, 0, rfl, I.newAddr, Heap.get?_push_size _ rfl, rfl, rfl, r.step Fresh.refl (Kp.push _)⟩

/-- a new mutable list -/
theorem Inv.newM {σ Λ : List Addr} {h : Heap} {st : Sto} {vs : List Value} {l : List V} {n : Nat} (I : Inv W σ Λ h st) (r : Reps (Bad σ Λ) h vs l) (hlen : l.length ≤ 2 ^ 20 + 1) :
    Inv W (σ ++ [h.objs.size]) Λ (h.push { cls := .type "list", data := .seq vs.toArray n }) (st ++ [l]) ∧ Fresh σ (σ ++ [h.objs.size]) h := by
  have f : Fresh σ (σ ++ [h.objs.size]) h := ⟨_, rfl, fun a ha => by rw [List.mem_singleton.mp ha]; exact get_size⟩
  have kp : Kp (Bad σ Λ) h (h.push { cls := .type "list", data := .seq vs.toArray n }) := Kp.push _
  refine ⟨⟨fun b x e => Heap.get?_push_of_some _ (I.keep b x e), fun a b => ?_, ⟨?_, ?_, fun i a m e1 e2 => ?_⟩, fun a ha => ?_⟩, f⟩
  · have old : Bad σ Λ a → W.base.objs.size ≤ a ∧ ∃ o, (h.push { cls := .type "list", data := .seq vs.toArray n }).get? a = some o := fun b => by
      obtain ⟨z, o, e⟩ := I.new a b
      exact ⟨z, o, Heap.get?_push_of_some _ e⟩
    rcases b with b | b
    · rcases List.mem_append.mp b with b | b
      · exact old (.inl b)
      · rw [List.mem_singleton.mp b]; exact ⟨I.size, _, Heap.get?_push_size _ rfl⟩
    · exact old (.inr b)
  · rw [List.length_append, List.length_append, I.store.1]; rfl
  · rw [List.nodup_append]
    refine ⟨I.store.2.1, by simp, fun a ha b hb => ?_⟩
    rw [List.mem_singleton.mp hb]
    intro q
    subst q
    exact I.newAddr (.inl ha)
  · by_cases hi : i < σ.length
    · rw [List.getElem?_append_left hi] at e1
      rw [List.getElem?_append_left (by rw [← I.store.1]; exact hi)] at e2
      obtain ⟨ws, q, r', z⟩ := I.store.2.2 i a m e1 e2
      exact ⟨ws, q.at fun o' e => Heap.get?_push_of_some _ e, r'.step f kp, z⟩
    · have hl := (List.getElem?_eq_some_iff.mp e1).1
      rw [List.length_append] at hl
      have : i = σ.length := by simp at hl; omega
      subst this
      have e1' : a = h.objs.size := by simpa using e1.symm
      rw [I.store.1] at e2
      have e2' : m = l := by simpa using e2.symm
      subst e1' e2'
      exact ⟨vs, ⟨n, Heap.get?_push_size _ rfl⟩, r.step f kp, hlen⟩
  · rcases List.mem_append.mp ha with b | b
    · exact I.apart a b
    · rw [List.mem_singleton.mp b]
      intro q
      exact I.newAddr (.inr q)

/-- a mutable list turned -/
theorem Inv.setM {σ Λ : List Addr} {h h' : Heap} {st : Sto} {vs : List Value} {l : List V} {n i : Nat} {a : Addr} (I : Inv W σ Λ h st) (hi : σ[i]? = some a) (hs : Heap.SameBut a h h')
    (ho : h'.get? a = some { cls := .type "list", data := .seq vs.toArray n }) (r : Reps (Bad σ Λ) h vs l) (hlen : l.length ≤ 2 ^ 20 + 1) : Inv W σ Λ h' (st.set i l) ∧ Kp (InL σ) h h' := by
  have ha : a ∈ σ := List.mem_of_getElem? hi
  have kp : Kp (InL σ) h h' := Kp.same hs ha ho
  have kb : Kp (Bad σ Λ) h h' := kp.weak fun _ q => .inl q
  have hne : ∀ b o, W.base.get? b = some o → b ≠ a := fun b o e q => by
    have := (I.new a (.inl ha)).1
    rw [← q] at this
    exact absurd (Heap.lt_size e) (Nat.not_lt.mpr this)
  refine ⟨⟨fun b o e => (hs.2 b (hne b o e)).trans (I.keep b o e), fun b q => ⟨(I.new b q).1, by
    obtain ⟨o, e⟩ := (I.new b q).2
    exact (kp b o e).2⟩, ⟨by rw [List.length_set]; exact I.store.1, I.store.2.1, fun j b m e1 e2 => ?_⟩, I.apart⟩, kp⟩
  by_cases hj : j = i
  · subst hj
    rw [hi] at e1; cases e1
    rw [List.getElem?_set_self (by have := (List.getElem?_eq_some_iff.mp e2).1; simpa using this)] at e2
    cases e2
    exact ⟨vs, ⟨n, ho⟩, r.step Fresh.refl kb, hlen⟩
  · rw [List.getElem?_set_ne (Ne.symm hj)] at e2
    obtain ⟨ws, q, r', z⟩ := I.store.2.2 j b m e1 e2
    have hb : b ≠ a := fun e => by
      subst e
      exact hj ((List.getElem?_inj (List.getElem?_eq_some_iff.mp e1).1 I.store.2.1).mp (e1.trans hi.symm))
    exact ⟨ws, q.at fun o' e => (hs.2 b hb).trans e, r'.step Fresh.refl kb, z⟩

end
end Mine

end

section
open PySem PySem.W PySem.Spec PySem.Calls PyProof.Rows
set_option maxRecDepth 100000
namespace Mine

theorem attrBase_not {o : PySem.Expr} {a : Str} {env : Env} {t : Sem Value} (h : isBare o = false) : attributeBase o a env t = t := by
  unfold attributeBase
  split
  · cases h
  · rfl

theorem keyed_find : ∀ {es : List DictEntry} {ns : List Str} (name : Str), Keyed es ns → getL name es = some ((ns.zip (es.map (·.val))).lookup name)
  | [], [], _, _ => rfl
  | e :: es, n :: ns, name, k => by
    obtain ⟨⟨t, he⟩, k'⟩ := k
    have ih := keyed_find name k'
    obtain ⟨hh, kk, vv⟩ := e
    simp only at he
    subst he
    have e1 : (⟨hh, .str n t, vv⟩ : DictEntry).key.isStr name = (n == name) := rfl
    have e2 : (⟨hh, .str n t, vv⟩ : DictEntry).refKey = false := rfl
    unfold getL at ih ⊢
    rw [List.map_cons, List.zip_cons_cons, List.lookup_cons, List.find?_cons, e1, List.any_cons, e2, Bool.false_or]
    cases hb : n == name with
    | true =>
      have : (name == n) = true := by rw [beq_iff_eq] at hb ⊢; exact hb.symm
      rw [this]
    | false =>
      have : (name == n) = false := by rw [beq_eq_false_iff_ne] at hb ⊢; exact fun q => hb q.symm
      rw [this]
      exact ih
  | [], _ :: _, _, k => k.elim
  | _ :: _, [], _, k => k.elim

theorem keyed_rep {B : Addr → Prop} {h : Heap} : ∀ {es : List DictEntry} {ns : List Str} {l : List V} {name : Str} {x : V}, Keyed es ns → Reps B h (es.map (·.val)) l → (ns.zip l).lookup name = some x → ∃ v, getL name es = some (some v) ∧ Rep B h v x
  | [], [], l, name, x, _, r, e => by cases l <;> cases e
  | e :: es, n :: ns, [], name, x, _, r, _ => r.elim
  | e :: es, n :: ns, y :: l, name, x, k, r, q => by
    rw [keyed_find name k]
    rw [List.map_cons, List.zip_cons_cons, List.lookup_cons]
    rw [List.zip_cons_cons, List.lookup_cons] at q
    obtain ⟨_, k'⟩ := k
    cases hb : name == n with
    | true =>
      rw [hb] at q
      cases q
      exact ⟨_, rfl, r.1⟩
    | false =>
      rw [hb] at q
      obtain ⟨v, a, b⟩ := keyed_rep k' r.2 q
      rw [keyed_find name k'] at a
      exact ⟨v, a, b⟩
  | [], _ :: _, _, _, _, k, _, _ => k.elim
  | _ :: _, [], _, _, _, k, _, _ => k.elim

theorem keyed_none : ∀ {es : List DictEntry} {ns : List Str} {name : Str}, Keyed es ns → ns.contains name = false → getL name es = some none
  | es, ns, name, k, h => by
    rw [keyed_find name k]
    congr 1
    rw [List.lookup_eq_none_iff]
    intro p hp
    have := (List.of_mem_zip (a := p.1) (b := p.2) hp).1
    rw [Bool.eq_false_iff] at h
    by_cases q : (name == p.1) = true
    · exact absurd (List.contains_iff_mem.mpr ((beq_iff_eq.mp q) ▸ this)) h
    · simpa using q

theorem handed_rep {B : Addr → Prop} {h : Heap} {v : Value} {x : V} (r : Rep B h v x) (hx : isVal x = false) : handedIn v = true := by
  cases x with
  | none => have r : v = .none := r; subst r; rfl
  | bool b => have r : v = .bool b := r; subst r; rfl
  | int i => obtain ⟨t, rfl⟩ := r; rfl
  | str i => obtain ⟨t, rfl⟩ := r; rfl
  | tup l => unfold Rep at r; obtain ⟨a, vs, n, rfl, _⟩ := r; rfl
  | lst l => unfold Rep at r; obtain ⟨a, o, vs, n, rfl, _⟩ := r; rfl
  | inst c ns l => unfold Rep at r; obtain ⟨a, o, vs, n, rfl, _⟩ := r; rfl
  | rng a b => obtain ⟨a, o, vs, n, rfl, _⟩ := r; rfl
  | val v => cases hx

section
variable {W : Wd} {A : Around} {Λ σ : List Addr} {E : Value → Shared → Prop} {s : Shared} {st : Sto} {sc : Scope} {env : Env} {ρ : En}

/-- the frame as the library's rules take it -/
theorem frame_of {h : Heap} (iv : Inv W σ Λ h st) (hE : EnvOk Λ sc env) (V : Vars Λ sc env ρ σ h) : ∃ m, Fr W.base env.locals h m := by
  obtain ⟨m, hn, _⟩ := V
  exact ⟨m, ⟨hn, iv.keep, (iv.new _ (.inr hE.loc)).1⟩⟩

theorem name_sound {C : Cx} (hC : CxOk W C) (hE : EnvOk Λ sc env) {x : Str} {pos : Pos} {Q : Value → Shared → Prop} (iv : Inv W σ Λ s.heap st) (V : Vars Λ sc env ρ σ s.heap)
    (H : Po W Λ NoX (relD Λ) E σ s (if badName x then Out.stuck else if isLoc sc x then ofO st (ρ.lookup x) else if sc.names.lookup x == some .globalImplicit then ofO st ((C.G x).map fun v => D.v (.val v)) else .stuck) Q) :
    wpAny (model W.prog W.w) A (eval (.Name x pos) env) Q E s := by
  have hk : env.scope.kind = .function := by rw [hE.scope]; exact hE.kind
  have hkind : ∀ k, sc.names.lookup x = some k → env.kindOf x = some k := fun k e => by unfold Env.kindOf; rw [hE.scope]; exact e
  split at H
  · exact H.elim
  · rename_i hd
    unfold badName at hd
    rw [Bool.or_eq_true, not_or] at hd
    have hd' : (x == ("__debug__" : Str)) = false := by simpa using hd.1
    have hcd : (x == ("__classdict__" : Str)) = false := by simpa using hd.2
    split at H
    · rename_i hl
      cases hρ : ρ.lookup x with
      | none => rw [hρ] at H; exact H.elim
      | some d =>
        rw [hρ] at H
        obtain ⟨m, hn, V⟩ := V
        unfold isLoc at hl
        simp only [Bool.or_eq_true, beq_iff_eq] at hl
        rcases hl with (hl | hl) | hl
        · obtain ⟨v, hv, r⟩ := (V x d hρ).1 hl
          exact wpAny_Name (wpAny_loadName_local hk (hkind _ hl) hn hv (H.now iv r)) hd'
        · obtain ⟨c, o, v, hc, ho, hod, _, r⟩ := (V x d hρ).2 (.inl hl)
          exact wpAny_Name (wpAny_loadName_cell hk (hkind _ hl) hc ⟨o, ho, hod⟩ (H.now iv r)) hd'
        · obtain ⟨c, o, v, hc, ho, hod, _, r⟩ := (V x d hρ).2 (.inr hl)
          exact wpAny_Name (wpAny_loadName_free hk (hkind _ hl) hc ⟨o, ho, hod⟩ (H.now iv r) hcd) hd'
    · split at H
      · rename_i hg
        have hg : sc.names.lookup x = some .globalImplicit := by simpa using hg
        cases hG : C.G x with
        | none => rw [hG] at H; exact H.elim
        | some v =>
          rw [hG] at H
          have fin : Q v s := H.now iv rfl
          have gk := W.T.g.keeps iv.keep
          have bk := W.T.b.keeps iv.keep
          rcases hC.G x v hG with e | ⟨e, hb, hn⟩
          · exact Name_function_global hk (hkind _ hg) (loadGlobal_global (by rw [hE.globals]; exact gk) (mg_of W.X W.T.g e) fin) hd'
          · exact Name_function_global hk (hkind _ hg) (loadGlobal_builtin (by rw [hE.globals]; exact gk) (mg_none_of W.X W.T.g e) (by rw [hE.builtins]; exact bk) ((W.T.builtins x hn).trans hb) fin) hd'
      · exact H.elim

theorem eval_call {f : PySem.Expr} {args : List PySem.Expr} {pos : Pos} (h : isAttr f = false) : eval (.Call f args [] pos) env = (eval f env >>= fun v => callWith pos v [] (backTo pos (starEach args env)) []) := by
  cases f <;> first | rfl | cases h

theorem args_sound {I : In} (hE : EnvOk Λ sc env) (hI : IE W A I) {pos : Pos} {f : Value} {first : List Value} {args : List PySem.Expr} {Q : Value → Shared → Prop} (hns : noStar args = true)
    (hk : ∀ h, W.K.In h → ∃ k, (k = Keeper.frame ∨ k = Keeper.machine ∨ k = Keeper.boundFrame) ∧ Looks (model W.prog W.w) h (keeperOf f) k)
    (iv : Inv W σ Λ s.heap st) (V : Vars Λ sc env ρ σ s.heap)
    (H : Po W Λ NoX (relDs Λ) E σ s (evs (I.ex sc ρ) args st) (fun vs s₁ => W.K.In s₁.heap ∧ wpAny (model W.prog W.w) A (call f (first ++ vs)) Q E s₁)) :
    wpAny (model W.prog W.w) A (callWith pos f first (backTo pos (starEach args env)) []) Q E s := by
  refine callWith_of (P := W.K.In) (by rw [star_any hns]; rfl) hk ?_
  cases args with
  | nil => exact evalArgs_nil3 (by exact H.now (b := []) (tk := s.toks) iv trivial)
  | cons e r =>
    have he : isStar e = false := by
      unfold noStar at hns
      rw [List.all_cons] at hns
      simpa using (Bool.and_eq_true_iff.mp hns).1
    have q := evs_sound (pos := pos) hE hI (e :: r) hns iv V H
    rw [star_not he] at q ⊢
    exact evalArgs_plain q

end
end Mine

end

section
open PySem PySem.W PySem.Spec PySem.Calls PyProof.Rows
set_option maxRecDepth 100000
namespace Mine

section
variable {W : Wd} {A : Around} {Λ σ : List Addr} {E : Value → Shared → Prop} {s : Shared} {st : Sto} {sc : Scope} {env : Env} {ρ : En}

theorem part_sound {x : Option PySem.Expr} {k : Option Nat} {Q : Value → Shared → Prop} (e : partI x = some k) (q : ∀ v tk, IsPart v (k.map (Nat.cast : Nat → Int)) → Q v { s with toks := tk }) : wpAny (model W.prog W.w) A (evalPart x env) Q E s := by
  unfold partI at e
  split at e
  · cases e
    exact wpAny_pure (q .none s.toks .none)
  · split at e
    · rename_i i k0 p0 hi
      cases e
      refine wpAny_Constant_int (k := k0) (pos := p0) (q _ (s.toks + 1) ?_)
      have : (Option.map (Nat.cast : Nat → Int) (some i.toNat)) = some i := by simp; omega
      rw [this]
      exact .int i _
    · cases e
  · cases e

theorem slice_sound {I : In} (hE : EnvOk Λ sc env) (hI : IE W A I) {o : PySem.Expr} {lo hi : Option PySem.Expr} {p pos : Pos} {Q : Value → Shared → Prop} (iv : Inv W σ Λ s.heap st) (V : Vars Λ sc env ρ σ s.heap)
    (H : Po W Λ NoX (relD Λ) E σ s ((I.ex sc ρ o st).bind fun d st => match d, partI lo, partI hi with
      | .v (.lst l), some a, some b => if szOk l.length then ofO st ((cutL l a b).map fun m => D.v (.lst m)) else .stuck
      | _, _, _ => .stuck) Q) : wpAny (model W.prog W.w) A (eval (.Subscript o (.Slice lo hi none p) pos) env) Q E s := by
  refine Subscript_ (hI Λ sc env ρ o hE E σ s st _ iv V (Po.seq0 H fun d st₁ σ₁ h₁ tk₁ v f₁ k₁ i₁ r₁ H₁ => ?_))
  split at H₁
  · rename_i l a b ha hb
    split at H₁
    · rename_i hz
      rw [ofO_map] at H₁
      split at H₁
      · rename_i m hm
        refine wpAny_Slice (part_sound ha fun vl tk₂ hl => part_sound hb fun vu tk₃ hu => wpAny_pure ?_)
        obtain ⟨q, ob, vs, n, rfl, hB, ho, hc, hd, hr⟩ := r₁
        have hl1 : h₁.IsList q vs.toArray := ⟨ob, ho, hc, n, hd⟩
        have cut : ∃ ws, slicePick vs.toArray (a.map (Nat.cast : Nat → Int)) (b.map (Nat.cast : Nat → Int)) none = ws.toArray ∧ Reps (Bad σ₁ Λ) h₁ ws m := by
          unfold cutL at hm
          split at hm
          · cases hm
            exact ⟨vs.take _, by rw [Option.map_none, Option.map_some, slicePick_upto'], hr.take _⟩
          · cases hm
            exact ⟨vs.drop _, by rw [Option.map_none, Option.map_some, slicePick_from'], hr.drop _⟩
          · cases hm
        obtain ⟨ws, e, rw'⟩ := cut
        have i₂ := i₁.push { cls := .type "slice", data := .fields #[vl, vu, .none] }
        have r₂ := rw'.step (Λ := Λ) (σ' := σ₁) Fresh.refl (Kp.push ({ cls := .type "slice", data := .fields #[vl, vu, .none] } : Obj))
        have z := i₂.lst r₂
        obtain ⟨ops, hops⟩ := sub_ops (slice := .Slice lo hi none p) (o := .ref q) (i := .ref h₁.objs.size)
        have hl2 : (h₁.push { cls := .type "slice", data := .fields #[vl, vu, .none] }).IsList q vs.toArray := ⟨ob, Heap.get?_push_of_some _ ho, hc, n, hd⟩
        refine tail_any hl2.typeIs slot_list_getitem.lookup (wpAny_getItem_list_slice hl2 (sl := h₁.objs.size) ?_ hl hu .none (by intro q; cases q) ?_ ?_) hops
        · exact ⟨_, Heap.get?_push_size _ rfl, rfl, rfl⟩
        · dsimp only
          rw [e]
          exact H₁ σ₁ _ tk₃ _ Fresh.refl (Kp.trans (Kp.push _) (Kp.push _) fun _ _ q => q) (i₂.push _) z
        · rw [List.size_toArray, hr.length]
          exact Nat.le_trans (of_decide_eq_true hz) (by decide)
      · exact H₁.elim
    · exact H₁.elim
  · exact H₁.elim

/-- the chain of comparisons -/
theorem marked_not {env : Env} : ∀ {ops : List CmpOp} {cs : List PySem.Expr}, noDisp cs = true → markedEach ops cs (evalEach cs env) = evalEach cs env
  | [], cs, _ => by unfold markedEach; rfl
  | [op], [], _ => rfl
  | [op], [e], h => by
    have h' : isDisp e = false := by simpa [noDisp] using h
    show [markedBehindIn op e (eval e env)] = [eval e env]
    have : behindInMarks op e = false := by cases e <;> first | rfl | cases h'
    unfold markedBehindIn
    rw [this]
  | [op], e :: e' :: r, h => by
    unfold noDisp at h
    rw [List.all_cons] at h
    show eval e env :: markedEach [] (e' :: r) (evalEach (e' :: r) env) = _
    rw [marked_not (ops := []) (by unfold noDisp; exact (Bool.and_eq_true_iff.mp h).2)]
    rfl
  | op :: op' :: ops, [], _ => rfl
  | op :: op' :: ops, e :: r, h => by
    unfold noDisp at h
    rw [List.all_cons] at h
    show eval e env :: markedEach (op' :: ops) r (evalEach r env) = _
    rw [marked_not (by unfold noDisp; exact (Bool.and_eq_true_iff.mp h).2)]
    rfl

theorem chain_sound {I : In} (hA : AOk A) (hE : EnvOk Λ sc env) (hI : IE W A I) {pos : Pos} : ∀ {ops : List CmpOp} {cs : List PySem.Expr} {a : D} {va : Value} {σ : List Addr} {s : Shared} {st : Sto} {Q : Value → Shared → Prop},
    ops.length = cs.length → Inv W σ Λ s.heap st → Vars Λ sc env ρ σ s.heap → RepD σ (Bad σ Λ) s.heap va a →
    Po W Λ NoX relB E σ s (chain (I.ex sc ρ) a ops cs st) (fun b s' => Q (.bool b) s') → wpAny (model W.prog W.w) A (compareChain pos va ops (evalEach cs env)) Q E s
  | [op], [r], a, va, σ, s, st, Q, _, iv, V, ra, H => by
    show wpAny _ _ (holding [va] (eval r env) >>= fun rv => standAt pos >>= fun _ => operate [va, rv] (compareOp op va rv)) _ _ _
    unfold chain at H
    refine wpAny_bind (wpAny_holding (hI Λ sc env ρ r hE E σ s st _ iv V (Po.seq0 H fun d st₁ σ₁ h₁ tk₁ v f₁ k₁ i₁ r₁ H₁ => ?_)))
    refine wpAny_bind (wpAny_standAt (wpAny_operateT ?_))
    cases hc : cmp op a d st₁ with
    | none => rw [hc] at H₁; exact H₁.elim
    | some c =>
      rw [hc] at H₁
      exact cmp_sound hA i₁ (ra.step f₁ (k₁.weak fun a q => q.elim .inl fun q => q.elim)) r₁ hc (H₁.now (b := c) i₁ rfl)
  | op :: op' :: ops, r :: r' :: rs, a, va, σ, s, st, Q, hl, iv, V, ra, H => by
    show wpAny _ _ (holding [va] (eval r env) >>= fun rv => standAt pos >>= fun _ => holding [va, rv] (compareOp op va rv) >>= fun c => release [va, rv] [c] >>= fun _ => holding [c, rv] (truthy c) >>= fun t =>
      if t = true then compareChain pos rv (op' :: ops) (evalEach (r' :: rs) env) else pure c) _ _ _
    unfold chain at H
    refine wpAny_bind (wpAny_holding (hI Λ sc env ρ r hE E σ s st _ iv V (Po.seq0 H fun d st₁ σ₁ h₁ tk₁ v f₁ k₁ i₁ r₁ H₁ => ?_)))
    refine wpAny_bind (wpAny_standAt (wpAny_bind (wpAny_holding ?_)))
    have V₁ := V.step (iv.sigma hE.loc) f₁ k₁
    cases hc : cmp op a d st₁ with
    | none => rw [hc] at H₁; exact H₁.elim
    | some c =>
      rw [hc] at H₁
      refine cmp_sound hA i₁ (ra.step f₁ (k₁.weak fun a q => q.elim .inl fun q => q.elim)) r₁ hc (wpAny_bind (wpAny_release (wpAny_bind (wpAny_holding (wpAny_truthy_bool ?_)))))
      cases c with
      | true => exact chain_sound hA hE hI (by simpa using hl) i₁ V₁ r₁ H₁
      | false => exact wpAny_pure (H₁.now (b := false) i₁ rfl)
  | [], _, _, _, _, _, _, _, _, _, _, _, H => by exact False.elim (by unfold chain at H; exact H)
  | [_], [], _, _, _, _, _, _, hl, _, _, _, _ => by cases hl
  | [_], _ :: _ :: _, _, _, _, _, _, _, hl, _, _, _, _ => by cases hl
  | _ :: _ :: _, [], _, _, _, _, _, _, hl, _, _, _, _ => by cases hl
  | _ :: _ :: _, [_], _, _, _, _, _, _, hl, _, _, _, _ => by cases hl

/-- the same where only its truth is asked -/
theorem testChain_sound {I : In} (hA : AOk A) (hE : EnvOk Λ sc env) (hI : IE W A I) {pos : Pos} : ∀ {ops : List CmpOp} {cs : List PySem.Expr} {a : D} {va : Value} {σ : List Addr} {s : Shared} {st : Sto} {Q : Bool → Shared → Prop},
    ops.length = cs.length → Inv W σ Λ s.heap st → Vars Λ sc env ρ σ s.heap → RepD σ (Bad σ Λ) s.heap va a →
    Po W Λ NoX relB E σ s (chain (I.ex sc ρ) a ops cs st) Q → wpAny (model W.prog W.w) A (testChain pos va ops (evalEach cs env)) Q E s
  | [op], [r], a, va, σ, s, st, Q, _, iv, V, ra, H => by
    show wpAny _ _ (holding [va] (eval r env) >>= fun rv => standAt pos >>= fun _ => operate [va, rv] (compareOp op va rv) >>= fun c => holding [c] (truthy c)) _ _ _
    unfold chain at H
    refine wpAny_bind (wpAny_holding (hI Λ sc env ρ r hE E σ s st _ iv V (Po.seq0 H fun d st₁ σ₁ h₁ tk₁ v f₁ k₁ i₁ r₁ H₁ => ?_)))
    refine wpAny_bind (wpAny_standAt (wpAny_bind (wpAny_operateT ?_)))
    cases hc : cmp op a d st₁ with
    | none => rw [hc] at H₁; exact H₁.elim
    | some c =>
      rw [hc] at H₁
      exact cmp_sound hA i₁ (ra.step f₁ (k₁.weak fun a q => q.elim .inl fun q => q.elim)) r₁ hc (wpAny_holding (wpAny_truthy_bool (H₁.now (b := c) i₁ rfl)))
  | op :: op' :: ops, r :: r' :: rs, a, va, σ, s, st, Q, hl, iv, V, ra, H => by
    show wpAny _ _ (holding [va] (eval r env) >>= fun rv => standAt pos >>= fun _ => holding [va, rv] (compareOp op va rv) >>= fun c => release [va, rv] [c] >>= fun _ => holding [c, rv] (truthy c) >>= fun t =>
      if t = true then testChain pos rv (op' :: ops) (evalEach (r' :: rs) env) else pure false) _ _ _
    unfold chain at H
    refine wpAny_bind (wpAny_holding (hI Λ sc env ρ r hE E σ s st _ iv V (Po.seq0 H fun d st₁ σ₁ h₁ tk₁ v f₁ k₁ i₁ r₁ H₁ => ?_)))
    refine wpAny_bind (wpAny_standAt (wpAny_bind (wpAny_holding ?_)))
    have V₁ := V.step (iv.sigma hE.loc) f₁ k₁
    cases hc : cmp op a d st₁ with
    | none => rw [hc] at H₁; exact H₁.elim
    | some c =>
      rw [hc] at H₁
      refine cmp_sound hA i₁ (ra.step f₁ (k₁.weak fun a q => q.elim .inl fun q => q.elim)) r₁ hc (wpAny_bind (wpAny_release (wpAny_bind (wpAny_holding (wpAny_truthy_bool ?_)))))
      cases c with
      | true => exact testChain_sound hA hE hI (by simpa using hl) i₁ V₁ r₁ H₁
      | false => exact wpAny_pure (H₁.now (b := false) i₁ rfl)
  | [], _, _, _, _, _, _, _, _, _, _, _, H => by exact False.elim (by unfold chain at H; exact H)
  | [_], [], _, _, _, _, _, _, hl, _, _, _, _ => by cases hl
  | [_], _ :: _ :: _, _, _, _, _, _, _, hl, _, _, _, _ => by cases hl
  | _ :: _ :: _, [], _, _, _, _, _, _, hl, _, _, _, _ => by cases hl
  | _ :: _ :: _, [_], _, _, _, _, _, _, hl, _, _, _, _ => by cases hl

/-- tests joined by and, or -/
theorem allT_sound {I : In} (hE : EnvOk Λ sc env) (hT : IT W A I) : ∀ {op : BoolOp} {es : List PySem.Expr} {σ : List Addr} {s : Shared} {st : Sto} {Q : Bool → Shared → Prop},
    Inv W σ Λ s.heap st → Vars Λ sc env ρ σ s.heap → Po W Λ NoX relB E σ s (allT (I.tt sc ρ) op es st) Q → wpAny (model W.prog W.w) A (allTrue op es env) Q E s
  | .And, [], σ, s, st, Q, iv, V, H => wpAny_pure (H.now (b := true) iv rfl)
  | .Or, [], σ, s, st, Q, iv, V, H => wpAny_pure (H.now (b := false) iv rfl)
  | .And, e :: es, σ, s, st, Q, iv, V, H => by
    unfold allT at H
    refine wpAny_allTrue_And_cons (hT Λ sc env ρ e hE E σ s st _ iv V (Po.seq0 H fun d st₁ σ₁ h₁ tk₁ v f₁ k₁ i₁ r₁ H₁ => ?_))
    have r₁ : v = d := r₁
    subst r₁
    have V₁ := V.step (iv.sigma hE.loc) f₁ k₁
    cases v with
    | true => exact allT_sound hE hT i₁ V₁ H₁
    | false => exact H₁.now (b := false) i₁ rfl
  | .Or, e :: es, σ, s, st, Q, iv, V, H => by
    unfold allT at H
    refine wpAny_allTrue_Or_cons (hT Λ sc env ρ e hE E σ s st _ iv V (Po.seq0 H fun d st₁ σ₁ h₁ tk₁ v f₁ k₁ i₁ r₁ H₁ => ?_))
    have r₁ : v = d := r₁
    subst r₁
    have V₁ := V.step (iv.sigma hE.loc) f₁ k₁
    cases v with
    | true => exact H₁.now (b := true) i₁ rfl
    | false => exact allT_sound hE hT i₁ V₁ H₁

theorem boolV_sound {I : In} (hE : EnvOk Λ sc env) (hI : IE W A I) {op : BoolOp} {pos : Pos} : ∀ {es : List PySem.Expr} {σ : List Addr} {s : Shared} {st : Sto} {Q : Value → Shared → Prop},
    Inv W σ Λ s.heap st → Vars Λ sc env ρ σ s.heap → Po W Λ NoX (relD Λ) E σ s (boolV (I.ex sc ρ) op es st) Q → wpAny (model W.prog W.w) A (boolOp pos op (evalEach es env)) Q E s
  | [], σ, s, st, Q, iv, V, H => by exact False.elim (by unfold boolV at H; exact H)
  | [e], σ, s, st, Q, iv, V, H => hI Λ sc env ρ e hE E σ s st _ iv V H
  | e :: e' :: es, σ, s, st, Q, iv, V, H => by
    show wpAny _ _ (eval e env >>= fun v => standAt pos >>= fun _ => holding [v] (truthy v) >>= fun t => match op, t with
      | .And, false | .Or, true => pure v
      | _, _ => boolOp pos op (evalEach (e' :: es) env)) _ _ _
    unfold boolV at H
    refine wpAny_bind (hI Λ sc env ρ e hE E σ s st _ iv V (Po.seq0 H fun d st₁ σ₁ h₁ tk₁ v f₁ k₁ i₁ r₁ H₁ => ?_))
    refine wpAny_bind (wpAny_standAt (wpAny_bind (wpAny_holding ?_)))
    have V₁ := V.step (iv.sigma hE.loc) f₁ k₁
    cases ht : truth d with
    | none => rw [ht] at H₁; cases op <;> exact H₁.elim
    | some t =>
      rw [ht] at H₁
      refine truth_sound r₁ ht ?_
      cases op <;> cases t
      · exact wpAny_pure (H₁.now i₁ r₁)
      · exact boolV_sound hE hI i₁ V₁ H₁
      · exact boolV_sound hE hI i₁ V₁ H₁
      · exact wpAny_pure (H₁.now i₁ r₁)

end
end Mine

end

section
open PySem PySem.W PySem.Spec PySem.Calls PyProof.Rows
set_option maxRecDepth 100000
namespace Mine

section
variable {W : Wd} {A : Around} {Λ σ : List Addr} {E : Value → Shared → Prop} {s : Shared} {st : Sto} {sc : Scope} {env : Env} {ρ : En}

theorem eval_attr {o : PySem.Expr} {a : Str} {pos : Pos} : eval (.Attribute o a pos) env = (attributeBase o a env (eval o env) >>= fun v => standAt pos.atName >>= fun _ => holding [v] (getAttr v a true) >>= fun r => letTemporaryGo o v r >>= fun _ => pure r) := rfl
theorem eval_meth {o : PySem.Expr} {name : Str} {ap pos : Pos} {args : List PySem.Expr} : eval (.Call (.Attribute o name ap) args [] pos) env =
    (attributeBase o name env (eval o env) >>= fun ov => standAt ap.atName >>= fun _ => methodCall o name ap pos env ov (args.length + 0) (backTo pos (starEach args env)) []) := rfl

theorem methodCall_sound {o : PySem.Expr} {name : Str} {ap pos : Pos} {ov f : Value} {first : List Value} {args : List PySem.Expr} {Q : Value → Shared → Prop} (hns : noStar args = true) (hlen : args.length < 20) (hp : (ap.endLine == pos.line) = true)
    (hm : ∀ (pl : Sem Bool) (Q' : Value × List Value → Shared → Prop), Q' (f, first) s → wpAny (model W.prog W.w) A (getMethod ov name pl) Q' E s)
    (h : wpAny (model W.prog W.w) A (callWith pos f first (backTo pos (starEach args env)) []) Q E s) :
    wpAny (model W.prog W.w) A (methodCall o name ap pos env ov (args.length + 0) (backTo pos (starEach args env)) []) Q E s := by
  have few : methodCallForm (args.length + 0) (backTo pos (starEach args env)) ([] : List (Option Str × Sem Value)) = true := by
    unfold methodCallForm
    rw [star_all hns]
    simp
    omega
  unfold methodCall
  rw [few]
  refine wpAny_bind (wpAny_holding ?_)
  show wpAny _ _ (getMethod ov name _) _ _ _
  refine hm _ _ ?_
  refine wpAny_bind ?_
  have : methodCallPos true o env ap pos = pure pos := by
    unfold methodCallPos
    rw [if_pos (by rw [hp]; rfl)]
  rw [this]
  exact wpAny_pure h

theorem builtin_keep {i : String} (h : Heap) (_ : W.K.In h) : ∃ k, (k = Keeper.frame ∨ k = Keeper.machine ∨ k = Keeper.boundFrame) ∧ Looks (model W.prog W.w) h (keeperOf (.builtin i)) k :=
  ⟨.machine, .inr (.inl rfl), Looks.of_pure rfl⟩

theorem bases_in {h : Heap} (iv : Inv W σ Λ h st) : W.K.In h := fun a o e => iv.keep _ _ (W.X a o e)

theorem reps_snoc {B : Addr → Prop} {h : Heap} : ∀ {l : List V} {us : List Value} {x : V}, Reps B h us (l ++ [x]) → ∃ up w, us = up ++ [w] ∧ Reps B h up l ∧ Rep B h w x
  | [], [u], x, r => ⟨[], u, rfl, trivial, r.1⟩
  | [], u :: _ :: _, x, r => r.2.elim
  | [], [], x, r => r.elim
  | y :: l, [], x, r => r.elim
  | y :: l, u :: us, x, r => by
    obtain ⟨up, w, rfl, r1, r2⟩ := reps_snoc (l := l) r.2
    exact ⟨u :: up, w, rfl, ⟨r.1, r1⟩, r2⟩

theorem pop_obj {h : Heap} {a : Addr} {p q : List Value} {y : Value} {n k : Nat} (ho : h.get? a = some { cls := .type "list", data := .seq (p ++ y :: q).toArray n }) (hk : k = p.length) :
    ∃ m, (h.update a (Obj.mapSeq fun xs => xs.eraseIdxIfInBounds k)).get? a = some { cls := .type "list", data := .seq (p ++ q).toArray m } := by
  subst hk
  have e : ∀ f : Array Value → Array Value, Obj.mapSeq f ({ cls := .type "list", data := .seq (p ++ y :: q).toArray n } : Obj) =
      { cls := .type "list", data := .seq (f (p ++ y :: q).toArray) (if (f (p ++ y :: q).toArray).size == (p ++ y :: q).toArray.size then n else n + 1) } := fun f => rfl
  have u := Heap.get?_update_self (Obj.mapSeq fun xs => xs.eraseIdxIfInBounds p.length) ho (by rw [e]; rfl)
  rw [e, kl_erase] at u
  exact ⟨_, u⟩

theorem Po.dead {α α' β : Type} {X : Addr → Prop} {Rel : List Addr → Heap → β → α' → Prop} {r : Out α} {f : α → Sto → Out α'} {Q : β → Shared → Prop} (H : Po W Λ X Rel E σ s (r.bind f) Q) (h : ∀ a st, f a st = .stuck) : False := by
  cases r with
  | ok a st => have : Po W Λ X Rel E σ s (f a st) Q := H; rw [h] at this; exact this
  | exc x st => exact H
  | stuck => exact H

theorem listM_sound {I : In} (hA : AOk A) (hE : EnvOk Λ sc env) (hI : IE W A I) {o : PySem.Expr} {name : Str} {ap pos : Pos} {i : Nat} {ov : Value} {args : List PySem.Expr} {Q : Value → Shared → Prop} (hns : noStar args = true) (hlen : args.length < 20) (hp : (ap.endLine == pos.line) = true)
    (iv : Inv W σ Λ s.heap st) (V : Vars Λ sc env ρ σ s.heap) (r : RepD σ (Bad σ Λ) s.heap ov (.m i))
    (H : Po W Λ NoX (relD Λ) E σ s ((evs (I.ex sc ρ) args st).bind fun ds st => listM name i ds st) Q) :
    wpAny (model W.prog W.w) A (methodCall o name ap pos env ov (args.length + 0) (backTo pos (starEach args env)) []) Q E s := by
  obtain ⟨a, ha, rfl⟩ := r
  have hl : i < st.length := by rw [← iv.store.1]; exact (List.getElem?_eq_some_iff.mp ha).1
  obtain ⟨vs, ⟨n, ho⟩, hr, _⟩ := iv.store.2.2 i a st[i] ha (List.getElem?_eq_getElem hl)
  by_cases hap : (name == Str.ofString "append") = true
  · have hap' := beq_iff_eq.mp hap
    subst hap'
    refine methodCall_sound hns hlen hp (f := .builtin "list.append") (first := [.ref a]) (fun pl Q' q => getMethod_builtin (T := "list") ⟨_, ho, rfl⟩ PySem.F.plainAttrs_list PySem.F.slot_list_append PySem.F.type_list_append (fun b e => by cases e; exact ⟨_, ho, rfl⟩) q) ?_
    refine args_sound hE hI hns builtin_keep iv V (Po.seq0 H fun ds st₁ σ₁ h₁ tk₁ ws f₁ k₁ i₁ r₁ H₁ => ⟨bases_in i₁, ?_⟩)
    unfold listM at H₁
    split at H₁
    · exact H₁.elim
    · rename_i l hl₁
      rw [if_pos hap] at H₁
      split at H₁
      · rename_i x
        split at H₁
        · rename_i hz
          match ws, r₁ with
          | [w], r₁ =>
          have ha₁ := f₁.get ha
          obtain ⟨us, ⟨n₁, ho₁⟩, hr₁, hln⟩ := i₁.store.2.2 i a l ha₁ hl₁
          have hz' : us.toArray.size ≤ sizeLine := by
            rw [List.size_toArray, hr₁.length]
            exact Nat.le_trans (of_decide_eq_true hz) (by decide)
          refine append_at (hsz := hz') ho₁ fun h' hs ho' => ?_
          have hnew : Reps (Bad σ₁ Λ) h₁ (us ++ [w]) (l ++ [x]) := hr₁.append ⟨r₁.1, trivial⟩
          have ho'' : h'.get? a = some { cls := .type "list", data := .seq (us ++ [w]).toArray (n₁ + 1) } := by rw [ho']; simp
          obtain ⟨i₂, k₂⟩ := i₁.setM ha₁ hs ho'' hnew (by rw [List.length_append]; exact Nat.succ_le_succ (of_decide_eq_true hz))
          exact H₁ σ₁ h' _ _ Fresh.refl (k₂.weak fun _ q => .inl q) i₂ rfl
        · exact H₁.elim
      · exact H₁.elim
  · by_cases hpp : (name == Str.ofString "pop") = true
    · have hap' := beq_iff_eq.mp hpp
      subst hap'
      refine methodCall_sound hns hlen hp (f := .builtin "list.pop") (first := [.ref a]) (fun pl Q' q => getMethod_builtin (T := "list") ⟨_, ho, rfl⟩ PySem.F.plainAttrs_list PySem.F.slot_list_pop PySem.F.type_list_pop (fun b e => by cases e; exact ⟨_, ho, rfl⟩) q) ?_
      refine args_sound hE hI hns builtin_keep iv V (Po.seq0 H fun ds st₁ σ₁ h₁ tk₁ ws f₁ k₁ i₁ r₁ H₁ => ⟨bases_in i₁, ?_⟩)
      unfold listM at H₁
      split at H₁
      · exact H₁.elim
      · rename_i l hl₁
        rw [if_neg hap, if_pos hpp] at H₁
        have ha₁ := f₁.get ha
        obtain ⟨us, ⟨n₁, ho₁⟩, hr₁, hln⟩ := i₁.store.2.2 i a l ha₁ hl₁
        split at H₁
        · match ws, r₁ with
          | [], r₁ =>
          split at H₁
          · rename_i x hx
            have hlx := List.getLast?_eq_some_iff.mp hx
            obtain ⟨p, hp⟩ := hlx
            subst hp
            rw [List.dropLast_concat] at H₁
            obtain ⟨up, w, rfl, r1, r2⟩ := reps_snoc hr₁
            have hz' : (up ++ [w]).toArray.size ≤ sizeLine := by
              rw [List.size_toArray, hr₁.length]
              exact Nat.le_trans hln (by decide)
            have hk : (up ++ [w]).toArray.size - 1 = up.length := by rw [List.size_toArray, List.length_append]; rfl
            have hy : (up ++ [w]).toArray[(up ++ [w]).toArray.size - 1]? = some w := by rw [hk]; simp
            refine call_meets PySem.F.slot_list_pop ⟨_, ho₁, rfl⟩ PySem.F.entry_list_pop (PySem.F.args_list_pop_1 _) (PySem.MeetsSeq.list_pop_last a _ n₁ w hy hz') ⟨ho₁, ?_⟩
            obtain ⟨m, ho'⟩ := pop_obj (q := []) ho₁ hk
            rw [List.append_nil] at ho'
            obtain ⟨i₂, k₂⟩ := i₁.setM ha₁ (Heap.SameBut.update ..) ho' r1 (by rw [List.length_append] at hln; exact Nat.le_trans (Nat.le_add_right _ _) hln)
            exact H₁ σ₁ _ _ _ Fresh.refl (k₂.weak fun _ q => .inl q) i₂ (Rep.step r2 Fresh.refl (k₂.weak fun _ q => .inl q))
          · exact H₁.elim
        · match ws, r₁ with
          | [w], r₁ =>
          split at H₁
          · rename_i x r
            obtain ⟨t, hw⟩ := r₁.1
            subst hw
            match us, hr₁, ho₁ with
            | u :: us, hr₁, ho₁ =>
            have hz' : (u :: us).toArray.size ≤ sizeLine := by
              rw [List.size_toArray, hr₁.length]
              exact Nat.le_trans hln (by decide)
            have hy : (u :: us).toArray[0]? = some u := by simp
            have hk : seqIndex? 0 (u :: us).toArray.size = some 0 := by
              unfold seqIndex?
              simp
            refine call_meets PySem.F.slot_list_pop ⟨_, ho₁, rfl⟩ PySem.F.entry_list_pop (PySem.F.args_list_pop_2 _ _) (PySem.MeetsSeq.list_pop_at a _ n₁ 0 t 0 u (by decide) hk hy hz') ⟨ho₁, ?_⟩
            obtain ⟨m, ho'⟩ := pop_obj (p := []) (k := 0) ho₁ rfl
            rw [List.nil_append] at ho'
            obtain ⟨i₂, k₂⟩ := i₁.setM ha₁ (Heap.SameBut.update ..) ho' hr₁.2 (Nat.le_trans (Nat.le_succ _) hln)
            exact H₁ σ₁ _ _ _ Fresh.refl (k₂.weak fun _ q => .inl q) i₂ (Rep.step hr₁.1 Fresh.refl (k₂.weak fun _ q => .inl q))
          · exact H₁.elim
        · exact H₁.elim
    · exact (Po.dead H fun ds st => by
        unfold listM
        split
        · rfl
        · rw [if_neg hap, if_neg hpp]).elim

end
end Mine

end

section
open PySem PySem.W PySem.Spec PySem.Calls PyProof.Rows
set_option maxRecDepth 100000
namespace Mine

section
variable {W : Wd} {A : Around} {Λ σ : List Addr} {E : Value → Shared → Prop} {s : Shared} {st : Sto} {sc : Scope} {env : Env} {ρ : En}

theorem RepDs.reps {B : Addr → Prop} {h : Heap} {σ : List Addr} {ds : List D} {vs : List Value} {l : List V} (q : RepDs σ B h vs ds) (e : vals ds = some l) : Reps B h vs l := vals_reps q e

theorem tuple_sound {I : In} (hE : EnvOk Λ sc env) (hI : IE W A I) {es : List PySem.Expr} {k : Nat} {pos : Pos} {Q : Value → Shared → Prop} (iv : Inv W σ Λ s.heap st) (V : Vars Λ sc env ρ σ s.heap)
    (H : Po W Λ NoX (relD Λ) E σ s (if noStar es && szOk es.length then (evs (I.ex sc ρ) es st).bind fun ds st => ofO st ((vals ds).map fun l => D.v (.tup l)) else .stuck) Q) :
    wpAny (model W.prog W.w) A (eval (.Tuple es k pos) env) Q E s := by
  split at H
  · rename_i hc
    obtain ⟨h1, h2⟩ := Bool.and_eq_true_iff.mp hc
    refine wpAny_Tuple_spliced (evs_sound hE hI es h1 iv V ?_)
    have hlen : ∀ ds st', evs (I.ex sc ρ) es st = .ok ds st' → ds.length ≤ 2 ^ 20 := fun ds st' e => by
      rw [evs_length e]; exact of_decide_eq_true h2
    revert hlen
    refine fun hlen => ?_
    cases he : evs (I.ex sc ρ) es st with
    | exc x st' => rw [he] at H; exact H
    | stuck => rw [he] at H; exact H
    | ok ds st' =>
      rw [he] at H
      have hl := hlen ds st' he
      intro σ₁ h₁ tk₁ vs f₁ k₁ i₁ r₁
      refine ⟨?_, ?_⟩
      · rw [RepDs.length r₁]; exact Nat.le_trans hl (by decide)
      · have H' : Po W Λ NoX (relD Λ) E σ s (ofO st' ((vals ds).map fun l => D.v (.tup l))) Q := H
        rw [ofO_map] at H'
        split at H'
        · rename_i l hv
          exact H' σ₁ _ tk₁ _ f₁ (k₁.trans (Kp.push _ (W := fun x => x ∈ σ ∨ NoX x)) fun _ _ q => q) (i₁.push _) (i₁.tup (vals_reps r₁ hv))
        · exact H'.elim
  · exact H.elim

theorem list_sound {C : Cx} {I : In} (hE : EnvOk Λ sc env) (hI : IE W A I) {es : List PySem.Expr} {pos : Pos} {Q : Value → Shared → Prop} (iv : Inv W σ Λ s.heap st) (V : Vars Λ sc env ρ σ s.heap)
    (H : Po W Λ NoX (relD Λ) E σ s (if noStar es && szOk es.length then (evs (I.ex sc ρ) es st).bind fun ds st => match vals ds with
      | some l => if C.mt pos then .ok (.m st.length) (st ++ [l]) else .ok (.v (.lst l)) st
      | Option.none => .stuck
      else .stuck) Q) :
    wpAny (model W.prog W.w) A (eval (.List es pos) env) Q E s := by
  split at H
  · rename_i hc
    obtain ⟨h1, h2⟩ := Bool.and_eq_true_iff.mp hc
    refine wpAny_List_spliced (evs_sound hE hI es h1 iv V ?_)
    cases he : evs (I.ex sc ρ) es st with
    | exc x st' => rw [he] at H; exact H
    | stuck => rw [he] at H; exact H
    | ok ds st' =>
      rw [he] at H
      have hl : ds.length ≤ 2 ^ 20 := by rw [evs_length he]; exact of_decide_eq_true h2
      intro σ₁ h₁ tk₁ vs f₁ k₁ i₁ r₁
      refine ⟨?_, ?_⟩
      · rw [RepDs.length r₁]; exact Nat.le_trans hl (by decide)
      · have H' : Po W Λ NoX (relD Λ) E σ s (match vals ds with
          | some l => if C.mt pos then .ok (.m st'.length) (st' ++ [l]) else .ok (.v (.lst l)) st'
          | Option.none => .stuck) Q := H
        split at H'
        · rename_i l hv
          have rr := vals_reps r₁ hv
          split at H'
          · obtain ⟨i₂, f₂⟩ := i₁.newM (n := 0) rr (by rw [← rr.length, RepDs.length r₁]; exact Nat.le_succ_of_le hl)
            refine H' _ _ tk₁ _ (f₁.trans f₂ k₁) (k₁.trans (Kp.push _ (W := fun x => x ∈ σ ∨ NoX x)) fun _ _ q => q) i₂ ⟨h₁.objs.size, ?_, rfl⟩
            rw [← i₁.store.1]; simp
          · exact H' σ₁ _ tk₁ _ f₁ (k₁.trans (Kp.push _ (W := fun x => x ∈ σ ∨ NoX x)) fun _ _ q => q) (i₁.push _) (i₁.lst rr)
        · exact H'.elim
  · exact H.elim

theorem step_tt {C : Cx} {I : In} {Φ : D → List D → Sto → Out D} (hA : AOk A) (hI : IE W A I) (hT : IT W A I) : IT W A (step C Φ I) := by
  intro Λ sc env ρ e hE E σ s st Q iv V H
  have plain : ∀ e, (PySem.isTrue e env (eval e env) = do let v ← eval e env; standAt e.pos; holding [v] (truthy v)) → Po W Λ NoX relB E σ s ((I.ex sc ρ e st).bind fun d st => ofO st (truth d)) Q →
      wpAny (model W.prog W.w) A (PySem.isTrue e env (eval e env)) Q E s := by
    intro e he H
    refine wpAny_isTrue_value (hI Λ sc env ρ e hE E σ s st _ iv V (Po.seq0 H fun d st₁ σ₁ h₁ tk₁ v f₁ k₁ i₁ r₁ H₁ => ?_)) he
    cases ht : truth d with
    | none => rw [ht] at H₁; exact H₁.elim
    | some t => rw [ht] at H₁; exact truth_sound r₁ ht (H₁.now (b := t) i₁ rfl)
  cases e with
  | UnaryOp op x pos =>
    cases op with
    | Not =>
      have H : Po W Λ NoX relB E σ s ((I.tt sc ρ x st).bind fun b st => .ok (!b) st) Q := H
      refine wpAny_isTrue_Not (hT Λ sc env ρ x hE E σ s st _ iv V (Po.seq0 H fun d st₁ σ₁ h₁ tk₁ v f₁ k₁ i₁ r₁ H₁ => ?_))
      have r₁ : v = d := r₁
      subst r₁
      exact H₁.now (b := !v) i₁ rfl
    | _ => exact plain _ rfl H
  | BoolOp op vs pos =>
    have H : Po W Λ NoX relB E σ s (allT (I.tt sc ρ) op vs st) Q := H
    exact wpAny_isTrue_BoolOp (allT_sound hE hT iv V H)
  | IfExp c a b pos =>
    have H : Po W Λ NoX relB E σ s ((I.tt sc ρ c st).bind fun t st => if t then I.tt sc ρ a st else I.tt sc ρ b st) Q := H
    show wpAny _ _ (PySem.isTrue c env (eval c env) >>= fun t => if t = true then PySem.isTrue a env (eval a env) else PySem.isTrue b env (eval b env)) _ _ _
    refine wpAny_bind (hT Λ sc env ρ c hE E σ s st _ iv V (Po.seq0 H fun d st₁ σ₁ h₁ tk₁ v f₁ k₁ i₁ r₁ H₁ => ?_))
    have r₁ : v = d := r₁
    subst r₁
    have V₁ := V.step (iv.sigma hE.loc) f₁ k₁
    cases v with
    | true => exact hT Λ sc env ρ a hE E σ₁ _ st₁ _ i₁ V₁ H₁
    | false => exact hT Λ sc env ρ b hE E σ₁ _ st₁ _ i₁ V₁ H₁
  | Compare l ops cs pos =>
    have H : Po W Λ NoX relB E σ s (if noDisp cs && ops.length == cs.length then (I.ex sc ρ l st).bind fun a st => chain (I.ex sc ρ) a ops cs st else .stuck) Q := H
    split at H
    · rename_i hc
      obtain ⟨h1, h2⟩ := Bool.and_eq_true_iff.mp hc
      show wpAny _ _ (eval l env >>= fun v => testChain pos v ops (markedEach ops cs (evalEach cs env))) _ _ _
      rw [marked_not h1]
      refine wpAny_bind (hI Λ sc env ρ l hE E σ s st _ iv V (Po.seq0 H fun d st₁ σ₁ h₁ tk₁ v f₁ k₁ i₁ r₁ H₁ => ?_))
      exact testChain_sound hA hE hI (by simpa using h2) i₁ (V.step (iv.sigma hE.loc) f₁ k₁) r₁ H₁
    · exact H.elim
  | _ => exact plain _ rfl H

end
end Mine

end

section
open PySem PySem.W PySem.Spec PySem.Calls PyProof.Rows
set_option maxRecDepth 100000
namespace Mine

noncomputable def ItSt (B : Addr → Prop) (h : Heap) (it : Addr) (l : List V) : Prop :=
  (∃ (a : Addr) (vs : List Value) (i : Nat), h.IsListIter it a i ∧ h.IsList a vs.toArray ∧ ¬ B a ∧ Reps B h (vs.drop i) l) ∨
  (∃ (a : Addr) (vs : List Value) (i : Nat), h.IsTupleIter it a i ∧ h.IsTuple a vs.toArray ∧ ¬ B a ∧ Reps B h (vs.drop i) l) ∨
  ∃ x left : Int, IsRangeIter h it x left 1 ∧ 0 ≤ left ∧ l = rngL x (x + left)

theorem ItSt.mono {B B' : Addr → Prop} {h h' : Heap} {it : Addr} {l : List V} (x : ItSt B h it l) (k : ∀ a o, h.get? a = some o → ¬ B a → h'.get? a = some o ∧ ¬ B' a) (hit : ∀ o, h.get? it = some o → h'.get? it = some o) : ItSt B' h' it l := by
  rcases x with ⟨a, vs, i, ⟨o, ho, h1⟩, ⟨o', ho', h2⟩, hb, r⟩ | ⟨a, vs, i, ⟨o, ho, h1⟩, ⟨o', ho', h2⟩, hb, r⟩ | ⟨x, left, h1, h2⟩
  · exact .inl ⟨a, vs, i, ⟨o, hit o ho, h1⟩, ⟨o', (k a o' ho' hb).1, h2⟩, (k a o' ho' hb).2, r.mono k⟩
  · exact .inr (.inl ⟨a, vs, i, ⟨o, hit o ho, h1⟩, ⟨o', (k a o' ho' hb).1, h2⟩, (k a o' ho' hb).2, r.mono k⟩)
  · exact .inr (.inr ⟨x, left, hit _ h1, h2⟩)

theorem drop_get {α : Type} {l r : List α} {i : Nat} {x : α} (h : l.drop i = x :: r) : l[i]? = some x ∧ l.drop (i + 1) = r := by
  have h1 : (l.drop i)[0]? = some x := by rw [h]; rfl
  rw [List.getElem?_drop] at h1
  refine ⟨by simpa using h1, ?_⟩
  have : (l.drop i).drop 1 = r := by rw [h]; rfl
  rw [List.drop_drop] at this
  exact this
theorem drop_none {α : Type} {l : List α} {i : Nat} (h : l.drop i = []) : l[i]? = none := by
  have h1 : (l.drop i)[0]? = none := by rw [h]; rfl
  rw [List.getElem?_drop] at h1
  simpa using h1
theorem reps_cons {B : Addr → Prop} {h : Heap} {us : List Value} {x : V} {l : List V} (r : Reps B h us (x :: l)) : ∃ u vs, us = u :: vs ∧ Rep B h u x ∧ Reps B h vs l := by
  cases us with
  | nil => exact r.elim
  | cons u vs => exact ⟨u, vs, rfl, r.1, r.2⟩
theorem reps_nil {B : Addr → Prop} {h : Heap} {us : List Value} (r : Reps B h us []) : us = [] := by
  cases us with
  | nil => rfl
  | cons u vs => exact r.elim

theorem rngL_cons {x left : Int} {y : V} {l : List V} (h : rngL x (x + left) = y :: l) : 0 < left ∧ y = .int x ∧ l = rngL (x + 1) (x + 1 + (left - 1)) := by
  unfold rngL at h ⊢
  have e : (x + left - x).toNat = left.toNat := by congr 1; omega
  rw [e] at h
  cases hn : left.toNat with
  | zero => rw [hn] at h; cases h
  | succ n =>
    rw [hn, List.range_succ_eq_map, List.map_cons, List.cons.injEq, List.map_map] at h
    have e' : (x + 1 + (left - 1) - (x + 1)).toNat = n := by omega
    rw [e']
    refine ⟨by omega, by rw [← h.1]; simp, ?_⟩
    rw [← h.2]
    apply List.map_congr_left
    intro i _
    simp only [Function.comp]
    congr 1
    push_cast
    omega
theorem rngL_nil {x left : Int} (h : rngL x (x + left) = []) : left ≤ 0 := by
  unfold rngL at h
  have e : (x + left - x).toNat = left.toNat := by congr 1; omega
  rw [e, List.map_eq_nil_iff, List.range_eq_nil] at h
  omega

section
variable {W : Wd} {A : Around} {Λ σ : List Addr} {E : Value → Shared → Prop} {s : Shared} {st : Sto} {sc : Scope} {env : Env} {ρ : En}

theorem it_next {it : Addr} {x : V} {l : List V} {Q : Option Value → Shared → Prop} (hl : it ∈ Λ) (I : ItSt (Bad σ Λ) s.heap it (x :: l))
    (q : ∀ h' tk v, Heap.SameBut it s.heap h' → (∃ o, h'.get? it = some o) → Rep (Bad σ Λ) h' v x → ItSt (Bad σ Λ) h' it l → Q (some v) { s with heap := h', toks := tk }) :
    wpAny (model W.prog W.w) A (pyNext (.ref it)) Q E s := by
  have hb : Bad σ Λ it := .inr hl
  rcases I with ⟨a, vs, i, h1, h2, hB, r⟩ | ⟨a, vs, i, h1, h2, hB, r⟩ | ⟨x', left, h1, h2, h3⟩
  · obtain ⟨u, us, he, r1, r2⟩ := reps_cons r
    obtain ⟨g1, g2⟩ := drop_get he
    refine wpAny_pyNext_list_item h1 h2 (by simpa using g1) fun h' j hs => ?_
    have hne : a ≠ it := fun e => hB (e ▸ hb)
    have al : ∃ o, h'.get? it = some o := by obtain ⟨o, ho, _⟩ := j; exact ⟨o, ho⟩
    obtain ⟨o, ho⟩ := al
    have kp : Kp (Bad σ Λ) s.heap h' := Kp.same hs hb ho
    refine q h' s.toks u hs ⟨o, ho⟩ (r1.step Fresh.refl kp) (.inl ⟨a, vs, i + 1, j, ?_, hB, ?_⟩)
    · obtain ⟨o', ho', z⟩ := h2
      exact ⟨o', kp.at ho' hB, z⟩
    · rw [g2]; exact r2.step Fresh.refl kp
  · obtain ⟨u, us, he, r1, r2⟩ := reps_cons r
    obtain ⟨g1, g2⟩ := drop_get he
    refine wpAny_pyNext_tuple_item h1 h2 (by simpa using g1) fun h' j hs => ?_
    have al : ∃ o, h'.get? it = some o := by obtain ⟨o, ho, _⟩ := j; exact ⟨o, ho⟩
    obtain ⟨o, ho⟩ := al
    have kp : Kp (Bad σ Λ) s.heap h' := Kp.same hs hb ho
    refine q h' s.toks u hs ⟨o, ho⟩ (r1.step Fresh.refl kp) (.inr (.inl ⟨a, vs, i + 1, j, ?_, hB, ?_⟩))
    · obtain ⟨o', ho', z⟩ := h2
      exact ⟨o', kp.at ho' hB, z⟩
    · rw [g2]; exact r2.step Fresh.refl kp
  · obtain ⟨g1, rfl, g3⟩ := rngL_cons h3.symm
    refine wpAny_pyNext_range_item h1 g1 fun h' j hs => ?_
    exact q h' (s.toks + 1) _ hs ⟨_, j⟩ ⟨_, rfl⟩ (.inr (.inr ⟨x' + 1, left - 1, j, by omega, g3⟩))

theorem it_end {it : Addr} {Q : Option Value → Shared → Prop} (hA : A.handled = none) (I : ItSt (Bad σ Λ) s.heap it [])
    (q : ∀ h', Heap.ExtBut it s.heap h' → Q none { s with heap := h' }) : wpAny (model W.prog W.w) A (pyNext (.ref it)) Q E s := by
  rcases I with ⟨a, vs, i, h1, h2, hB, r⟩ | ⟨a, vs, i, h1, h2, hB, r⟩ | ⟨x', left, h1, h2, h3⟩
  · exact wpAny_pyNext_list_end hA h1 h2 (by simpa using drop_none (reps_nil r)) q
  · exact wpAny_pyNext_tuple_end hA h1 h2 (by simpa using drop_none (reps_nil r)) q
  · exact wpAny_pyNext_range_end hA h1 (rngL_nil h3.symm) q

theorem lam_mv {h h' : Heap} {a : Addr} (n : h.get? a = none) (k : ∀ b o, h.get? b = some o → h'.get? b = some o) : ∀ b o, h.get? b = some o → ¬ Bad σ Λ b → h'.get? b = some o ∧ ¬ Bad σ (a :: Λ) b := fun b o e nb => ⟨k b o e, fun q => q.elim (fun q => nb (.inl q)) fun q => by
    rcases List.mem_cons.mp q with q | q
    · rw [q, n] at e; cases e
    · exact nb (.inr q)⟩

/-- an iterator that is new: nothing that stood has it -/
theorem it_start {d : D} {v : Value} {l : List V} {Q : Value → Shared → Prop} (iv : Inv W σ Λ s.heap st) (r : RepD σ (Bad σ Λ) s.heap v d) (e : itemsOf d = some l)
    (q : ∀ o, Inv W σ Λ (s.heap.push o) st → (s.heap.push o).get? s.heap.objs.size = some o → ItSt (Bad σ (s.heap.objs.size :: Λ)) (s.heap.push o) s.heap.objs.size l → Q (.ref s.heap.objs.size) { s with heap := s.heap.push o }) :
    wpAny (model W.prog W.w) A (pyIter v) Q E s := by
  have mv : ∀ o, ∀ b o', s.heap.get? b = some o' → ¬ Bad σ Λ b → (s.heap.push o).get? b = some o' ∧ ¬ Bad σ (s.heap.objs.size :: Λ) b := fun o => lam_mv get_size fun b o' e => Heap.get?_push_of_some _ e
  unfold itemsOf at e
  split at e
  · rename_i l'
    cases e
    have r : Rep (Bad σ Λ) s.heap v (.lst l) := r
    unfold Rep at r
    obtain ⟨a, ob, vs, n, rfl, hb, ho, hc, hd, hr⟩ := r
    refine wpAny_pyIter_list (items := vs.toArray) ⟨ob, ho, hc, n, hd⟩ (q _ (iv.push _) (Heap.get?_push_size _ rfl) (.inl ⟨a, vs, 0, ⟨_, Heap.get?_push_size _ rfl, rfl, rfl⟩, ⟨ob, Heap.get?_push_of_some _ ho, hc, n, hd⟩, (mv default a ob ho hb).2, ?_⟩))
    rw [List.drop_zero]
    exact hr.mono (mv _)
  · rename_i l'
    cases e
    have r : Rep (Bad σ Λ) s.heap v (.tup l) := r
    unfold Rep at r
    obtain ⟨a, vs, n, rfl, hb, ho, hr⟩ := r
    refine wpAny_pyIter_tuple (items := vs.toArray) ⟨_, ho, rfl, n, rfl⟩ (q _ (iv.push _) (Heap.get?_push_size _ rfl) (.inr (.inl ⟨a, vs, 0, ⟨_, Heap.get?_push_size _ rfl, rfl, rfl⟩, ⟨_, Heap.get?_push_of_some _ ho, rfl, n, rfl⟩, (mv default a _ ho hb).2, ?_⟩)))
    rw [List.drop_zero]
    exact hr.mono (mv _)
  · rename_i a b
    split at e
    · rename_i hab
      cases e
      have r : Rep (Bad σ Λ) s.heap v (.rng a b) := r
      unfold Rep at r
      obtain ⟨x, t, u, w, rfl, hb, ho⟩ := r
      have hsz : Builtin.Range.rangeSize a b 1 = if a < b then b - a else 0 := by
        unfold Builtin.Range.rangeSize
        rw [if_pos (by decide)]
        split
        · rw [Int.ediv_one]; omega
        · rfl
      have hsm : Builtin.Range.small a b 1 = true := by
        have fit : ∀ i : Int, -(2 ^ 62) ≤ i → i < 2 ^ 62 → Builtin.Range.rangeFitsLong i = true := fun i h1 h2 => by
          unfold Builtin.Range.rangeFitsLong
          rw [Bool.and_eq_true]
          exact ⟨decide_eq_true (by omega), decide_eq_true (by omega)⟩
        have ha1 : -(2 ^ 20) ≤ a := by omega
        have ha2 : a ≤ 2 ^ 20 := by omega
        have hb1 : -(2 ^ 20) ≤ b := by omega
        have hb2 : b ≤ 2 ^ 20 := by omega
        unfold Builtin.Range.small
        rw [hsz]
        rw [fit a (by omega) (by omega), fit b (by omega) (by omega), fit 1 (by decide) (by decide), fit (if a < b then b - a else 0) (by split <;> omega) (by split <;> omega)]
        have h1 : (1 : Int) > 0 := by decide
        rw [if_pos h1, fit (b + (1 - 1)) (by omega) (by omega)]
        simp only [Bool.or_true, Bool.and_true]
      refine wpAny_pyIter_range ho hsm (q _ (iv.push _) (Heap.get?_push_size _ rfl) (.inr (.inr ⟨a, _, Heap.get?_push_size _ rfl, ?_, ?_⟩)))
      · rw [hsz]; split <;> omega
      · rw [hsz]
        unfold rngL
        congr 2
        split <;> omega
    · cases e
  · cases e

/-- one more protected address, new -/
theorem Inv.lam {h : Heap} {a : Addr} {o : Obj} (I : Inv W σ Λ h st) (n : h.get? a = none) {h' : Heap} (k : ∀ b o, h.get? b = some o → h'.get? b = some o) (ho : h'.get? a = some o) (hb : W.base.objs.size ≤ a) : Inv W σ (a :: Λ) h' st := by
  have I' := I.grow k
  have mv : ∀ b o, h.get? b = some o → ¬ Bad σ Λ b → h'.get? b = some o ∧ ¬ Bad σ (a :: Λ) b := fun b o e nb => ⟨k b o e, fun q => q.elim (fun q => nb (.inl q)) fun q => by
    rcases List.mem_cons.mp q with q | q
    · rw [q, n] at e; cases e
    · exact nb (.inr q)⟩
  have mv' : ∀ b o, h.get? b = some o → b ≠ a := fun b o e q => by rw [q, n] at e; cases e
  refine ⟨I'.keep, fun b q => ?_, ⟨I.store.1, I.store.2.1, fun i b l e1 e2 => ?_⟩, fun b hb' q => ?_⟩
  · rcases q with q | q
    · exact I'.new b (.inl q)
    · rcases List.mem_cons.mp q with q | q
      · rw [q]; exact ⟨hb, o, ho⟩
      · exact I'.new b (.inr q)
  · obtain ⟨vs, q, r, z⟩ := I.store.2.2 i b l e1 e2
    exact ⟨vs, q.at fun o' e => k _ _ e, r.mono mv, z⟩
  · rcases List.mem_cons.mp q with q | q
    · obtain ⟨o', e⟩ := (I.new b (.inl hb')).2
      exact mv' b o' e q
    · exact I.apart b hb' q
theorem unlam_mv {h : Heap} {a : Addr} : ∀ b o, h.get? b = some o → ¬ Bad σ (a :: Λ) b → h.get? b = some o ∧ ¬ Bad σ Λ b := fun _ _ e n => ⟨e, fun q => n (q.elim .inl fun q => .inr (.tail _ q))⟩
theorem Inv.unlam {h : Heap} {a : Addr} (I : Inv W σ (a :: Λ) h st) : Inv W σ Λ h st :=
  ⟨I.keep, fun b q => I.new b (q.elim .inl fun q => .inr (.tail _ q)), ⟨I.store.1, I.store.2.1, fun i b l e1 e2 => by
    obtain ⟨vs, q, r, z⟩ := I.store.2.2 i b l e1 e2
    exact ⟨vs, q, r.mono unlam_mv, z⟩⟩, fun b hb q => I.apart b hb (.tail _ q)⟩
theorem RepD.mono {σ : List Addr} {B B' : Addr → Prop} {h h' : Heap} (k : ∀ a o, h.get? a = some o → ¬ B a → h'.get? a = some o ∧ ¬ B' a) {v : Value} {d : D} (r : RepD σ B h v d) : RepD σ B' h' v d := by
  cases d with
  | v x => exact Rep.mono k r
  | m i => exact r
theorem Vars.mono {Λ Λ' σ : List Addr} {h h' : Heap} (V : Vars Λ sc env ρ σ h) (k : ∀ a o, h.get? a = some o → ¬ Bad σ Λ a → h'.get? a = some o ∧ ¬ Bad σ Λ' a) (k' : ∀ a o, h.get? a = some o → (a = env.locals ∨ ∃ x, env.cells.lookup x = some a) → h'.get? a = some o) : Vars Λ' sc env ρ σ h' := by
  obtain ⟨m, hn, V⟩ := V
  refine ⟨m, ?_, fun x d e => ⟨fun q => ?_, fun q => ?_⟩⟩
  · obtain ⟨o, es, ep, ho, r⟩ := hn
    exact ⟨o, es, ep, k' _ _ ho (.inl rfl), r⟩
  · obtain ⟨v, a, b⟩ := (V x d e).1 q
    exact ⟨v, a, b.mono k⟩
  · obtain ⟨c, o, v, a, ho, hd, hc, b⟩ := (V x d e).2 q
    exact ⟨c, o, v, a, k' c o ho (.inr ⟨x, a⟩), hd, hc, b.mono k⟩

end
end Mine

end

section
open PySem PySem.W PySem.Spec PySem.Calls PyProof.Rows
set_option maxRecDepth 100000
namespace Mine

noncomputable def XL (env : Env) : Addr → Prop := fun a => a = env.locals ∨ ∃ x, env.cells.lookup x = some a
noncomputable def FlR (Λ σ : List Addr) (h : Heap) : Flow → Fl → Prop
  | .next, .next => True
  | .brk, .brk => True
  | .cont, .cont => True
  | .ret v, .ret d => RepD σ (Bad σ Λ) h v d
  | _, _ => False
noncomputable def relS (Λ : List Addr) (sc : Scope) (env : Env) : List Addr → Heap → Flow → Fl × En → Prop := fun σ h f p => FlR Λ σ h f p.1 ∧ Vars Λ sc env p.2 σ h
noncomputable def CellsOk (Λ : List Addr) (env : Env) : Prop := ∀ x c, env.cells.lookup x = some c → c ∈ Λ
noncomputable def IS (W : Wd) (A : Around) (I : In) : Prop := ∀ Λ sc env ρ b, EnvOk Λ sc env → CellsOk Λ env → SX W A Λ (XL env) (relS Λ sc env) (Vars Λ sc env ρ) (I.st sc ρ b) (exec b env)

theorem lookup_setE {x : Str} {d : D} : ∀ {ρ : En} {y : Str}, (setE x d ρ).lookup y = if y == x then some d else ρ.lookup y
  | [], y => by
    unfold setE
    rw [List.lookup_cons, List.lookup_nil]
    cases h : y == x <;> rfl
  | (z, e) :: r, y => by
    unfold setE
    by_cases hz : (x == z) = true
    · have hz' := beq_iff_eq.mp hz
      subst hz'
      rw [if_pos hz, List.lookup_cons, List.lookup_cons]
      cases h : y == x <;> rfl
    · rw [if_neg hz, List.lookup_cons, List.lookup_cons, lookup_setE]
      cases h : y == z with
      | true =>
        have : (y == x) = false := by
          have h' := beq_iff_eq.mp h
          subst h'
          cases q : y == x with
          | false => rfl
          | true => exact absurd (by rw [beq_iff_eq] at q ⊢; exact q.symm) hz
        rw [this]; rfl
      | false => rfl

theorem swaps_not {v : PySem.Expr} {t : Option PySem.Expr} {l : Nat} {env : Env} (h : isComp v = false) : swapsWith v t l env = pure false := by
  cases v <;> first | rfl | cases h
theorem swapped_env {ts : List PySem.Expr} {v : PySem.Expr} {env : Env} {sc : Scope} (h : env.scope = sc) : swappedStores ts v env = swappedStores ts v (envS sc) := by
  subst h; rfl

section
variable {W : Wd} {A : Around} {Λ σ : List Addr} {E : Value → Shared → Prop} {s : Shared} {st : Sto} {sc : Scope} {env : Env} {ρ : En}

/-- a protected object turned -/
theorem Inv.touch {h h' : Heap} {a : Addr} {o : Obj} (I : Inv W σ Λ h st) (hs : Heap.SameBut a h h') (ha : a ∈ Λ) (ho : h'.get? a = some o) : Inv W σ Λ h' st := by
  have kp : Kp (Bad σ Λ) h h' := Kp.same hs (.inr ha) ho
  have hne : ∀ b o, W.base.get? b = some o → b ≠ a := fun b o e q => by
    have := (I.new a (.inr ha)).1
    rw [← q] at this
    exact absurd (Heap.lt_size e) (Nat.not_lt.mpr this)
  refine ⟨fun b o e => (hs.2 b (hne b o e)).trans (I.keep b o e), fun b q => ⟨(I.new b q).1, ?_⟩, ⟨I.store.1, I.store.2.1, fun i b l e1 e2 => ?_⟩, I.apart⟩
  · obtain ⟨o, e⟩ := (I.new b q).2
    exact (kp b o e).2
  · obtain ⟨vs, q, r, z⟩ := I.store.2.2 i b l e1 e2
    have hb : b ≠ a := fun e => I.apart b (List.mem_of_getElem? e1) (e ▸ ha)
    exact ⟨vs, q.at fun o' e => (hs.2 b hb).trans e, r.step Fresh.refl kp, z⟩

theorem ns_obj {h : Heap} {a : Addr} {m : Str → Option Value} (n : h.Ns a m) : ∃ o, h.get? a = some o := by
  obtain ⟨o, es, ep, ho, _⟩ := n
  exact ⟨o, ho⟩

/-- the names behind a store -/
theorem Vars.set {h h' : Heap} {x : Str} {d : D} {v : Value} {m : Str → Option Value} (hloc : env.locals ∈ Λ) (hs : Heap.SameBut env.locals h h') (hm : h.Ns env.locals m) (hm' : h'.Ns env.locals (fun y => if y = x then some v else m y))
    (V : ∀ y d, ρ.lookup y = some d →
      (sc.names.lookup y = some .local → ∃ v, m y = some v ∧ RepD σ (Bad σ Λ) h v d) ∧
      (sc.names.lookup y = some .cell ∨ sc.names.lookup y = some .free → ∃ c o v, env.cells.lookup y = some c ∧ h.get? c = some o ∧ o.data = .cell (some v) ∧ c ∉ σ ∧ RepD σ (Bad σ Λ) h v d))
    (hx : sc.names.lookup x = some .local) (r : RepD σ (Bad σ Λ) h v d) : Vars Λ sc env (setE x d ρ) σ h' := by
  obtain ⟨o, ho⟩ := ns_obj hm'
  have kp : Kp (Bad σ Λ) h h' := Kp.same hs (.inr hloc) ho
  refine ⟨_, hm', fun y e he => ?_⟩
  rw [lookup_setE] at he
  by_cases hy : (y == x) = true
  · have hy' := beq_iff_eq.mp hy
    subst hy'
    rw [if_pos hy] at he
    cases he
    refine ⟨fun _ => ⟨v, if_pos rfl, r.step Fresh.refl kp⟩, fun q => ?_⟩
    rw [hx] at q
    rcases q with q | q <;> cases q
  · rw [if_neg hy] at he
    have hy' : ¬ y = x := fun q => hy (beq_iff_eq.mpr q)
    refine ⟨fun q => ?_, fun q => ?_⟩
    · obtain ⟨v, a, b⟩ := (V y e he).1 q
      exact ⟨v, by rw [if_neg hy']; exact a, b.step Fresh.refl kp⟩
    · obtain ⟨c, o', v, a, ho', hd, hc, b⟩ := (V y e he).2 q
      have hcl : c ≠ env.locals := fun q => by
        obtain ⟨o2, es, ep, h2, hd2, _⟩ := hm
        rw [← q, ho'] at h2
        cases h2
        rw [hd] at hd2; cases hd2
      exact ⟨c, o', v, a, (hs.2 c hcl).trans ho', hd, hc, b.step Fresh.refl kp⟩

theorem kind_false (hE : EnvOk Λ sc env) : (env.scope.kind == .class || (env.scope.kind == .module && env.locals != env.globals)) = false := by
  rw [hE.scope, hE.kind]; rfl

/-- one name stored -/
theorem store_one (hE : EnvOk Λ sc env) {x : Str} {d : D} {v : Value} {Q : Unit → Shared → Prop} (iv : Inv W σ Λ s.heap st) (V : Vars Λ sc env ρ σ s.heap) (hx : sc.names.lookup x = some .local) (r : RepD σ (Bad σ Λ) s.heap v d)
    (q : ∀ h' tk, Inv W σ Λ h' st → Kp (XL env) s.heap h' → Vars Λ sc env (setE x d ρ) σ h' → Q () { s with heap := h', toks := tk }) : wpAny (model W.prog W.w) A (storeName env x v) Q E s := by
  obtain ⟨m, hn, V⟩ := V
  refine wpAny_storeName_local (by unfold Env.kindOf; rw [hE.scope]; exact hx) hn (fun h' hn' hs => ?_) (kind_false hE)
  obtain ⟨o, ho⟩ := ns_obj hn'
  exact q h' (s.toks + 1) (iv.touch hs hE.loc ho) (Kp.same hs (.inl rfl) ho) (Vars.set hE.loc hs hn hn' V hx r)

/-- names stored in a row; the last one wins -/
theorem stores_sound (hE : EnvOk Λ sc env) : ∀ (zs : List (Str × Value)) (ts : List (Value → Sem Unit)) {s : Shared} {m : Str → Option Value} {Q : Unit → Shared → Prop}, ts.length = zs.length →
    (∀ (i : Nat) (z : Str × Value) (t : Value → Sem Unit), zs[i]? = some z → ts[i]? = some t → ∀ (v : Value) (s : Shared) (Q : Unit → Shared → Prop), wpAny (model W.prog W.w) A (storeName env z.1 v) Q E s → wpAny (model W.prog W.w) A (t v) Q E s) →
    (∀ z ∈ zs, sc.names.lookup z.1 = some .local) → Inv W σ Λ s.heap st → s.heap.Ns env.locals m →
    (∀ h' tk m', Inv W σ Λ h' st → Kp (· = env.locals) s.heap h' → h'.Ns env.locals m' → (∀ y, m' y = match zs.reverse.lookup y with | some v => some v | none => m y) → Q () { s with heap := h', toks := tk }) →
    wpAny (model W.prog W.w) A (assignInOrder ts (zs.map (·.2))) Q E s
  | [], [], s, m, Q, _, _, _, iv, hn, q => wpAny_assignInOrder_none (q s.heap s.toks m iv Kp.refl hn fun y => rfl)
  | z :: zs, t :: ts, s, m, Q, hl, ht, hz, iv, hn, q => by
    rw [List.map_cons]
    refine wpAny_assignInOrder_more (ht 0 z t rfl rfl z.2 s _ ?_)
    refine wpAny_storeName_local (by unfold Env.kindOf; rw [hE.scope]; exact hz z (.head _)) hn (fun h' hn' hs => ?_) (kind_false hE)
    obtain ⟨o, ho⟩ := ns_obj hn'
    refine stores_sound hE zs ts (m := fun y => if y = z.1 then some z.2 else m y) (by simpa using hl) (fun i z' t' e1 e2 => ht (i + 1) z' t' (by simpa using e1) (by simpa using e2)) (fun z' hz' => hz z' (.tail _ hz')) (iv.touch hs hE.loc ho) hn' fun h'' tk m' iv' k' hn'' hm' => ?_
    refine q h'' tk m' iv' ((Kp.same (W := fun a => a = env.locals) hs rfl ho).trans k' fun _ _ q => q) hn'' fun y => ?_
    rw [hm' y, List.reverse_cons, List.lookup_append]
    cases hzs : zs.reverse.lookup y with
    | some v => rfl
    | none =>
      rw [Option.none_or, List.lookup_cons, List.lookup_nil]
      by_cases hy : y = z.1
      · subst hy; simp
      · have : (y == z.1) = false := beq_eq_false_iff_ne.mpr hy
        rw [this]; simp [hy]
  | [], _ :: _, _, _, _, hl, _, _, _, _, _ => by cases hl
  | _ :: _, [], _, _, _, hl, _, _, _, _, _ => by cases hl

theorem putAll_spec : ∀ {xs : List Str} {l : List V} {ρ ρ' : En}, putAll sc xs l ρ = some ρ' → distinct xs = true → xs.length = l.length ∧ (∀ x ∈ xs, sc.names.lookup x = some .local) ∧
    ∀ y, ρ'.lookup y = match (xs.zip (l.map D.v)).lookup y with | some d => some d | none => ρ.lookup y
  | [], [], ρ, ρ', h, _ => by cases h; exact ⟨rfl, fun x hx => (nomatch hx), fun y => rfl⟩
  | x :: xs, v :: l, ρ, ρ', h, hd => by
    unfold putAll at h
    unfold distinct at hd
    obtain ⟨hd1, hd2⟩ := Bool.and_eq_true_iff.mp hd
    split at h
    · rename_i hx
      obtain ⟨a, b, c⟩ := putAll_spec h hd2
      refine ⟨congrArg (· + 1) a, fun y hy => ?_, fun y => ?_⟩
      · rcases List.mem_cons.mp hy with rfl | hy
        · simpa using hx
        · exact b y hy
      · rw [c y, List.map_cons, List.zip_cons_cons, List.lookup_cons, lookup_setE]
        cases hyx : y == x with
        | false => rfl
        | true =>
          have : (xs.zip (l.map D.v)).lookup y = none := by
            rw [List.lookup_eq_none_iff]
            intro p hp
            have hm := (List.of_mem_zip (a := p.1) (b := p.2) hp).1
            cases q : y == p.1 with
            | false => simp [bne, q]
            | true =>
              exfalso
              have e1 := beq_iff_eq.mp hyx
              have e2 := beq_iff_eq.mp q
              subst e1
              rw [← e2] at hm
              rw [Bool.not_eq_true', ← Bool.not_eq_true] at hd1
              exact hd1 (List.contains_iff_mem.mpr hm)
          rw [this]; rfl
    · cases h
  | [], _ :: _, _, _, h, _ => by cases h
  | _ :: _, [], _, _, h, _ => by cases h

theorem exs_sound {I : In} (hE : EnvOk Λ sc env) (hc : CellsOk Λ env) (hS : IS W A I) : ∀ (b : List Stmt) (ρ : En), SX W A Λ (XL env) (relS Λ sc env) (Vars Λ sc env ρ) (exs (fun ρ => I.st sc ρ) b ρ) (execs b env)
  | [], ρ => fun E σ s st Q iv V H => wpAny_execs_nil (Po.now (tk := s.toks) (b := Flow.next) H iv ⟨trivial, V⟩)
  | a :: b, ρ => fun E σ s st Q iv V H => by
    unfold exs at H
    refine wpAny_execs_cons (hS Λ sc env ρ a hE hc E σ s st _ iv V (Po.seq0 H fun p st₁ σ₁ h₁ tk₁ f f₁ k₁ i₁ r₁ H₁ => ?_))
    obtain ⟨fl, ρ₁⟩ := p
    obtain ⟨r₁, V₁⟩ := r₁
    cases fl with
    | next =>
      cases f with
      | next => exact exs_sound hE hc hS b ρ₁ E σ₁ _ st₁ _ i₁ V₁ H₁
      | _ => exact r₁.elim
    | brk =>
      cases f with
      | brk => exact Po.now (tk := tk₁) (b := Flow.brk) H₁ i₁ ⟨trivial, V₁⟩
      | _ => exact r₁.elim
    | cont =>
      cases f with
      | cont => exact Po.now (tk := tk₁) (b := Flow.cont) H₁ i₁ ⟨trivial, V₁⟩
      | _ => exact r₁.elim
    | ret d =>
      cases f with
      | ret v => exact Po.now (tk := tk₁) (b := Flow.ret v) H₁ i₁ ⟨r₁, V₁⟩
      | _ => exact r₁.elim

end
end Mine

end

section
open PySem PySem.W PySem.Spec PySem.Calls PyProof.Rows
set_option maxRecDepth 100000
namespace Mine

theorem each_spec {env : Env} : ∀ {ts : List PySem.Expr} {xs : List Str}, namesOf ts = some xs → (assignEach ts env).length = xs.length ∧ (assignEach ts env).findIdx? (·.1) = none ∧
    ∀ (i : Nat) (t : Value → Sem Unit), ((assignEach ts env).map (·.2))[i]? = some t → ∃ x p, xs[i]? = some x ∧ t = assign (.Name x p) env
  | [], xs, h => by cases h; exact ⟨rfl, rfl, fun i t e => by cases e⟩
  | a :: r, xs, h => by
    cases a with
    | Name x p =>
      unfold namesOf at h
      obtain ⟨ys, hy, rfl⟩ := Option.map_eq_some_iff.mp h
      obtain ⟨a, b, c⟩ := each_spec (env := env) hy
      have e : assignEach (.Name x p :: r) env = (false, assign (.Name x p) env) :: assignEach r env := rfl
      rw [e]
      refine ⟨congrArg (· + 1) a, by rw [List.findIdx?_cons, b]; rfl, fun i t ht => ?_⟩
      cases i with
      | zero => cases ht; exact ⟨x, p, rfl, rfl⟩
      | succ i => exact c i t (by simpa using ht)
    | _ => cases h

theorem zip_rep {B : Addr → Prop} {h : Heap} : ∀ {xs : List Str} {vs : List Value} {l : List V} (y : Str), xs.length = l.length → Reps B h vs l →
    (match (xs.zip (l.map D.v)).lookup y with | some d => ∃ v x, (xs.zip vs).lookup y = some v ∧ d = .v x ∧ Rep B h v x | none => (xs.zip vs).lookup y = none)
  | [], vs, l, y, hl, r => by
    cases l with
    | nil => rfl
    | cons a l => cases hl
  | x :: xs, vs, [], y, hl, r => by cases hl
  | x :: xs, [], a :: l, y, hl, r => r.elim
  | x :: xs, v :: vs, a :: l, y, hl, r => by
    have ih := zip_rep (xs := xs) (vs := vs) (l := l) y (by simpa using hl) r.2
    rw [List.map_cons, List.zip_cons_cons, List.zip_cons_cons, List.lookup_cons, List.lookup_cons]
    cases hb : y == x with
    | true => exact ⟨v, a, rfl, rfl, r.1⟩
    | false => exact ih

theorem lookup_rev {α : Type} : ∀ {xs : List Str} {vs : List α} (y : Str), distinct xs = true → xs.length = vs.length → (xs.zip vs).reverse.lookup y = (xs.zip vs).lookup y
  | [], vs, y, _, _ => by simp
  | x :: xs, [], y, _, h => by cases h
  | x :: xs, v :: vs, y, hd, hl => by
    unfold distinct at hd
    obtain ⟨hd1, hd2⟩ := Bool.and_eq_true_iff.mp hd
    rw [List.zip_cons_cons, List.reverse_cons, List.lookup_append, lookup_rev y hd2 (by simpa using hl), List.lookup_cons, List.lookup_cons, List.lookup_nil]
    cases hb : y == x with
    | false => simp
    | true =>
      have : (xs.zip vs).lookup y = none := by
        rw [List.lookup_eq_none_iff]
        intro p hp
        have hm := (List.of_mem_zip (a := p.1) (b := p.2) hp).1
        cases q : y == p.1 with
        | false => simp [bne, q]
        | true =>
          exfalso
          have e1 := beq_iff_eq.mp hb
          have e2 := beq_iff_eq.mp q
          subst e1
          rw [← e2] at hm
          rw [Bool.not_eq_true', ← Bool.not_eq_true] at hd1
          exact hd1 (List.contains_iff_mem.mpr hm)
      rw [this]; rfl

section
variable {W : Wd} {A : Around} {Λ σ : List Addr} {E : Value → Shared → Prop} {s : Shared} {st : Sto} {sc : Scope} {env : Env} {ρ : En}

theorem vars_put {h h' : Heap} {xs : List Str} {vs : List Value} {l : List V} {ρ' : En} {m m' : Str → Option Value} (hloc : env.locals ∈ Λ) (hm : h.Ns env.locals m)
    (V : ∀ y d, ρ.lookup y = some d →
      (sc.names.lookup y = some .local → ∃ v, m y = some v ∧ RepD σ (Bad σ Λ) h v d) ∧
      (sc.names.lookup y = some .cell ∨ sc.names.lookup y = some .free → ∃ c o v, env.cells.lookup y = some c ∧ h.get? c = some o ∧ o.data = .cell (some v) ∧ c ∉ σ ∧ RepD σ (Bad σ Λ) h v d))
    (kp : Kp (fun a => a = env.locals) h h') (hm' : h'.Ns env.locals m') (he : ∀ y, m' y = match (xs.zip vs).lookup y with | some v => some v | none => m y)
    (hl : xs.length = l.length) (hr : Reps (Bad σ Λ) h vs l) (hx : ∀ x ∈ xs, sc.names.lookup x = some .local)
    (hρ : ∀ y, ρ'.lookup y = match (xs.zip (l.map D.v)).lookup y with | some d => some d | none => ρ.lookup y) : Vars Λ sc env ρ' σ h' := by
  have kb : Kp (Bad σ Λ) h h' := kp.weak fun a q => .inr (q ▸ hloc)
  refine ⟨m', hm', fun y d e => ?_⟩
  have z := zip_rep (xs := xs) y hl hr
  rw [hρ y] at e
  cases hq : (xs.zip (l.map D.v)).lookup y with
  | some d' =>
    rw [hq] at e z
    cases e
    obtain ⟨v, x, h1, rfl, r⟩ := z
    refine ⟨fun _ => ⟨v, by rw [he y, h1], Rep.step r Fresh.refl kb⟩, fun q => ?_⟩
    have : y ∈ xs := by
      have := List.lookup_isSome_iff.mp (by rw [h1]; rfl : ((xs.zip vs).lookup y).isSome = true)
      obtain ⟨p, hp, e⟩ := this
      rw [beq_iff_eq.mp e]
      exact (List.of_mem_zip (a := p.1) (b := p.2) hp).1
    rw [hx y this] at q
    rcases q with q | q <;> cases q
  | none =>
    rw [hq] at e z
    refine ⟨fun q => ?_, fun q => ?_⟩
    · obtain ⟨v, a, b⟩ := (V y d e).1 q
      exact ⟨v, by rw [he y, z]; exact a, b.step Fresh.refl kb⟩
    · obtain ⟨c, o', v, a, ho', hd, hc, b⟩ := (V y d e).2 q
      have hcl : c ≠ env.locals := fun q => by
        obtain ⟨o2, es, ep, h2, hd2, _⟩ := hm
        rw [← q, ho'] at h2
        cases h2
        rw [hd] at hd2; cases hd2
      exact ⟨c, o', v, a, kp.at ho' hcl, hd, hc, b.step Fresh.refl kb⟩

theorem map_snd_zip {α β : Type} : ∀ {xs : List α} {vs : List β}, xs.length = vs.length → (xs.zip vs).map (·.2) = vs
  | [], [], _ => rfl
  | x :: xs, v :: vs, h => by rw [List.zip_cons_cons, List.map_cons, map_snd_zip (by simpa using h)]
  | [], _ :: _, h => by cases h
  | _ :: _, [], h => by cases h

theorem assign_tuple {I : In} (hA : AOk A) (hE : EnvOk Λ sc env) (hI : IE W A I) {ts : List PySem.Expr} {k : Nat} {tp pos : Pos} {e : PySem.Expr} {xs : List Str} {Q : Flow → Shared → Prop} (hc : isComp e = false) (hxs : namesOf ts = some xs) (hd : distinct xs = true)
    (hsw : swOk sc ts k tp e xs = true) (iv : Inv W σ Λ s.heap st) (V : Vars Λ sc env ρ σ s.heap)
    (H : Po W Λ (XL env) (relS Λ sc env) E σ s ((I.ex sc ρ e st).bind fun d st => match d with
          | .v (.tup l) => (match putAll sc xs l ρ with
            | some ρ' => .ok (.next, ρ') st
            | Option.none => .stuck)
          | _ => .stuck) Q) : wpAny (model W.prog W.w) A (exec (.Assign [.Tuple ts k tp] e pos) env) Q E s := by
  have hs : swapsWithSole [.Tuple ts k tp] e pos.line env = pure false := by
    unfold swapsWithSole
    exact swaps_not hc
  have nx : ∀ a, NoX a → XL env a := fun a q => q.elim
  -- what is left when the value is there
  have key : ∀ d st₁ σ₁ h₁ tk₁ v, Fresh σ σ₁ s.heap → Kp (fun x => x ∈ σ ∨ NoX x) s.heap h₁ → Inv W σ₁ Λ h₁ st₁ → RepD σ₁ (Bad σ₁ Λ) h₁ v d →
      Po W Λ (XL env) (relS Λ sc env) E σ₁ { s with heap := h₁, toks := tk₁ } ((match d with
          | .v (.tup l) => (match putAll sc xs l ρ with
            | some ρ' => .ok (.next, ρ') st₁
            | Option.none => .stuck)
          | _ => .stuck : Out (Fl × En))) Q →
      ∃ a vs n, v = .ref a ∧ h₁.get? a = some ({ cls := .type "tuple", data := .seq vs.toArray n } : Obj) ∧ xs.length = vs.length ∧
        ∀ (zs : List (Str × Value)) (tt : List (Value → Sem Unit)) (h' : Heap), (∀ b o, h₁.get? b = some o → h'.get? b = some o) → tt.length = zs.length →
          (∀ (i : Nat) (z : Str × Value) (t : Value → Sem Unit), zs[i]? = some z → tt[i]? = some t → ∀ (v : Value) (s : Shared) (Q : Unit → Shared → Prop), wpAny (model W.prog W.w) A (storeName env z.1 v) Q E s → wpAny (model W.prog W.w) A (t v) Q E s) →
          (∀ z ∈ zs, z.1 ∈ xs) → (∀ y, zs.reverse.lookup y = (xs.zip vs).lookup y) →
          wpAny (model W.prog W.w) A (assignInOrder tt (zs.map (·.2))) (fun _ => Q .next) E { s with heap := h', toks := tk₁ } := by
    intro d st₁ σ₁ h₁ tk₁ v f₁ k₁ i₁ r₁ H₁
    have V₁ := V.step (iv.sigma hE.loc) f₁ k₁
    split at H₁
    · rename_i l
      split at H₁
      · rename_i ρ' hput
        obtain ⟨p1, p2, p3⟩ := putAll_spec hput hd
        have r₁ : Rep (Bad σ₁ Λ) h₁ v (.tup l) := r₁
        unfold Rep at r₁
        obtain ⟨a, vs, n, rfl, hb, ho, hr⟩ := r₁
        refine ⟨a, vs, n, rfl, ho, p1.trans hr.length.symm, fun zs tt h' hk htl htt hzx hzl => ?_⟩
        obtain ⟨m, hm, Vm⟩ := V₁
        have hm1 : h'.Ns env.locals m := by
          obtain ⟨o, es, ep, ho, r⟩ := hm
          exact ⟨o, es, ep, hk _ _ ho, r⟩
        refine stores_sound (st := st₁) hE zs tt htl htt (fun z hz => p2 _ (hzx z hz)) (i₁.grow hk) hm1 fun h'' tk m' iv'' kk hm' he => ?_
        have kp : Kp (fun a => a = env.locals) h₁ h'' := (Kp.all (W := fun a => a = env.locals) hk).trans kk fun _ _ q => q
        refine H₁ σ₁ h'' tk .next Fresh.refl (kp.weak fun a q => .inr (.inl q)) iv'' ⟨trivial, ?_⟩
        exact vars_put hE.loc hm Vm kp hm' (fun y => by have := he y; rw [hzl y] at this; exact this) p1 hr p2 p3
      · exact H₁.elim
    · exact H₁.elim
  unfold swOk at hsw
  split at hsw
  · rename_i hnone
    refine Assign_Tuple (hI Λ sc env ρ e hE E σ s st _ iv V (Po.seq nx H fun d st₁ σ₁ h₁ tk₁ v f₁ k₁ i₁ r₁ H₁ => ?_)) hs (by rw [swapped_env hE.scope]; exact hnone)
    obtain ⟨a, vs, n, rfl, ho, hl, z⟩ := key d st₁ σ₁ h₁ tk₁ v f₁ k₁ i₁ r₁ H₁
    obtain ⟨e1, e2, e3⟩ := each_spec (env := env) hxs
    refine wpAny_assign_Tuple hA.handled (items := vs.toArray) ⟨_, ho, rfl, n, rfl⟩ (by rw [e1, hl]; simp) e2 fun h' hext => ?_
    have hk : ∀ b o, h₁.get? b = some o → h'.get? b = some o := fun b o e => hext b o (fun q => by rw [q, get_size] at e; cases e) e
    have := z (xs.zip vs) ((assignEach ts env).map (·.2)) h' hk (by rw [List.length_map, e1, List.length_zip, ← hl, Nat.min_self]) (fun i z t hz ht v s Q q => by
      obtain ⟨x, p, hx, rfl⟩ := e3 i t ht
      have : z.1 = x := by
        rw [List.getElem?_zip_eq_some] at hz
        have := hz.1.symm.trans hx
        exact Option.some.inj this
      rw [this] at q
      exact wpAny_assign_Name q) (fun z hz => (List.of_mem_zip (a := z.1) (b := z.2) hz).1) (fun y => lookup_rev y hd hl)
    rw [map_snd_zip hl] at this
    simpa using this
  · rename_i ys hsome
    have hy : ys = xs := by simpa using hsw
    subst hy
    refine Assign_Tuple_swapped (names := ys) (hI Λ sc env ρ e hE E σ s st _ iv V (Po.seq nx H fun d st₁ σ₁ h₁ tk₁ v f₁ k₁ i₁ r₁ H₁ => ?_)) hs (by rw [swapped_env hE.scope]; exact hsome)
    obtain ⟨a, vs, n, rfl, ho, hl, z⟩ := key d st₁ σ₁ h₁ tk₁ v f₁ k₁ i₁ r₁ H₁
    rw [hl]
    have hIT : IsTup h₁ a vs.toArray := ⟨_, ho, rfl, n, rfl⟩
    have hlen : vs.length = vs.toArray.size := by simp
    rw [hlen]
    refine unpackItems_tuple hA.handled hIT fun h' hext => ?_
    have hk : ∀ b o, h₁.get? b = some o → h'.get? b = some o := fun b o e => hext b o (fun q => by rw [q, get_size] at e; cases e) e
    have := z (ys.zip vs).reverse (ys.reverse.map fun n => bindName env n) h' hk (by simp [hl]) (fun i z t hz ht v s Q q => by
      have hi : i < ys.length := by
        have := (List.getElem?_eq_some_iff.mp ht).1
        simpa using this
      have e1 : (ys.zip vs).reverse[i]? = (ys.zip vs)[(ys.zip vs).length - 1 - i]? := List.getElem?_reverse (by simpa [hl] using hi)
      have e2 : ys.reverse[i]? = ys[ys.length - 1 - i]? := List.getElem?_reverse hi
      rw [List.getElem?_map, e2] at ht
      rw [e1, List.getElem?_zip_eq_some] at hz
      have hzl : (ys.zip vs).length = ys.length := by simp [hl]
      rw [hzl] at hz
      rw [hz.1] at ht
      cases ht
      exact wpAny_bindName q) (fun z hz => (List.of_mem_zip (a := z.1) (b := z.2) (List.mem_reverse.mp hz)).1) (fun y => by rw [List.reverse_reverse])
    have e2 : ((ys.zip vs).reverse.map (·.2)) = vs.reverse := by rw [List.map_reverse, map_snd_zip hl]
    rw [e2] at this
    simpa using this
  · cases hsw

end
end Mine

end

section
open PySem PySem.W PySem.Spec PySem.Calls PyProof.Rows
set_option maxRecDepth 100000
namespace Mine

section
variable {W : Wd} {A : Around} {Λ σ : List Addr} {E : Value → Shared → Prop} {s : Shared} {st : Sto} {sc : Scope} {env : Env} {ρ : En}

theorem Po.anyE {α β : Type} {X : Addr → Prop} {Rel : List Addr → Heap → β → α → Prop} {E E' : Value → Shared → Prop} {r : Out α} {Q : β → Shared → Prop} (H : Po W Λ X Rel E σ s r Q) : Po W Λ X Rel E' σ s r Q := H

/-- a part run from another state than the whole is asked from -/
theorem Po.sub {α α' β β' : Type} {Λ' σ₁ : List Addr} {s₁ : Shared} {X X' : Addr → Prop} {Rel : List Addr → Heap → β → α → Prop} {Rel' : List Addr → Heap → β' → α' → Prop} {E' : Value → Shared → Prop} {r : Out α} {f : α → Sto → Out α'} {Q' : β' → Shared → Prop} {Q : β → Shared → Prop}
    (H : Po W Λ X' Rel' E σ₁ s₁ (r.bind f) Q')
    (k : ∀ a st' σ' h' tk b, Fresh σ σ' s.heap → Kp (fun x => x ∈ σ ∨ X x) s.heap h' → Inv W σ' Λ' h' st' → Rel σ' h' b a → Po W Λ X' Rel' E σ₁ s₁ (f a st') Q' → Q b { s with heap := h', toks := tk }) :
    Po W Λ' X Rel E' σ s r Q := by
  cases r with
  | ok a st' => intro σ' h' tk b f1 k1 i1 r1; exact k a st' σ' h' tk b f1 k1 i1 r1 H
  | exc x st' => exact H
  | stuck => exact H

theorem while_sound {I : In} (hE : EnvOk Λ sc env) (hcl : CellsOk Λ env) (hT : IT W A I) (hS : IS W A I) {c : PySem.Expr} {b : List Stmt} {Q : Flow → Shared → Prop} {N : Nat}
    (iv : Inv W σ Λ s.heap st) (V : Vars Λ sc env ρ σ s.heap)
    (H : Po W Λ (XL env) (relS Λ sc env) E σ s (whileN (fun ρ st => I.tt sc ρ c st) (fun ρ st => exs (fun ρ => I.st sc ρ) b ρ st) N ρ st) Q) :
    codeAny (model W.prog W.w) A (.whileLoop c b [] env) (fun r s' => match r with | .ok f => Q f s' | .error e => cameBackBy (model W.prog W.w) A env E e s') s := by
  refine codeAny_whileLoop (fun k s₁ => ∃ ρ₁ σ₁ st₁, Inv W σ₁ Λ s₁.heap st₁ ∧ Vars Λ sc env ρ₁ σ₁ s₁.heap ∧
    Po W Λ (XL env) (relS Λ sc env) E σ₁ s₁ (whileN (fun ρ st => I.tt sc ρ c st) (fun ρ st => exs (fun ρ => I.st sc ρ) b ρ st) k ρ₁ st₁) Q) (fun k s₁ hI => ?_) N ⟨ρ, σ, st, iv, V, H⟩
  obtain ⟨ρ₁, σ₁, st₁, iv₁, V₁, H₁⟩ := hI
  cases k with
  | zero => exact H₁.elim
  | succ k =>
    unfold whileN at H₁
    have nx : ∀ a, NoX a → XL env a := fun a q => q.elim
    refine hT Λ sc env ρ₁ c hE _ σ₁ s₁ st₁ _ iv₁ V₁ (Po.seq nx (Po.anyE H₁) fun t st₂ σ₂ h₂ tk₂ v f₂ k₂ i₂ r₂ H₂ => ?_)
    have r₂ : v = t := r₂
    subst r₂
    have V₂ := V₁.step (iv₁.sigma hE.loc) f₂ k₂
    cases v with
    | false => exact wpAny_execs_nil (Po.now (tk := tk₂) (b := Flow.next) H₂ i₂ ⟨trivial, V₂⟩)
    | true =>
      rw [if_pos rfl] at H₂ ⊢
      refine exs_sound hE hcl hS b ρ₁ _ σ₂ _ st₂ _ i₂ V₂ (Po.seq0 (Po.anyE H₂) fun p st₃ σ₃ h₃ tk₃ f f₃ k₃ i₃ r₃ H₃ => ?_)
      obtain ⟨fl, ρ₃⟩ := p
      obtain ⟨r₃, V₃⟩ := r₃
      cases fl with
      | next =>
        cases f with
        | next => exact ⟨k, Nat.lt_succ_self _, ρ₃, σ₃, st₃, i₃, V₃, Po.anyE H₃⟩
        | _ => exact r₃.elim
      | brk =>
        cases f with
        | brk => exact Po.now (tk := tk₃) (b := Flow.next) H₃ i₃ ⟨trivial, V₃⟩
        | _ => exact r₃.elim
      | cont =>
        cases f with
        | cont => exact ⟨k, Nat.lt_succ_self _, ρ₃, σ₃, st₃, i₃, V₃, Po.anyE H₃⟩
        | _ => exact r₃.elim
      | ret d =>
        cases f with
        | ret v => exact Po.now (tk := tk₃) (b := Flow.ret v) H₃ i₃ ⟨r₃, V₃⟩
        | _ => exact r₃.elim

/-- the iterator goes -/
theorem Inv.drop {h h' : Heap} {it : Addr} (I : Inv W σ (it :: Λ) h st) (hn : it ∉ Λ) (x : Heap.ExtBut it h h') : Inv W σ Λ h' st := by
  have ne : ∀ b, Bad σ Λ b → b ≠ it := fun b q e => by
    subst e
    rcases q with q | q
    · exact I.apart b q (.head _)
    · exact hn q
  have mv : ∀ b o, h.get? b = some o → ¬ Bad σ (it :: Λ) b → h'.get? b = some o ∧ ¬ Bad σ Λ b := fun b o e n => ⟨x b o (fun q => n (.inr (q ▸ .head _))) e, fun q => n (q.elim .inl fun q => .inr (.tail _ q))⟩
  refine ⟨fun b o e => x b o (fun q => ?_) (I.keep b o e), fun b q => ⟨(I.new b (q.elim .inl fun q => .inr (.tail _ q))).1, ?_⟩, ⟨I.store.1, I.store.2.1, fun i b l e1 e2 => ?_⟩, fun b hb q => I.apart b hb (.tail _ q)⟩
  · have := (I.new it (.inr (.head _))).1
    rw [← q] at this
    exact absurd (Heap.lt_size e) (Nat.not_lt.mpr this)
  · obtain ⟨o, e⟩ := (I.new b (q.elim .inl fun q => .inr (.tail _ q))).2
    exact ⟨o, x b o (ne b q) e⟩
  · obtain ⟨vs, q, r, z⟩ := I.store.2.2 i b l e1 e2
    exact ⟨vs, q.at fun o e => x b o (ne b (.inl (List.mem_of_getElem? e1))) e, r.mono mv, z⟩

theorem Vars.drop {h h' : Heap} {it : Addr} (V : Vars (it :: Λ) sc env ρ σ h) (hl : env.locals ≠ it) (hc : ∀ x c, env.cells.lookup x = some c → c ≠ it) (x : Heap.ExtBut it h h') : Vars Λ sc env ρ σ h' :=
  V.mono (fun b o e n => ⟨x b o (fun q => n (.inr (q ▸ .head _))) e, fun q => n (q.elim .inl fun q => .inr (.tail _ q))⟩) fun b o e q => x b o (by
    rcases q with q | ⟨y, q⟩
    · rw [q]; exact hl
    · exact hc y b q) e

theorem EnvOk.lam (hE : EnvOk Λ sc env) (a : Addr) : EnvOk (a :: Λ) sc env := ⟨hE.kind, hE.scope, hE.globals, hE.builtins, .tail _ hE.loc, fun x c e => .tail _ (hE.cin x c e), hE.cells⟩

theorem FlR.unlam {h : Heap} {a : Addr} {f : Flow} {fl : Fl} (r : FlR (a :: Λ) σ h f fl) : FlR Λ σ h f fl := by
  cases f <;> cases fl <;> first | exact r | (exact RepD.mono unlam_mv r)
theorem Vars.unlam {h : Heap} {a : Addr} (V : Vars (a :: Λ) sc env ρ σ h) : Vars Λ sc env ρ σ h := V.mono unlam_mv fun _ _ e _ => e

/-- what is asked with one more protected place is less -/
theorem Po.lamS {X : Addr → Prop} {r : Out (Fl × En)} {Q : Flow → Shared → Prop} {a : Addr} (H : Po W Λ X (relS Λ sc env) E σ s r Q) : Po W (a :: Λ) X (relS (a :: Λ) sc env) E σ s r Q := by
  cases r with
  | ok p st' =>
    intro σ' h' tk b f k i q
    exact H σ' h' tk b f k i.unlam ⟨q.1.unlam, q.2.unlam⟩
  | exc x st' => exact H
  | stuck => exact H

theorem putT_name {t : PySem.Expr} {x : V} {ρ ρ' : En} (h : putT sc t x ρ = some ρ') : ∃ n p, t = .Name n p ∧ sc.names.lookup n = some .local ∧ ρ' = setE n (.v x) ρ := by
  unfold putT at h
  split at h
  · rename_i n p
    unfold putAll at h
    split at h
    · rename_i hx
      unfold putAll at h
      cases h
      exact ⟨n, p, rfl, by simpa using hx, rfl⟩
    · cases h
  · cases h

theorem for_sound {I : In} (hA : AOk A) (hE : EnvOk Λ sc env) (hcl : CellsOk Λ env) (hI : IE W A I) (hS : IS W A I) {t it : PySem.Expr} {b : List Stmt} {pos : Pos} {Q : Flow → Shared → Prop}
    (hd : isDisp it = false) (iv : Inv W σ Λ s.heap st) (V : Vars Λ sc env ρ σ s.heap)
    (H : Po W Λ (XL env) (relS Λ sc env) E σ s ((I.ex sc ρ it st).bind fun d st => match itemsOf d with
      | some l => forL (putT sc t) (fun ρ st => exs (fun ρ => I.st sc ρ) b ρ st) l ρ st
      | Option.none => .stuck) Q) : wpAny (model W.prog W.w) A (exec (.For t it b [] pos) env) Q E s := by
  have nx : ∀ a, NoX a → XL env a := fun a q => q.elim
  refine wpAny_For (hI Λ sc env ρ it hE E σ s st _ iv V (Po.seq nx H fun d st₁ σ₁ h₁ tk₁ v f₁ k₁ i₁ r₁ H₁ => ?_)) (fun x => by cases it <;> first | rfl | cases hd)
  have V₁ := V.step (iv.sigma hE.loc) f₁ k₁
  split at H₁
  · rename_i l hl
    refine it_start i₁ r₁ hl fun o i₂ ho hit => ?_
    have hnone : h₁.get? h₁.objs.size = none := get_size
    have hnl : h₁.objs.size ∉ Λ := fun q => i₁.newAddr (.inr q)
    have kpush : ∀ b o', h₁.get? b = some o' → (h₁.push o).get? b = some o' := fun b o' e => Heap.get?_push_of_some _ e
    have i₃ : Inv W σ₁ (h₁.objs.size :: Λ) (h₁.push o) st₁ := i₁.lam hnone kpush ho i₁.size
    have mv := lam_mv (σ := σ₁) (Λ := Λ) hnone kpush
    have V₃ : Vars (h₁.objs.size :: Λ) sc env ρ σ₁ (h₁.push o) := V₁.mono mv fun b o' e _ => kpush b o' e
    have hE' := hE.lam h₁.objs.size
    have hcl' : CellsOk (h₁.objs.size :: Λ) env := fun x c e => .tail _ (hcl x c e)
    have hlne : env.locals ≠ h₁.objs.size := fun q => hnl (q ▸ hE.loc)
    have hcne : ∀ x c, env.cells.lookup x = some c → c ≠ h₁.objs.size := fun x c e q => hnl (q ▸ hcl x c e)
    generalize hI0 : h₁.objs.size = it₀ at *
    refine codeAny_forLoop_any (fun k s₂ => ∃ h₂ tk₂ l₂ ρ₂ σ₂ st₂, s₂ = { s with heap := h₂, toks := tk₂ } ∧ k = List.length (α := Mine.V) l₂ ∧ Fresh σ₁ σ₂ h₁ ∧ Kp (fun x => x ∈ σ₁ ∨ XL env x) h₁ h₂ ∧ Inv W σ₂ (it₀ :: Λ) h₂ st₂ ∧ ItSt (Bad σ₂ (it₀ :: Λ)) h₂ it₀ l₂ ∧
      Vars (it₀ :: Λ) sc env ρ₂ σ₂ h₂ ∧ Po W Λ (XL env) (relS Λ sc env) E σ₁ { s with heap := h₁, toks := tk₁ } (forL (putT sc t) (fun ρ st => exs (fun ρ => I.st sc ρ) b ρ st) l₂ ρ₂ st₂) Q) (fun k s₂ hI2 => ?_) l.length
      ⟨_, tk₁, l, ρ, σ₁, st₁, rfl, rfl, Fresh.refl, Kp.push _, i₃, hit, V₃, H₁⟩
    obtain ⟨h₂, tk₂, l₂, ρ₂, σ₂, st₂, rfl, rfl, f₂, k₂, i₂', hit₂, V₂, H₂⟩ := hI2
    cases l₂ with
    | nil =>
      refine it_end hA.handled hit₂ fun h' hx => ?_
      unfold forL at H₂
      exact wpAny_execs_nil (H₂ σ₂ h' tk₂ .next f₂ (k₂.fin hnone hx) (i₂'.drop hnl hx) ⟨trivial, V₂.drop hlne hcne hx⟩)
    | cons x l₂ =>
      refine it_next (.head _) hit₂ fun h₃ tk₃ v₃ hs₃ al₃ r₃ hit₃ => ?_
      obtain ⟨o₃, al₃⟩ := al₃
      unfold forL at H₂
      split at H₂
      · exact H₂.elim
      · rename_i ρ₃ hput
        obtain ⟨n, p, rfl, hn, rfl⟩ := putT_name hput
        have i₃' := i₂'.touch hs₃ (.head _) al₃
        have kp₃ : Kp (fun x => x = it₀) h₂ h₃ := Kp.same hs₃ rfl al₃
        have V₃' : Vars (it₀ :: Λ) sc env ρ₂ σ₂ h₃ := V₂.mono (fun b o e nb => ⟨kp₃.at e fun q => nb (.inr (q ▸ .head _)), nb⟩) fun b o e q => kp₃.at e fun q' => by
          rcases q with q | ⟨y, q⟩
          · exact hlne (q.symm.trans q')
          · exact hcne y b q q'
        have hgo : wpAny (model W.prog W.w) A (letOwnedTupleGo (.Name n p) (.ref it₀) v₃) (fun _ s₁' => wpAny (model W.prog W.w) A (assign (.Name n p) env v₃) (fun _ s₂ => wpAny (model W.prog W.w) A (execs b env) (fun f s₃ => match f with
            | .next | .cont => ∃ m, m < (x :: l₂).length ∧ ∃ h₂ tk₂ l₂ ρ₂ σ₂ st₂, s₃ = { s with heap := h₂, toks := tk₂ } ∧ m = List.length (α := Mine.V) l₂ ∧ Fresh σ₁ σ₂ h₁ ∧ Kp (fun x => x ∈ σ₁ ∨ XL env x) h₁ h₂ ∧ Inv W σ₂ (it₀ :: Λ) h₂ st₂ ∧ ItSt (Bad σ₂ (it₀ :: Λ)) h₂ it₀ l₂ ∧
                Vars (it₀ :: Λ) sc env ρ₂ σ₂ h₂ ∧ Po W Λ (XL env) (relS Λ sc env) E σ₁ { s with heap := h₁, toks := tk₁ } (forL (putT sc (.Name n p)) (fun ρ st => exs (fun ρ => I.st sc ρ) b ρ st) l₂ ρ₂ st₂) Q
            | .brk => Q .next s₃
            | .ret v => Q (.ret v) s₃) (notedBy (model W.prog W.w) A env fun e s' => cameBackBy (model W.prog W.w) A env E e s') s₂) (notedBy (model W.prog W.w) A env fun e s' => cameBackBy (model W.prog W.w) A env E e s') s₁') (notedBy (model W.prog W.w) A env fun e s' => cameBackBy (model W.prog W.w) A env E e s') { s with heap := h₃, toks := tk₃ } := by
          refine wpAny_pure (wpAny_assign_Name (store_one (d := .v x) hE' i₃' V₃' hn r₃ fun h₄ tk₄ i₄ k₄ V₄ => ?_))
          have f₄ : Fresh σ₁ σ₂ h₁ := f₂
          have k₁₄ : Kp (fun x => x ∈ σ₁ ∨ XL env x) h₁ h₄ := by
            refine (k₂.trans kp₃ fun a al q => ?_).trans k₄ fun a _ q => .inr q
            obtain ⟨o, e⟩ := al
            rw [q, hnone] at e; cases e
          refine exs_sound hE' hcl' hS b _ _ σ₂ _ st₂ _ i₄ V₄ (Po.sub H₂ fun p₅ st₅ σ₅ h₅ tk₅ f f₅ k₅ i₅ r₅ H₅ => ?_)
          obtain ⟨fl, ρ₅⟩ := p₅
          obtain ⟨r₅, V₅⟩ := r₅
          have hit₅ : ItSt (Bad σ₅ (it₀ :: Λ)) h₅ it₀ l₂ := by
            have i1 : ItSt (Bad σ₂ (it₀ :: Λ)) h₄ it₀ l₂ := hit₃.mono (fun b o e nb => ⟨k₄.at e fun q => nb (.inr (by
              rcases q with q | ⟨y, q⟩
              · rw [q]; exact .tail _ hE.loc
              · exact .tail _ (hcl y b q))), nb⟩) fun o e => k₄.at e fun q => by
              rcases q with q | ⟨y, q⟩
              · exact hlne q.symm
              · exact hcne y _ q rfl
            refine i1.mono (fun b o e nb => ⟨k₅.at e fun q => nb ?_, fun q => nb ?_⟩) fun o e => k₅.at e fun q => ?_
            · rcases q with q | q | ⟨y, q⟩
              · exact .inl q
              · rw [q]; exact .inr (.tail _ hE.loc)
              · exact .inr (.tail _ (hcl y b q))
            · exact q.elim (fun q => .inl (f₅.low e q)) .inr
            · rcases q with q | q | ⟨y, q⟩
              · exact i₄.apart _ q (.head _)
              · exact hlne q.symm
              · exact hcne y _ q rfl
          have f₁₅ : Fresh σ₁ σ₅ h₁ := f₄.trans f₅ k₁₄
          have k₁₅ : Kp (fun x => x ∈ σ₁ ∨ XL env x) h₁ h₅ := k₁₄.trans k₅ fun a al q => q.elim (fun q => .inl (al.elim fun _ e => f₄.low e q)) .inr
          have fin : Inv W σ₅ Λ h₅ st₅ := i₅.unlam
          cases fl with
          | next =>
            cases f with
            | next => exact ⟨l₂.length, Nat.lt_succ_self _, h₅, tk₅, l₂, ρ₅, σ₅, st₅, rfl, rfl, f₁₅, k₁₅, i₅, hit₅, V₅, H₅⟩
            | _ => exact r₅.elim
          | brk =>
            cases f with
            | brk => exact H₅ σ₅ h₅ tk₅ .next f₁₅ k₁₅ fin ⟨trivial, V₅.unlam⟩
            | _ => exact r₅.elim
          | cont =>
            cases f with
            | cont => exact ⟨l₂.length, Nat.lt_succ_self _, h₅, tk₅, l₂, ρ₅, σ₅, st₅, rfl, rfl, f₁₅, k₁₅, i₅, hit₅, V₅, H₅⟩
            | _ => exact r₅.elim
          | ret d =>
            cases f with
            | ret v =>
              have r₅ : RepD σ₅ (Bad σ₅ (it₀ :: Λ)) h₅ v d := r₅
              exact H₅ σ₅ h₅ tk₅ (.ret v) f₁₅ k₁₅ fin ⟨r₅.mono unlam_mv, V₅.unlam⟩
            | _ => exact r₅.elim
        exact hgo
  · exact H₁.elim

end
end Mine

end

section
open PySem PySem.W PySem.Spec PySem.Calls PyProof.Rows
set_option maxRecDepth 100000
namespace Mine

theorem ints_are {B : Addr → Prop} {h : Heap} : ∀ {l : List V} {vs : List Value}, Reps B h vs l → allInt l = true → ∃ ns, IntsAre vs ns ∧ ns.length = l.length
  | [], [], _, _ => ⟨[], .nil, rfl⟩
  | .int i :: l, v :: vs, r, e => by
    obtain ⟨t, rfl⟩ := r.1
    obtain ⟨ns, a, b⟩ := ints_are r.2 e
    exact ⟨i :: ns, .cons i t a, congrArg (· + 1) b⟩
  | [], _ :: _, r, _ => r.elim
  | _ :: _, [], r, _ => r.elim
  | .none :: _, _ :: _, _, e => by cases e
  | .bool _ :: _, _ :: _, _, e => by cases e
  | .str _ :: _, _ :: _, _, e => by cases e
  | .tup _ :: _, _ :: _, _, e => by cases e
  | .lst _ :: _, _ :: _, _, e => by cases e
  | .inst _ _ _ :: _, _ :: _, _, e => by cases e
  | .rng _ _ :: _, _ :: _, _, e => by cases e
  | .val _ :: _, _ :: _, _, e => by cases e

section
variable {W : Wd} {A : Around} {Λ σ : List Addr} {E : Value → Shared → Prop} {s : Shared} {st : Sto} {sc : Scope} {env : Env} {ρ : En}

theorem setitem_sound (hE : EnvOk Λ sc env) {j : Nat} {l : List V} {z x : Int} {t u : Tok} {a : Addr} {Q : Flow → Shared → Prop} (iv : Inv W σ Λ s.heap st) (V : Vars Λ sc env ρ σ s.heap)
    (ha : σ[j]? = some a) (hl : st[j]? = some l) (hi : allInt l = true) (h0 : 0 ≤ z) (h1 : z < l.length) (h2 : z < 2 ^ 63)
    (H : Po W Λ (XL env) (relS Λ sc env) E σ s (.ok (.next, ρ) (st.set j (l.set z.toNat (.int x)))) Q) : wpAny (model W.prog W.w) A (setItem (.ref a) (.int z t) (.int x u)) (fun _ => Q .next) E s := by
  obtain ⟨vs, ⟨n, ho⟩, hr, hln⟩ := iv.store.2.2 j a l ha hl
  obtain ⟨ns, hns, hnl⟩ := ints_are hr hi
  obtain ⟨m, F⟩ := frame_of iv hE V
  have hσ : a ∈ σ := List.mem_of_getElem? ha
  have haL : a ≠ env.locals := fun q => iv.sigma hE.loc (q ▸ hσ)
  have hab : W.base.get? a = none := by
    cases q : W.base.get? a with
    | none => rfl
    | some o => exact absurd (Heap.lt_size q) (Nat.not_lt.mpr (iv.new a (.inl hσ)).1)
  let rest := (Alls W.base env.locals s.heap).filter fun p => p.1 != a
  have N : News W.base env.locals s.heap ((a, PySem.W.listOf vs.toArray n) :: rest) := fun p hp => by
    rcases List.mem_cons.mp hp with rfl | hp
    · exact ⟨ho, haL, hab⟩
    · exact news_alls p (List.mem_filter.mp hp).1
  have hne : ∀ p ∈ rest, p.1 ≠ a := fun p hp => by
    have := (List.mem_filter.mp hp).2
    simpa using this
  refine ksa_set F N (Upd.head hne) hns h0 (by rw [hnl]; exact h1) h2 fun h' F' N' _ _ _ => ?_
  have ho' : h'.get? a = some { cls := .type "list", data := .seq (vs.set z.toNat (.int x u)).toArray n } := (N' _ (.head _)).1
  have keep : ∀ b o, s.heap.get? b = some o → b ≠ a → b ≠ env.locals → h'.get? b = some o := fun b o e q1 q2 => by
    cases q : W.base.get? b with
    | some o' =>
      have := iv.keep b o' q
      rw [e] at this
      cases this
      exact F'.keep b o q
    | none => exact (N' (b, o) (.tail _ (List.mem_filter.mpr ⟨mem_alls.mpr ⟨e, q, q2⟩, by simpa using q1⟩))).1
  obtain ⟨oL, hoL⟩ := ns_obj F'.ns
  have kp : Kp (fun b => b = a ∨ b = env.locals) s.heap h' := fun b o e => by
    by_cases q1 : b = a
    · exact ⟨fun q => absurd (.inl q1) q, _, q1 ▸ ho'⟩
    · by_cases q2 : b = env.locals
      · exact ⟨fun q => absurd (.inr q2) q, _, q2 ▸ hoL⟩
      · exact ⟨fun _ => keep b o e q1 q2, o, keep b o e q1 q2⟩
  have kb : Kp (Bad σ Λ) s.heap h' := kp.weak fun b q => q.elim (fun q => .inl (q ▸ hσ)) fun q => .inr (q ▸ hE.loc)
  have hbase : ∀ b o, W.base.get? b = some o → h'.get? b = some o := F'.keep
  have iv' : Inv W σ Λ h' (st.set j (l.set z.toNat (.int x))) := by
    refine ⟨hbase, fun b q => ⟨(iv.new b q).1, ?_⟩, ⟨by rw [List.length_set]; exact iv.store.1, iv.store.2.1, fun i b m e1 e2 => ?_⟩, iv.apart⟩
    · obtain ⟨o, e⟩ := (iv.new b q).2
      exact (kp b o e).2
    · by_cases hj : i = j
      · subst hj
        rw [ha] at e1; cases e1
        rw [List.getElem?_set_self (by have := (List.getElem?_eq_some_iff.mp e2).1; simpa using this)] at e2
        cases e2
        exact ⟨_, ⟨n, ho'⟩, (Reps.set z.toNat hr (show Rep (Bad σ Λ) s.heap (.int x u) (.int x) from ⟨u, rfl⟩)).step Fresh.refl kb, by rw [List.length_set]; exact hln⟩
      · rw [List.getElem?_set_ne (Ne.symm hj)] at e2
        obtain ⟨ws, q, r', hz⟩ := iv.store.2.2 i b m e1 e2
        have hb : b ≠ a := fun e => by
          subst e
          exact hj ((List.getElem?_inj (List.getElem?_eq_some_iff.mp e1).1 iv.store.2.1).mp (e1.trans ha.symm))
        have hb2 : b ≠ env.locals := fun e => iv.sigma hE.loc (e ▸ List.mem_of_getElem? e1)
        exact ⟨ws, q.at fun o' e => keep b o' e hb hb2, r'.step Fresh.refl kb, hz⟩
  refine H σ h' s.toks .next Fresh.refl (kp.weak fun b q => q.elim (fun q => .inl (q ▸ hσ)) fun q => .inr (.inl q)) iv' ⟨trivial, ?_⟩
  obtain ⟨m0, hn, V⟩ := V
  have em : m = m0 := by
    funext y
    obtain ⟨o1, es1, ep1, g1, g2, g3, g4⟩ := hn
    obtain ⟨o2, es2, ep2, k1, k2, k3, k4⟩ := F.ns
    rw [g1] at k1
    cases k1
    rw [g2] at k2
    cases k2
    rw [← g4 y, ← k4 y]
  subst em
  refine ⟨m, F'.ns, fun y d e => ⟨fun q => ?_, fun q => ?_⟩⟩
  · obtain ⟨v, a1, b1⟩ := (V y d e).1 q
    exact ⟨v, a1, b1.step Fresh.refl kb⟩
  · obtain ⟨c, o', v, a1, ho', hd, hc, b1⟩ := (V y d e).2 q
    have hcl : c ≠ env.locals := fun q => by
      obtain ⟨o2, es, ep, h2, hd2, _⟩ := hn
      rw [← q, ho'] at h2
      cases h2
      rw [hd] at hd2; cases hd2
    exact ⟨c, o', v, a1, keep c o' ho' (fun q => hc (q ▸ hσ)) hcl, hd, hc, b1.step Fresh.refl kb⟩

theorem step_st {C : Cx} {I : In} {Φ : D → List D → Sto → Out D} (hA : AOk A) (hI : IE W A I) (hT : IT W A I) (hS : IS W A I) : IS W A (step C Φ I) := by
  intro Λ sc env ρ b hE hcl E σ s st Q iv V H
  have nx : ∀ a, NoX a → XL env a := fun a q => q.elim
  cases b with
  | Pass pos => exact wpAny_Pass (Po.now (tk := s.toks) (b := Flow.next) (a := (Fl.next, ρ)) (st := st) H iv ⟨trivial, V⟩)
  | Break pos => exact wpAny_Break (Po.now (tk := s.toks) (b := Flow.brk) (a := (Fl.brk, ρ)) (st := st) H iv ⟨trivial, V⟩)
  | Continue pos => exact wpAny_Continue (Po.now (tk := s.toks) (b := Flow.cont) (a := (Fl.cont, ρ)) (st := st) H iv ⟨trivial, V⟩)
  | Return e pos =>
    cases e with
    | none => exact False.elim H
    | some e =>
      have H : Po W Λ (XL env) (relS Λ sc env) E σ s ((I.ex sc ρ e st).bind fun d st => .ok (.ret d, ρ) st) Q := H
      refine wpAny_Return_some (hI Λ sc env ρ e hE E σ s st _ iv V (Po.seq nx H fun d st₁ σ₁ h₁ tk₁ v f₁ k₁ i₁ r₁ H₁ => ?_))
      exact Po.now (tk := tk₁) (b := Flow.ret v) H₁ i₁ ⟨r₁, V.step (iv.sigma hE.loc) f₁ k₁⟩
  | Expr e pos =>
    have H : Po W Λ (XL env) (relS Λ sc env) E σ s (if isComp e then .stuck else (I.ex sc ρ e st).bind fun _ st => .ok (.next, ρ) st) Q := H
    split at H
    · exact H.elim
    · rename_i hc
      refine wpAny_Expr_any (hI Λ sc env ρ e hE E σ s st _ iv V (Po.seq nx H fun d st₁ σ₁ h₁ tk₁ v f₁ k₁ i₁ r₁ H₁ => ?_)) (by unfold interactive; rw [hE.scope, hE.kind]; rfl) (swaps_not (by simpa using hc))
      exact Po.now (tk := tk₁) (b := Flow.next) H₁ i₁ ⟨trivial, V.step (iv.sigma hE.loc) f₁ k₁⟩
  | Assign ts e pos =>
    cases ts with
    | nil => exact False.elim H
    | cons t r =>
      cases r with
      | cons t' r' => cases t <;> exact False.elim H
      | nil =>
        cases t with
        | Name x p =>
          have H : Po W Λ (XL env) (relS Λ sc env) E σ s (if isComp e then .stuck else (I.ex sc ρ e st).bind fun d st => if sc.names.lookup x == some .local then .ok (.next, setE x d ρ) st else .stuck) Q := H
          split at H
          · exact H.elim
          · rename_i hc
            refine wpAny_Assign_Name (hI Λ sc env ρ e hE E σ s st _ iv V (Po.seq nx H fun d st₁ σ₁ h₁ tk₁ v f₁ k₁ i₁ r₁ H₁ => ?_)) (swaps_not (by simpa using hc))
            split at H₁
            · rename_i hx
              exact store_one hE i₁ (V.step (iv.sigma hE.loc) f₁ k₁) (by simpa using hx) r₁ fun h' tk iv' kp V' => H₁ σ₁ h' tk .next Fresh.refl (kp.weak fun _ q => .inr q) iv' ⟨trivial, V'⟩
            · exact H₁.elim
        | Tuple es k tp =>
          have H : Po W Λ (XL env) (relS Λ sc env) E σ s (if isComp e then .stuck else match namesOf es with
            | some xs => if distinct xs && swOk sc es k tp e xs then (I.ex sc ρ e st).bind fun d st => match d with
                | .v (.tup l) => (match putAll sc xs l ρ with
                  | some ρ' => .ok (.next, ρ') st
                  | Option.none => .stuck)
                | _ => .stuck
              else .stuck
            | Option.none => .stuck) Q := H
          split at H
          · exact H.elim
          · rename_i hc
            split at H
            · rename_i xs hxs
              split at H
              · rename_i hd
                obtain ⟨h1, h2⟩ := Bool.and_eq_true_iff.mp hd
                exact assign_tuple hA hE hI (by simpa using hc) hxs h1 h2 iv V H
              · exact H.elim
            · exact H.elim
        | Subscript o i sp =>
          have H : Po W Λ (XL env) (relS Λ sc env) E σ s (if isComp e || isStar i then .stuck else (I.ex sc ρ e st).bind fun d st => (I.ex sc ρ o st).bind fun a st => (I.ex sc ρ i st).bind fun k st => match d, a, k with
            | .v (.int x), .m j, .v (.int z) => (match st[j]? with
              | some l => if allInt l = true ∧ 0 ≤ z ∧ z < l.length ∧ z < 2 ^ 63 then .ok (.next, ρ) (st.set j (l.set z.toNat (.int x))) else .stuck
              | Option.none => .stuck)
            | _, _, _ => .stuck) Q := H
          split at H
          · exact H.elim
          · rename_i hc
            simp only [Bool.or_eq_true, not_or, Bool.not_eq_true] at hc
            refine wpAny_Assign_Subscript (hI Λ sc env ρ e hE E σ s st _ iv V (Po.seq nx H fun d st₁ σ₁ h₁ tk₁ v f₁ k₁ i₁ r₁ H₁ => ?_)) (swaps_not hc.1)
            have V₁ := V.step (iv.sigma hE.loc) f₁ k₁
            refine hI Λ sc env ρ o hE E σ₁ _ st₁ _ i₁ V₁ (Po.seq nx H₁ fun a st₂ σ₂ h₂ tk₂ va f₂ k₂ i₂ r₂ H₂ => ?_)
            have V₂ := V₁.step (i₁.sigma hE.loc) f₂ k₂
            refine hI Λ sc env ρ i hE E σ₂ _ st₂ _ i₂ V₂ (Po.seq nx H₂ fun k st₃ σ₃ h₃ tk₃ vk f₃ k₃ i₃ r₃ H₃ => ?_)
            have V₃ := V₂.step (i₂.sigma hE.loc) f₃ k₃
            split at H₃
            · rename_i x j z
              split at H₃
              · rename_i l hl
                split at H₃
                · rename_i hh
                  obtain ⟨u, rfl⟩ := r₁
                  obtain ⟨t, rfl⟩ := r₃
                  obtain ⟨ad, had, rfl⟩ := r₂
                  exact setitem_sound hE i₃ V₃ (f₃.get had) hl hh.1 hh.2.1 hh.2.2.1 hh.2.2.2 H₃
                · exact H₃.elim
              · exact H₃.elim
            · exact H₃.elim
        | _ => exact False.elim H
  | If c a b pos =>
    have H : Po W Λ (XL env) (relS Λ sc env) E σ s ((I.tt sc ρ c st).bind fun t st => if t then exs (fun ρ => I.st sc ρ) a ρ st else exs (fun ρ => I.st sc ρ) b ρ st) Q := H
    refine wpAny_If (hT Λ sc env ρ c hE E σ s st _ iv V (Po.seq nx H fun t st₁ σ₁ h₁ tk₁ v f₁ k₁ i₁ r₁ H₁ => ?_))
    have r₁ : v = t := r₁
    subst r₁
    have V₁ := V.step (iv.sigma hE.loc) f₁ k₁
    cases v with
    | true => exact exs_sound hE hcl hS a ρ E σ₁ _ st₁ _ i₁ V₁ H₁
    | false => exact exs_sound hE hcl hS b ρ E σ₁ _ st₁ _ i₁ V₁ H₁
  | While c b orelse pos =>
    cases orelse with
    | cons x r => exact False.elim H
    | nil => exact wpAny_While (while_sound hE hcl hT hS iv V H)
  | For t it b orelse pos =>
    cases orelse with
    | cons x r => exact False.elim H
    | nil =>
      have H : Po W Λ (XL env) (relS Λ sc env) E σ s (if isDisp it then .stuck else (I.ex sc ρ it st).bind fun d st => match itemsOf d with
        | some l => forL (putT sc t) (fun ρ st => exs (fun ρ => I.st sc ρ) b ρ st) l ρ st
        | Option.none => .stuck) Q := H
      split at H
      · exact H.elim
      · rename_i hd
        exact for_sound hA hE hcl hI hS (by simpa using hd) iv V H
  | _ => exact False.elim H

end
end Mine

end

section
open PySem PySem.W PySem.Spec PySem.Calls PyProof.Rows
set_option maxRecDepth 100000
namespace Mine

theorem Out.bind_assoc {α β γ : Type} {r : Out α} {f : α → Sto → Out β} {g : β → Sto → Out γ} : (r.bind f).bind g = r.bind fun a st => (f a st).bind g := by
  cases r <;> rfl

theorem closure_go {env : Env} (f : Str × NameKind → List (Str × Addr) → Sem (ForInStep (List (Str × Addr)))) (hf : ∀ x acc, x.2 = .free → f x acc = (cellOf env x.1 >>= fun a => pure (.yield ((x.1, a) :: acc)))) (hf' : ∀ x acc, x.2 ≠ .free → f x acc = pure (.yield acc)) :
    ∀ (names : List (Str × NameKind)) (acc : List (Str × Addr)), (∀ x ∈ names, x.2 = .free → ∃ c, env.cells.lookup x.1 = some c) → (∀ p ∈ acc, env.cells.lookup p.1 = some p.2) →
      ∃ cl, forIn names acc f = (pure cl : Sem _) ∧ (∀ p ∈ cl, env.cells.lookup p.1 = some p.2) ∧ (∀ x ∈ names, x.2 = .free → ∃ p ∈ cl, p.1 = x.1) ∧ ∀ p ∈ acc, p ∈ cl
  | [], acc, _, ha => ⟨acc, rfl, ha, fun x hx => (nomatch hx), fun p hp => hp⟩
  | x :: r, acc, h, ha => by
    by_cases hx : x.2 = .free
    · obtain ⟨c, hc⟩ := h x (.head _) hx
      obtain ⟨cl, h1, h2, h3, h4⟩ := closure_go f hf hf' r ((x.1, c) :: acc) (fun y hy => h y (.tail _ hy)) (fun p hp => by
        rcases List.mem_cons.mp hp with rfl | hp
        · exact hc
        · exact ha p hp)
      refine ⟨cl, ?_, h2, fun y hy e => ?_, fun p hp => h4 p (.tail _ hp)⟩
      · rw [List.forIn_cons, hf x acc hx]
        have : cellOf env x.1 = pure c := by unfold cellOf; rw [hc]
        rw [this]
        exact h1
      · rcases List.mem_cons.mp hy with rfl | hy
        · exact ⟨_, h4 _ (.head _), rfl⟩
        · exact h3 y hy e
    · obtain ⟨cl, h1, h2, h3, h4⟩ := closure_go f hf hf' r acc (fun y hy => h y (.tail _ hy)) ha
      refine ⟨cl, ?_, h2, fun y hy e => ?_, h4⟩
      · rw [List.forIn_cons, hf' x acc hx]
        exact h1
      · rcases List.mem_cons.mp hy with rfl | hy
        · exact absurd e hx
        · exact h3 y hy e

theorem closureFor_spec {scope : Scope} {env : Env} (h : ∀ x ∈ scope.names, x.2 = .free → ∃ c, env.cells.lookup x.1 = some c) :
    ∃ cl, closureFor scope env = pure cl ∧ (∀ x c, cl.lookup x = some c → env.cells.lookup x = some c) ∧ ∀ x ∈ scope.names, x.2 = .free → ∃ c, cl.lookup x.1 = some c := by
  obtain ⟨cl, h1, h2, h3, _⟩ := closure_go (env := env) (fun x cs => match x with
      | (name, kind) => if (kind == NameKind.free) = true then do let a ← cellOf env name; pure (ForInStep.yield ((name, a) :: cs)) else pure (ForInStep.yield cs))
    (fun x acc e => by
      obtain ⟨n, k⟩ := x
      have e : k = .free := e
      subst e; rfl) (fun x acc e => by
      obtain ⟨n, k⟩ := x
      have : (k == NameKind.free) = false := by simpa using e
      simp [this]) scope.names [] h (fun p hp => (nomatch hp))
  refine ⟨cl, ?_, fun x c e => ?_, fun x hx e => ?_⟩
  · have e : closureFor scope env = ((forIn scope.names [] fun x cs => match x with
      | (name, kind) => if (kind == NameKind.free) = true then do let a ← cellOf env name; pure (ForInStep.yield ((name, a) :: cs)) else pure (ForInStep.yield cs)) >>= fun cs => pure cs) := rfl
    rw [e, h1]
    rfl
  · have : (x, c) ∈ cl := by
      clear h1 h2 h3
      rename_i h4
      clear h4
      induction cl with
      | nil => cases e
      | cons p r ih =>
        rw [List.lookup_cons] at e
        cases q : x == p.1 with
        | true =>
          rw [q] at e
          cases e
          rw [beq_iff_eq.mp q]
          exact .head _
        | false =>
          rw [q] at e
          exact .tail _ (ih e)
    exact h2 (x, c) this
  · obtain ⟨p, hp, he⟩ := h3 x hx e
    cases q : cl.lookup x.1 with
    | some c => exact ⟨c, rfl⟩
    | none =>
      rw [List.lookup_eq_none_iff] at q
      have := q p hp
      rw [he] at this
      simp at this

section
variable {W : Wd} {A : Around} {Λ σ : List Addr} {E : Value → Shared → Prop} {s : Shared} {st : Sto} {sc : Scope} {env : Env} {ρ : En}

theorem it_iter {B : Addr → Prop} {it : Addr} {l : List V} {Q : Value → Shared → Prop} (I : ItSt B s.heap it l) (q : Q (.ref it) s) : wpAny (model W.prog W.w) A (pyIter (.ref it)) Q E s := by
  rcases I with ⟨a, vs, i, h1, _⟩ | ⟨a, vs, i, h1, _⟩ | ⟨x', left, h1, _⟩
  · exact wpAny_pyIter_listiter h1 q
  · exact wpAny_pyIter_tupleiter h1 q
  · exact wpAny_pyIter_rangeiter h1 q

/-- a protected thing that goes, in the midst -/
theorem Inv.dropAt {Λ' : List Addr} {h h' : Heap} {it : Addr} (I : Inv W σ Λ' h st) (hi : it ∈ Λ') (hs : ∀ a ∈ Λ, a ∈ Λ' ∧ a ≠ it) (hr : ∀ a ∈ Λ', a = it ∨ a ∈ Λ) (x : Heap.ExtBut it h h') : Inv W σ Λ h' st := by
  have ne : ∀ b, Bad σ Λ b → b ≠ it := fun b q e => by
    subst e
    rcases q with q | q
    · exact I.apart b q hi
    · exact (hs b q).2 rfl
  have up : ∀ b, Bad σ Λ b → Bad σ Λ' b := fun b q => q.elim .inl fun q => .inr (hs b q).1
  have mv : ∀ b o, h.get? b = some o → ¬ Bad σ Λ' b → h'.get? b = some o ∧ ¬ Bad σ Λ b := fun b o e n => ⟨x b o (fun q => n (.inr (q ▸ hi))) e, fun q => n (up b q)⟩
  refine ⟨fun b o e => x b o (fun q => ?_) (I.keep b o e), fun b q => ⟨(I.new b (up b q)).1, ?_⟩, ⟨I.store.1, I.store.2.1, fun i b l e1 e2 => ?_⟩, fun b hb q => I.apart b hb (hs b q).1⟩
  · have := (I.new it (.inr hi)).1
    rw [← q] at this
    exact absurd (Heap.lt_size e) (Nat.not_lt.mpr this)
  · obtain ⟨o, e⟩ := (I.new b (up b q)).2
    exact ⟨o, x b o (ne b q) e⟩
  · obtain ⟨vs, q, r, z⟩ := I.store.2.2 i b l e1 e2
    exact ⟨vs, q.at fun o e => x b o (ne b (.inl (List.mem_of_getElem? e1))) e, r.mono mv, z⟩

/-- a protected list becomes one of the store's -/
theorem Inv.moveM {h : Heap} {a : Addr} {vs : List Value} {l : List V} {n : Nat} (I : Inv W σ (a :: Λ) h st) (hn : a ∉ Λ) (ho : h.get? a = some { cls := .type "list", data := .seq vs.toArray n }) (r : Reps (Bad σ (a :: Λ)) h vs l) (hlen : l.length ≤ 2 ^ 20 + 1) :
    Inv W (σ ++ [a]) Λ h (st ++ [l]) := by
  have same : ∀ b, Bad (σ ++ [a]) Λ b → Bad σ (a :: Λ) b := fun b q => by
    rcases q with q | q
    · rcases List.mem_append.mp q with q | q
      · exact .inl q
      · rw [List.mem_singleton.mp q]; exact .inr (.head _)
    · exact .inr (.tail _ q)
  have mv : ∀ b o, h.get? b = some o → ¬ Bad σ (a :: Λ) b → h.get? b = some o ∧ ¬ Bad (σ ++ [a]) Λ b := fun b o e n => ⟨e, fun q => n (same b q)⟩
  refine ⟨I.keep, fun b q => I.new b (same b q), ⟨by rw [List.length_append, List.length_append, I.store.1]; rfl, ?_, fun i b m e1 e2 => ?_⟩, fun b hb q => ?_⟩
  · rw [List.nodup_append]
    refine ⟨I.store.2.1, by simp, fun b hb c hc => ?_⟩
    rw [List.mem_singleton.mp hc]
    rintro rfl
    exact I.apart b hb (.head _)
  · by_cases hi : i < σ.length
    · rw [List.getElem?_append_left hi] at e1
      rw [List.getElem?_append_left (by rw [← I.store.1]; exact hi)] at e2
      obtain ⟨ws, q, r', z⟩ := I.store.2.2 i b m e1 e2
      exact ⟨ws, q, r'.mono mv, z⟩
    · have hl := (List.getElem?_eq_some_iff.mp e1).1
      rw [List.length_append] at hl
      have : i = σ.length := by simp at hl; omega
      subst this
      have e1' : b = a := by simpa using e1.symm
      rw [I.store.1] at e2
      have e2' : m = l := by simpa using e2.symm
      subst e1' e2'
      exact ⟨vs, ⟨n, ho⟩, r.mono mv, hlen⟩
  · rcases List.mem_append.mp hb with hb | hb
    · exact I.apart b hb (.tail _ q)
    · rw [List.mem_singleton.mp hb] at q; exact hn q

theorem relab_eq (hE : EnvOk Λ sc env) (scope : Scope) : relabel scope env = relab scope sc := by
  have := hE.scope
  subst this
  rfl
theorem relab_mem {scope : Scope} : ∀ {names : List (Str × NameKind)} {x : Str} {k : NameKind}, (names.map fun (n, k) => if (k == .free && (envS sc).scope.kind == .function && (envS sc).kindOf n == some .cell) then (n, NameKind.cell) else (n, k)).lookup x = some k →
    (k = .local → names.lookup x = some .local) ∧ (k = .cell → ∃ k', (k' = .cell ∨ k' = .free) ∧ names.lookup x = some k') ∧ (k = .free → names.lookup x = some .free)
  | [], _, _, h => by cases h
  | (n, k0) :: r, x, k, h => by
    rw [List.map_cons, List.lookup_cons] at h
    rw [List.lookup_cons]
    by_cases hc : (k0 == .free && (envS sc).scope.kind == .function && (envS sc).kindOf n == some .cell) = true
    · dsimp only at h
      rw [if_pos hc] at h
      have hk : k0 = .free := by
        simp only [Bool.and_eq_true, beq_iff_eq] at hc
        exact hc.1.1
      dsimp only at h
      cases q : x == n with
      | true =>
        rw [q] at h
        cases h
        subst hk
        exact ⟨fun e => (by cases e), fun _ => ⟨_, .inr rfl, rfl⟩, fun e => (by cases e)⟩
      | false =>
        rw [q] at h
        exact relab_mem (scope := scope) h
    · dsimp only at h
      rw [if_neg hc] at h
      dsimp only at h
      cases q : x == n with
      | true =>
        rw [q] at h
        cases h
        exact ⟨fun e => by rw [e], fun e => ⟨_, .inl rfl, by rw [e]⟩, fun e => by rw [e]⟩
      | false =>
        rw [q] at h
        exact relab_mem (scope := scope) h

theorem mem_of_lookup {α : Type} : ∀ {l : List (Str × α)} {x : Str} {a : α}, l.lookup x = some a → (x, a) ∈ l
  | [], _, _, h => by cases h
  | (y, b) :: r, x, a, h => by
    rw [List.lookup_cons] at h
    cases q : x == y with
    | true =>
      rw [q] at h
      cases h
      rw [beq_iff_eq.mp q]
      exact .head _
    | false =>
      rw [q] at h
      exact .tail _ (mem_of_lookup h)

theorem freeOf_lookup {sc' : Scope} : ∀ {ρ : En} {x : Str} {d : D}, (freeOf sc' ρ).lookup x = some d → ρ.lookup x = some d ∧ (sc'.names.lookup x = some .cell ∨ sc'.names.lookup x = some .free)
  | [], x, d, h => by cases h
  | (y, e) :: r, x, d, h => by
    unfold freeOf at h
    rw [List.filter_cons] at h
    rw [List.lookup_cons]
    split at h
    · rename_i hc
      rw [List.lookup_cons] at h
      cases q : x == y with
      | true =>
        rw [q] at h
        cases h
        have := beq_iff_eq.mp q
        subst this
        refine ⟨rfl, ?_⟩
        simpa using hc
      | false =>
        rw [q] at h
        exact freeOf_lookup (ρ := r) h
    · rename_i hc
      have ih := freeOf_lookup (ρ := r) h
      cases q : x == y with
      | true =>
        have := beq_iff_eq.mp q
        subst this
        exfalso
        apply hc
        simpa using ih.2
      | false => exact ih

/-- one name stored: only the frame's names turn -/
theorem store_loc (hE : EnvOk Λ sc env) {x : Str} {d : D} {v : Value} {Q : Unit → Shared → Prop} (iv : Inv W σ Λ s.heap st) (V : Vars Λ sc env ρ σ s.heap) (hx : sc.names.lookup x = some .local) (r : RepD σ (Bad σ Λ) s.heap v d)
    (q : ∀ h' tk, Inv W σ Λ h' st → Kp (fun a => a = env.locals) s.heap h' → Vars Λ sc env (setE x d ρ) σ h' → Q () { s with heap := h', toks := tk }) : wpAny (model W.prog W.w) A (storeName env x v) Q E s := by
  obtain ⟨m, hn, V⟩ := V
  refine wpAny_storeName_local (by unfold Env.kindOf; rw [hE.scope]; exact hx) hn (fun h' hn' hs => ?_) (kind_false hE)
  obtain ⟨o, ho⟩ := ns_obj hn'
  exact q h' (s.toks + 1) (iv.touch hs hE.loc ho) (Kp.same hs rfl ho) (Vars.set hE.loc hs hn hn' V hx r)

structure Cst (W : Wd) (Λ σ₁ : List Addr) (h₁ : Heap) (C₀ D₀ it₀ : Addr) (sc : Scope) (env : Env) (h : Heap) (σ : List Addr) (st : Sto) (ρ : En) (l acc : List V) : Prop where
  fr : Fresh σ₁ σ h₁
  kp : Kp (fun x => x ∈ σ₁ ∨ NoX x) h₁ h
  iv : Inv W σ (C₀ :: D₀ :: it₀ :: Λ) h st
  it : ItSt (Bad σ (C₀ :: D₀ :: it₀ :: Λ)) h it₀ l
  vr : Vars (C₀ :: D₀ :: it₀ :: Λ) sc env ρ σ h
  len : acc.length ≤ 2 ^ 20 + 1
  ls : ∃ ws n, h.get? D₀ = some ({ cls := .type "list", data := .seq (List.toArray ws) n } : Obj) ∧ Reps (Bad σ (C₀ :: D₀ :: it₀ :: Λ)) h ws acc

section
variable {σ₁ σ' : List Addr} {h₁ h h' : Heap} {C₀ D₀ it₀ : Addr} {st' : Sto} {l acc : List V}
theorem Cst.ev (c : Cst W Λ σ₁ h₁ C₀ D₀ it₀ sc env h σ st ρ l acc) (hloc : env.locals = C₀) (f : Fresh σ σ' h) (k : Kp (fun x => x ∈ σ ∨ NoX x) h h') (i : Inv W σ' (C₀ :: D₀ :: it₀ :: Λ) h' st') :
    Cst W Λ σ₁ h₁ C₀ D₀ it₀ sc env h' σ' st' ρ l acc := by
  have kb : Kp (Bad σ (C₀ :: D₀ :: it₀ :: Λ)) h h' := k.weak fun a q => q.elim .inl fun q => q.elim
  obtain ⟨ws, n, ho, r⟩ := c.ls
  have ni : it₀ ∉ σ := c.iv.sigma (.tail _ (.tail _ (.head _)))
  have nd : D₀ ∉ σ := c.iv.sigma (.tail _ (.head _))
  refine ⟨c.fr.trans f c.kp, c.kp.trans k fun a al q => q.elim (fun q => .inl (al.elim fun _ e => c.fr.low e q)) .inr, i, ?_, c.vr.step (c.iv.sigma (hloc ▸ .head _)) f k, c.len, ws, n, k.at ho fun q => q.elim nd fun q => q.elim, r.step f kb⟩
  exact c.it.mono (fun b o e nb => ⟨kb.at e nb, fun q => nb (q.elim (fun q => .inl (f.low e q)) .inr)⟩) fun o e => k.at e fun q => q.elim ni fun q => q.elim

/-- one of the three that are new turns -/
theorem Cst.tc {x : Addr} {o : Obj} {ρ' : En} {l' acc' : List V} (c : Cst W Λ σ₁ h₁ C₀ D₀ it₀ sc env h σ st ρ l acc) (hx : x = C₀ ∨ x = D₀ ∨ x = it₀) (hn : h₁.get? x = none) (hs : Heap.SameBut x h h') (ho : h'.get? x = some o)
    (hit : ItSt (Bad σ (C₀ :: D₀ :: it₀ :: Λ)) h' it₀ l') (hv : Vars (C₀ :: D₀ :: it₀ :: Λ) sc env ρ' σ h') (hl : acc'.length ≤ 2 ^ 20 + 1) (hd : ∃ ws n, h'.get? D₀ = some ({ cls := .type "list", data := .seq (List.toArray ws) n } : Obj) ∧ Reps (Bad σ (C₀ :: D₀ :: it₀ :: Λ)) h' ws acc') :
    Cst W Λ σ₁ h₁ C₀ D₀ it₀ sc env h' σ st ρ' l' acc' := by
  have hxl : x ∈ C₀ :: D₀ :: it₀ :: Λ := by rcases hx with rfl | rfl | rfl <;> simp
  refine ⟨c.fr, c.kp.trans (W' := fun a => a = x) (Kp.same hs rfl ho) fun a al q => ?_, c.iv.touch hs hxl ho, hit, hv, hl, hd⟩
  obtain ⟨o, e⟩ := al
  rw [q, hn] at e; cases e

/-- all is gone through -/
theorem Cst.done {mt : Bool} {Q : Value → Shared → Prop} {tk tk' : Nat} {s : Shared} (c : Cst W Λ σ₁ h₁ C₀ D₀ it₀ sc env h σ st ρ [] acc) (hD : h₁.get? D₀ = none) (hC : h₁.get? C₀ = none) (hi : h₁.get? it₀ = none) (hDl : D₀ ∉ it₀ :: Λ) (hCl : C₀ ∉ D₀ :: it₀ :: Λ) (hil : it₀ ∉ Λ)
    (H : Po W Λ NoX (relD Λ) E σ₁ { s with heap := h₁, toks := tk } (if mt then .ok (.m st.length) (st ++ [acc]) else .ok (.v (.lst acc)) st) Q)
    {h'' : Heap} (x1 : Heap.ExtBut it₀ h h') (x2 : Heap.ExtBut C₀ h' h'') : Q (.ref D₀) { s with heap := h'', toks := tk' } := by
  obtain ⟨ws, n, ho, r⟩ := c.ls
  have cd : C₀ ≠ D₀ := fun q => hCl (q ▸ .head _)
  have ci : C₀ ≠ it₀ := fun q => hCl (q ▸ .tail _ (.head _))
  have cl : C₀ ∉ Λ := fun q => hCl (.tail _ (.tail _ q))
  have di : D₀ ≠ it₀ := fun q => hDl (q ▸ .head _)
  have dl : D₀ ∉ Λ := fun q => hDl (.tail _ q)
  have i1 : Inv W σ (C₀ :: D₀ :: Λ) h' st := c.iv.dropAt (it := it₀) (by simp) (fun a ha => ⟨by simp at ha ⊢; rcases ha with ha | ha | ha <;> simp [ha], by
      rintro rfl
      rcases List.mem_cons.mp ha with q | ha
      · exact ci q.symm
      · rcases List.mem_cons.mp ha with q | ha
        · exact di q.symm
        · exact hil ha⟩) (fun a ha => by simp at ha ⊢; rcases ha with ha | ha | ha | ha <;> simp [ha]) x1
  have i2 : Inv W σ (D₀ :: Λ) h'' st := i1.drop (fun q => by
      rcases List.mem_cons.mp q with q | q
      · exact cd q
      · exact cl q) x2
  have mv : ∀ b o, h.get? b = some o → ¬ Bad σ (C₀ :: D₀ :: it₀ :: Λ) b → h''.get? b = some o ∧ ¬ Bad σ (D₀ :: Λ) b := fun b o e nb =>
    ⟨x2 b o (fun q => nb (.inr (q ▸ .head _))) (x1 b o (fun q => nb (.inr (q ▸ .tail _ (.tail _ (.head _))))) e), fun q => nb (q.elim .inl fun q => .inr (by
      rcases List.mem_cons.mp q with q | q
      · rw [q]; simp
      · simp [q]))⟩
  have r2 : Reps (Bad σ (D₀ :: Λ)) h'' ws acc := r.mono mv
  have o2 : h''.get? D₀ = some ({ cls := .type "list", data := .seq (List.toArray ws) n } : Obj) := x2 _ _ (fun q => cd q.symm) (x1 _ _ di ho)
  have kp : Kp (fun x => x ∈ σ₁ ∨ NoX x) h₁ h'' := (c.kp.fin hi x1).fin hC x2
  cases mt with
  | true =>
    rw [if_pos rfl] at H
    have i3 := i2.moveM dl o2 r2 c.len
    refine H (σ ++ [D₀]) h'' tk' (.ref D₀) ?_ kp i3 ⟨D₀, ?_, rfl⟩
    · obtain ⟨e, rfl, he⟩ := c.fr
      refine ⟨e ++ [D₀], by rw [List.append_assoc], fun a ha => ?_⟩
      rcases List.mem_append.mp ha with ha | ha
      · exact he a ha
      · rw [List.mem_singleton.mp ha]; exact hD
    · rw [← c.iv.store.1, List.getElem?_append_right (Nat.le_refl _), Nat.sub_self]; rfl
  | false =>
    rw [if_neg (by decide)] at H
    refine H σ h'' tk' (.ref D₀) c.fr kp i2.unlam ?_
    show Rep _ _ _ _
    unfold Rep
    exact ⟨D₀, _, ws, n, rfl, fun q => q.elim (i2.sigma (.head _)) dl, o2, rfl, rfl, r2.mono unlam_mv⟩
end

theorem comp_sound {C : Cx} {I : In} (hA : AOk A) (hE : EnvOk Λ sc env) (hI : IE W A I) (hT : IT W A I) {elt target iter : PySem.Expr} {ifs : List PySem.Expr} {scope : Scope} {pos : Pos} {Q : Value → Shared → Prop}
    (iv : Inv W σ Λ s.heap st) (V : Vars Λ sc env ρ σ s.heap)
    (H : Po W Λ NoX (relD Λ) E σ s (if (compOk scope sc && !isDisp iter) && isNm target then (I.ex sc ρ iter st).bind fun d st => match itemsOf d with
        | some l => (compL (putT (relab scope sc) target) (tests (I.tt (relab scope sc)) ifs) (fun ρ st => I.ex (relab scope sc) ρ elt st) l (freeOf (relab scope sc) ρ) [] st).bind fun acc st =>
            if C.mt pos then .ok (.m st.length) (st ++ [acc]) else .ok (.v (.lst acc)) st
        | Option.none => .stuck
      else .stuck) Q) : wpAny (model W.prog W.w) A (eval (.ListComp elt [⟨target, iter, ifs, 0⟩] scope pos) env) Q E s := by
  split at H
  · rename_i hc
    obtain ⟨hc, hnm⟩ := Bool.and_eq_true_iff.mp hc
    obtain ⟨hok, hdisp⟩ := Bool.and_eq_true_iff.mp hc
    unfold compOk at hok
    obtain ⟨hkind, hall⟩ := Bool.and_eq_true_iff.mp hok
    have hkind : scope.kind = .function := by simpa using hkind
    have hall' : ∀ x ∈ scope.names, x.2 ≠ .cell ∧ (x.2 = .local → scope.names.lookup x.1 = some .local) ∧ (x.2 = .free → scope.names.lookup x.1 = some .free ∧ (sc.names.lookup x.1 = some .cell ∨ sc.names.lookup x.1 = some .free)) := fun x hx => by
      have := List.all_eq_true.mp hall x hx
      simp only [Bool.and_eq_true, Bool.or_eq_true, bne_iff_ne, ne_eq, beq_iff_eq] at this
      refine ⟨this.1.1, fun e => this.1.2.resolve_left fun q => q e, fun e => this.2.resolve_left fun q => q e⟩
    have hfree : ∀ x ∈ scope.names, x.2 = .free → ∃ c, env.cells.lookup x.1 = some c := fun x hx e => hE.cells x.1 ((hall' x hx).2.2 e).2
    obtain ⟨cl, hclos, hcl1, hcl2⟩ := closureFor_spec hfree
    show wpAny _ _ (comprehension _ scope env (firstIterPos _ pos) (newList []) false (eval iter env)) _ _ _
    refine wpAny_comprehension_free (g := ⟨target, iter, ifs, 0⟩) (gs := []) rfl (fun x => by cases iter <;> first | rfl | cases hdisp) hclos hkind (fun x hx e => (hall' x hx).2.1 e) ?_
    refine hI Λ sc env ρ iter hE E σ s st _ iv V (Po.seq0 H fun d st₁ σ₁ h₁ tk₁ v f₁ k₁ i₁ r₁ H₁ => ?_)
    have V₁ := V.step (iv.sigma hE.loc) f₁ k₁
    split at H₁
    · rename_i l hl
      refine it_start i₁ r₁ hl fun o i₂ ho hit => ?_
      have n1 : h₁.get? h₁.objs.size = none := get_size
      have kp1 : ∀ b o', h₁.get? b = some o' → (h₁.push o).get? b = some o' := fun b o' e => Heap.get?_push_of_some _ e
      have i₃ : Inv W σ₁ (h₁.objs.size :: Λ) (h₁.push o) st₁ := i₁.lam n1 kp1 ho i₁.size
      have hnl : h₁.objs.size ∉ Λ := fun q => i₁.newAddr (.inr q)
      generalize hI0 : h₁.objs.size = it₀ at *
      generalize hH2 : h₁.push o = h₂ at *
      refine wpAny_newList ?_ (by decide)
      dsimp only
      have n2 : h₂.get? h₂.objs.size = none := get_size
      have i₄ : Inv W σ₁ (h₂.objs.size :: it₀ :: Λ) (h₂.push ({ cls := .type "list", data := .seq ([] : List Value).toArray } : Obj)) st₁ := i₃.lam n2 (fun b o' e => Heap.get?_push_of_some _ e) (Heap.get?_push_size _ rfl) i₃.size
      have oD : (h₂.push ({ cls := .type "list", data := .seq ([] : List Value).toArray } : Obj)).get? h₂.objs.size = some { cls := .type "list", data := .seq ([] : List Value).toArray } := Heap.get?_push_size _ rfl
      have kp2 : ∀ b o', h₂.get? b = some o' → (h₂.push ({ cls := .type "list", data := .seq ([] : List Value).toArray } : Obj)).get? b = some o' := fun b o' e => Heap.get?_push_of_some _ e
      have hDl : h₂.objs.size ∉ it₀ :: Λ := fun q => i₃.newAddr (.inr q)
      have hD1 : h₁.get? h₂.objs.size = none := by
        cases q : h₁.get? h₂.objs.size with
        | none => rfl
        | some o' => rw [kp1 _ _ q] at n2; cases n2
      generalize hH3 : h₂.push ({ cls := .type "list", data := .seq ([] : List Value).toArray } : Obj) = h₃ at *
      generalize hD0 : h₂.objs.size = D₀ at *
      refine wpAny_newFunctionEnv (fun x hx => (hall' x hx).1) (fun x hx => (nomatch hx)) (fun h₄ hns hsb => ?_) hkind
      dsimp only at hns hsb ⊢
      have n3 : h₃.get? h₃.objs.size = none := get_size
      have kp3 : ∀ b o', h₃.get? b = some o' → h₄.get? b = some o' := fun b o' e => (hsb.2 b fun q => by rw [q, n3] at e; cases e).trans (Heap.get?_push_of_some _ e)
      obtain ⟨oC, hoC⟩ := ns_obj hns
      have i₅ : Inv W σ₁ (h₃.objs.size :: D₀ :: it₀ :: Λ) h₄ st₁ := i₄.lam n3 kp3 hoC i₄.size
      have hCl : h₃.objs.size ∉ D₀ :: it₀ :: Λ := fun q => i₄.newAddr (.inr q)
      have hC1 : h₁.get? h₃.objs.size = none := by
        cases q : h₁.get? h₃.objs.size with
        | none => rfl
        | some o' => rw [kp2 _ _ (kp1 _ _ q)] at n3; cases n3
      generalize hC0 : h₃.objs.size = C₀ at *
      have kp14 : ∀ b o', h₁.get? b = some o' → h₄.get? b = some o' := fun b o' e => kp3 _ _ (kp2 _ _ (kp1 _ _ e))
      have hE' : EnvOk (C₀ :: D₀ :: it₀ :: Λ) (relab scope sc) (compEnvC scope cl C₀ env) := by
        refine ⟨hkind, relab_eq hE scope, hE.globals, hE.builtins, .head _, fun x c e => ?_, fun x q => ?_⟩
        · exact .tail _ (.tail _ (.tail _ (hE.cin x c (hcl1 x c e))))
        · have sc' : scope.names.lookup x = some .free := by
            rcases q with q | q
            · obtain ⟨k', hk', e⟩ := (relab_mem (scope := scope) q).2.1 rfl
              rcases hk' with rfl | rfl
              · have := mem_of_lookup e
                exact absurd rfl (hall' _ this).1
              · exact e
            · exact (relab_mem (scope := scope) q).2.2 rfl
          obtain ⟨c, hc⟩ := hcl2 _ (mem_of_lookup sc') rfl
          exact ⟨c, hc⟩
      have mv14 : ∀ b o', h₁.get? b = some o' → ¬ Bad σ₁ Λ b → h₄.get? b = some o' ∧ ¬ Bad σ₁ (C₀ :: D₀ :: it₀ :: Λ) b := fun b o' e nb => ⟨kp14 b o' e, fun q => by
        rcases q with q | q
        · exact nb (.inl q)
        · rcases List.mem_cons.mp q with rfl | q
          · rw [hC1] at e; cases e
          · rcases List.mem_cons.mp q with rfl | q
            · rw [hD1] at e; cases e
            · rcases List.mem_cons.mp q with rfl | q
              · rw [n1] at e; cases e
              · exact nb (.inr q)⟩
      have V₅ : Vars (C₀ :: D₀ :: it₀ :: Λ) (relab scope sc) (compEnvC scope cl C₀ env) (freeOf (relab scope sc) ρ) σ₁ h₄ := by
        refine ⟨_, hns, fun x d e => ?_⟩
        obtain ⟨e1, e2⟩ := freeOf_lookup e
        refine ⟨fun q => by rw [q] at e2; (rcases e2 with e2 | e2 <;> cases e2), fun q => ?_⟩
        have scf : scope.names.lookup x = some .free := by
          rcases q with q | q
          · obtain ⟨k', hk', e⟩ := (relab_mem (scope := scope) q).2.1 rfl
            rcases hk' with rfl | rfl
            · exact absurd rfl (hall' _ (mem_of_lookup e)).1
            · exact e
          · exact (relab_mem (scope := scope) q).2.2 rfl
        obtain ⟨c', hc'⟩ := hcl2 _ (mem_of_lookup scf) rfl
        obtain ⟨m, hn, Vm⟩ := V₁
        obtain ⟨c, ob, w', hcl, hob, hod, hcs, rr⟩ := (Vm x d e1).2 (((hall' _ (mem_of_lookup scf)).2.2 rfl).2)
        have : c' = c := by
          have := hcl1 x c' hc'
          rw [hcl] at this
          exact (Option.some.inj this).symm
        subst this
        exact ⟨c', ob, w', hc', kp14 _ _ hob, hod, hcs, rr.mono mv14⟩
      have hit₅ : ItSt (Bad σ₁ (C₀ :: D₀ :: it₀ :: Λ)) h₄ it₀ l := by
        refine hit.mono (fun b o' e nb => ⟨kp3 _ _ (kp2 _ _ e), fun q => ?_⟩) fun o' e => kp3 _ _ (kp2 _ _ e)
        rcases q with q | q
        · exact nb (.inl q)
        · rcases List.mem_cons.mp q with rfl | q
          · rw [kp2 _ _ e] at n3; cases n3
          · rcases List.mem_cons.mp q with rfl | q
            · rw [e] at n2; cases n2
            · exact nb (.inr q)
      have oD₄ := kp3 _ _ oD
      show codeAny _ _ (.compStart (.ListComp elt [⟨target, iter, ifs, 0⟩] scope pos) 0 (.ref it₀) (.ref D₀) (compEnvC scope cl C₀ env)) (compPost (model W.prog W.w) A E none Q (.ref D₀) C₀) _
      have loop : codeAny (model W.prog W.w) A (.compLoop (.ListComp elt [⟨target, iter, ifs, 0⟩] scope pos) 0 (.ref it₀) (.ref D₀) (compEnvC scope cl C₀ env)) (compPost (model W.prog W.w) A E none Q (.ref D₀) C₀) { s with heap := h₄, toks := tk₁ } := by
        refine codeAny_compLoop_tests (fun k s₂ => ∃ h₅ tk₅ l₅ ρ₅ σ₅ st₅ acc, s₂ = { s with heap := h₅, toks := tk₅ } ∧ k = List.length (α := Mine.V) l₅ ∧ Cst W Λ σ₁ h₁ C₀ D₀ it₀ (relab scope sc) (compEnvC scope cl C₀ env) h₅ σ₅ st₅ ρ₅ l₅ acc ∧
          Po W Λ NoX (relD Λ) E σ₁ { s with heap := h₁, toks := tk₁ } ((compL (putT (relab scope sc) target) (tests (I.tt (relab scope sc)) ifs) (fun ρ st => I.ex (relab scope sc) ρ elt st) l₅ ρ₅ acc st₅).bind fun acc st =>
            if C.mt pos then .ok (.m st.length) (st ++ [acc]) else .ok (.v (.lst acc)) st) Q) (fun k s₂ hI2 => ?_) l.length
          ⟨h₄, tk₁, l, freeOf (relab scope sc) ρ, σ₁, st₁, [], rfl, rfl, ⟨Fresh.refl, Kp.all kp14, i₅, hit₅, V₅, Nat.zero_le _, [], 0, oD₄, trivial⟩, H₁⟩ (fun v => ?_)
        · obtain ⟨h₅, tk₅, l₅, ρ₅, σ₅, st₅, acc, rfl, rfl, c, H₅⟩ := hI2
          have hnc : ∀ x d, cl.lookup x = some d → d ∈ Λ := fun x d e => hE.cin x d (hcl1 x d e)
          have vmv : ∀ {ρ : En} {σ h h'} (x : Addr) , x ∉ Λ → x ≠ C₀ → Kp (fun a => a = x) h h' → Bad σ (C₀ :: D₀ :: it₀ :: Λ) x → Vars (C₀ :: D₀ :: it₀ :: Λ) (relab scope sc) (compEnvC scope cl C₀ env) ρ σ h → Vars (C₀ :: D₀ :: it₀ :: Λ) (relab scope sc) (compEnvC scope cl C₀ env) ρ σ h' := fun x hx hxc kp hb V =>
            V.mono (fun b o e nb => ⟨kp.at e fun q => nb (q ▸ hb), nb⟩) fun b o e q => kp.at e fun q' => by
              rcases q with q | ⟨y, q⟩
              · exact hxc (q'.symm.trans q)
              · exact hx (q' ▸ hnc y b q)
          cases l₅ with
          | nil =>
            refine it_end hA.handled c.it fun h' hx => ?_
            unfold compL at H₅
            obtain ⟨m, hn, _⟩ := c.vr
            refine ⟨m, ?_, fun h'' hs => ?_⟩
            · obtain ⟨o, es, ep, ho, r⟩ := hn
              exact ⟨o, es, ep, hx _ _ (fun q => hCl (q ▸ .tail _ (.head _))) ho, r⟩
            · exact c.done (mt := C.mt pos) hD1 hC1 n1 hDl hCl hnl H₅ hx fun b o q e => (hs.2 b q).trans e
          | cons x l₅ =>
            refine it_next (.tail _ (.tail _ (.head _))) c.it fun h₆ tk₆ v₆ hs₆ al₆ r₆ hit₆ => ?_
            obtain ⟨o₆, al₆⟩ := al₆
            unfold compL at H₅
            split at H₅
            · exact H₅.elim
            · rename_i ρ₆ hput
              obtain ⟨n, p, rfl, hn, rfl⟩ := putT_name hput
              have kp₆ : Kp (fun x => x = it₀) h₅ h₆ := Kp.same hs₆ rfl al₆
              have bit : Bad σ₅ (C₀ :: D₀ :: it₀ :: Λ) it₀ := .inr (by simp)
              have c₆ : Cst W Λ σ₁ h₁ C₀ D₀ it₀ (relab scope sc) (compEnvC scope cl C₀ env) h₆ σ₅ st₅ ρ₅ l₅ acc := by
                obtain ⟨ws, n, ho, r⟩ := c.ls
                refine c.tc (.inr (.inr rfl)) n1 hs₆ al₆ hit₆ (vmv it₀ hnl (fun q => hCl (q ▸ .tail _ (.head _))) kp₆ bit c.vr) c.len ⟨ws, n, kp₆.at ho fun q => hDl (q ▸ .head _), r.step Fresh.refl (kp₆.weak fun a q => q ▸ bit)⟩
              refine wpAny_assign_Name (store_loc (d := .v x) hE' c₆.iv c₆.vr hn r₆ fun h₇ tk₇ i₇ k₇ V₇ => ?_)
              have bC : Bad σ₅ (C₀ :: D₀ :: it₀ :: Λ) C₀ := .inr (.head _)
              have k₇' : Kp (fun a => a = C₀) h₆ h₇ := k₇
              have c₇ : Cst W Λ σ₁ h₁ C₀ D₀ it₀ (relab scope sc) (compEnvC scope cl C₀ env) h₇ σ₅ st₅ (setE n (.v x) ρ₅) l₅ acc := by
                obtain ⟨ws, n, ho, r⟩ := c₆.ls
                refine ⟨c₆.fr, c₆.kp.trans k₇' (fun a al q => ?_), i₇, c₆.it.mono (fun b o e nb => ⟨k₇'.at e fun q => nb (q ▸ bC), nb⟩) (fun o e => k₇'.at e fun q => hCl (q ▸ .tail _ (.head _))), V₇, c₆.len, ws, n, k₇'.at ho fun q => hCl (q ▸ .head _), r.step Fresh.refl (k₇'.weak fun a q => q ▸ bC)⟩
                obtain ⟨o, e⟩ := al
                rw [q, hC1] at e; cases e
              have cont : ∀ (b : Bool) (σ₈ : List Addr) (h₈ : Heap) (tk₈ : Nat) (st₈ : Sto), Cst W Λ σ₁ h₁ C₀ D₀ it₀ (relab scope sc) (compEnvC scope cl C₀ env) h₈ σ₈ st₈ (setE n (.v x) ρ₅) l₅ acc →
                  Po W Λ NoX (relD Λ) E σ₁ { s with heap := h₁, toks := tk₁ } ((if b then (I.ex (relab scope sc) (setE n (.v x) ρ₅) elt st₈).bind fun d st => match d with
                    | .v y => if szOk acc.length then compL (putT (relab scope sc) (.Name n p)) (tests (I.tt (relab scope sc)) ifs) (fun ρ st => I.ex (relab scope sc) ρ elt st) l₅ (setE n (.v x) ρ₅) (acc ++ [y]) st else .stuck
                    | .m _ => .stuck
                  else compL (putT (relab scope sc) (.Name n p)) (tests (I.tt (relab scope sc)) ifs) (fun ρ st => I.ex (relab scope sc) ρ elt st) l₅ (setE n (.v x) ρ₅) acc st₈).bind fun acc st =>
                    if C.mt pos then .ok (.m st.length) (st ++ [acc]) else .ok (.v (.lst acc)) st) Q →
                  (if b = true then wpAny (model W.prog W.w) A (eval elt (compEnvC scope cl C₀ env))
                          (fun x' s₄ =>
                            wpAny (model W.prog W.w) A (call (Value.builtin "list.append") [.ref D₀, x'])
                              (fun _ s₅ => ∃ m, m < (x :: l₅).length ∧ ∃ h₅ tk₅ l₆ ρ₅ σ₅ st₅ acc, s₅ = { s with heap := h₅, toks := tk₅ } ∧ m = List.length (α := Mine.V) l₆ ∧ Cst W Λ σ₁ h₁ C₀ D₀ it₀ (relab scope sc) (compEnvC scope cl C₀ env) h₅ σ₅ st₅ ρ₅ l₆ acc ∧
          Po W Λ NoX (relD Λ) E σ₁ { s with heap := h₁, toks := tk₁ } ((compL (putT (relab scope sc) (.Name n p)) (tests (I.tt (relab scope sc)) ifs) (fun ρ st => I.ex (relab scope sc) ρ elt st) l₆ ρ₅ acc st₅).bind fun acc st =>
            if C.mt pos then .ok (.m st.length) (st ++ [acc]) else .ok (.v (.lst acc)) st) Q)
                              (notedBy (model W.prog W.w) A (compEnvC scope cl C₀ env) fun e s' => compPost (model W.prog W.w) A E none Q (.ref D₀) C₀ (Except.error e) s') s₄)
                          (notedBy (model W.prog W.w) A (compEnvC scope cl C₀ env) fun e s' => compPost (model W.prog W.w) A E none Q (.ref D₀) C₀ (Except.error e) s') { s with heap := h₈, toks := tk₈ }
                   else ∃ m, m < (x :: l₅).length ∧ ∃ h₅ tk₅ l₆ ρ₅ σ₅ st₅ acc, ({ s with heap := h₈, toks := tk₈ } : Shared) = { s with heap := h₅, toks := tk₅ } ∧ m = List.length (α := Mine.V) l₆ ∧ Cst W Λ σ₁ h₁ C₀ D₀ it₀ (relab scope sc) (compEnvC scope cl C₀ env) h₅ σ₅ st₅ ρ₅ l₆ acc ∧
          Po W Λ NoX (relD Λ) E σ₁ { s with heap := h₁, toks := tk₁ } ((compL (putT (relab scope sc) (.Name n p)) (tests (I.tt (relab scope sc)) ifs) (fun ρ st => I.ex (relab scope sc) ρ elt st) l₆ ρ₅ acc st₅).bind fun acc st =>
            if C.mt pos then .ok (.m st.length) (st ++ [acc]) else .ok (.v (.lst acc)) st) Q) := fun b σ₈ h₈ tk₈ st₈ c₈ H₈ => by
                cases b with
                | false => exact ⟨l₅.length, Nat.lt_succ_self _, h₈, tk₈, l₅, _, σ₈, st₈, acc, rfl, rfl, c₈, H₈⟩
                | true =>
                  rw [if_pos rfl] at H₈ ⊢
                  rw [Out.bind_assoc] at H₈
                  refine hI _ _ _ _ elt hE' _ σ₈ _ st₈ _ c₈.iv c₈.vr (Po.sub H₈ fun d st₉ σ₉ h₉ tk₉ v₉ f₉ k₉ i₉ r₉ H₉ => ?_)
                  have c₉ := c₈.ev rfl f₉ k₉ i₉
                  split at H₉
                  · rename_i y
                    split at H₉
                    · rename_i hz
                      have r₉ : Rep (Bad σ₉ (C₀ :: D₀ :: it₀ :: Λ)) h₉ v₉ y := r₉
                      obtain ⟨ws, m, ho, r⟩ := c₉.ls
                      have hz' : acc.length ≤ 2 ^ 20 := of_decide_eq_true hz
                      refine append_at ho (fun h' hs ho' => ?_) (by rw [List.size_toArray, r.length]; exact Nat.le_trans hz' (by decide))
                      have bD : Bad σ₉ (C₀ :: D₀ :: it₀ :: Λ) D₀ := .inr (by simp)
                      have kpD : Kp (fun a => a = D₀) h₉ h' := Kp.same hs rfl ho'
                      have kpB : Kp (Bad σ₉ (C₀ :: D₀ :: it₀ :: Λ)) h₉ h' := kpD.weak fun a q => q ▸ bD
                      refine ⟨l₅.length, Nat.lt_succ_self _, h', tk₉, l₅, _, σ₉, st₉, acc ++ [y], rfl, rfl, ?_, H₉⟩
                      refine c₉.tc (.inr (.inl rfl)) hD1 hs ho' (c₉.it.mono (fun b o e nb => ⟨kpB.at e nb, nb⟩) fun o e => kpD.at e fun q => hDl (q ▸ .head _)) (vmv D₀ (fun q => hDl (.tail _ q)) (fun q => hCl (q ▸ .head _)) kpD bD c₉.vr) (by rw [List.length_append]; exact Nat.succ_le_succ hz') ⟨ws ++ [v₉], m + 1, by rw [ho']; simp, (r.step Fresh.refl kpB).append ⟨r₉.step Fresh.refl kpB, trivial⟩⟩
                    · exact H₉.elim
                  · exact H₉.elim
              rw [Out.bind_assoc] at H₅
              unfold tests at H₅
              split at H₅
              · exact wpAny_tests_nil (cont true σ₅ h₇ tk₇ st₅ c₇ H₅)
              · refine wpAny_tests_one (hT _ _ _ _ _ hE' _ σ₅ _ st₅ _ c₇.iv c₇.vr (Po.sub H₅ fun b st₈ σ₈ h₈ tk₈ b' f₈ k₈ i₈ r₈ H₈ => ?_))
                have r₈ : b' = b := r₈
                subst r₈
                exact cont b' σ₈ h₈ tk₈ st₈ (c₇.ev rfl f₈ k₈ i₈) H₈
              · exact H₅.elim
        · cases target <;> first | rfl | cases hnm
      exact codeAny_compStart_list loop (it_iter hit₅ loop)
    · exact H₁.elim
  · exact H.elim

end

end Mine

end

section
open PySem PySem.W PySem.Spec PySem.Calls PyProof.Rows
set_option maxRecDepth 100000
namespace Mine

section
variable {W : Wd} {A : Around} {Λ σ : List Addr} {E : Value → Shared → Prop} {s : Shared} {st : Sto} {sc : Scope} {env : Env} {ρ : En}

theorem Vars.fr {h : Heap} (hE : EnvOk Λ sc env) (V : Vars Λ sc env ρ σ h) : ∃ L m, L ∈ Λ ∧ h.Ns L m := by
  obtain ⟨m, hn, _⟩ := V
  exact ⟨_, m, hE.loc, hn⟩

theorem step_ex {C : Cx} {I : In} {Φ : D → List D → Sto → Out D} (hA : AOk A) (hC : CxOk W C) (hI : IE W A I) (hT : IT W A I) (hΦ : CS W A Φ) : IE W A (step C Φ I) := by
  intro Λ sc env ρ e hE E σ s st Q iv V H
  cases e with
  | Constant c k pos =>
    cases c with
    | int i => exact wpAny_Constant_int (Po.now (a := D.v (.int i)) (st := st) H iv ⟨_, rfl⟩)
    | bool b => exact wpAny_Constant_bool (Po.now (a := D.v (.bool b)) (st := st) (tk := s.toks) H iv rfl)
    | str x => exact wpAny_Constant_str (Po.now (a := D.v (.str x)) (st := st) H iv ⟨_, rfl⟩)
    | none => exact wpAny_Constant_none (Po.now (a := D.v .none) (st := st) (tk := s.toks) H iv rfl)
    | _ => exact False.elim H
  | Name x pos => exact name_sound hC hE iv V H
  | BinOp l op r pos =>
    have H : Po W Λ NoX (relD Λ) E σ s ((I.ex sc ρ l st).bind fun a st => (I.ex sc ρ r st).bind fun b st => ofO st ((binop op a b).map D.v)) Q := H
    refine wpAny_BinOp (hI Λ sc env ρ l hE E σ s st _ iv V (Po.seq0 H fun a st₁ σ₁ h₁ tk₁ va f₁ k₁ i₁ r₁ H₁ => ?_))
    have V₁ := V.step (iv.sigma hE.loc) f₁ k₁
    refine hI Λ sc env ρ r hE E σ₁ _ st₁ _ i₁ V₁ (Po.seq0 H₁ fun b st₂ σ₂ h₂ tk₂ vb f₂ k₂ i₂ r₂ H₂ => ?_)
    exact binop_sound hA i₂ (RepD.step r₁ f₂ (k₂.weak fun a q => q.elim .inl fun q => q.elim)) r₂ H₂
  | UnaryOp op x pos =>
    cases op with
    | Not =>
      have H : Po W Λ NoX (relD Λ) E σ s ((I.ex sc ρ x st).bind fun a st => ofO st ((truth a).map fun b => D.v (.bool (!b)))) Q := H
      refine wpAny_UnaryOp (hI Λ sc env ρ x hE E σ s st _ iv V (Po.seq0 H fun d st₁ σ₁ h₁ tk₁ v f₁ k₁ i₁ r₁ H₁ => ?_))
      refine not_of ?_
      cases ht : truth d with
      | none => rw [ht] at H₁; exact H₁.elim
      | some t => rw [ht] at H₁; exact truth_sound r₁ ht (Po.now (tk := tk₁) H₁ i₁ rfl)
    | _ => exact False.elim H
  | IfExp c a b pos =>
    have H : Po W Λ NoX (relD Λ) E σ s ((I.tt sc ρ c st).bind fun t st => if t then I.ex sc ρ a st else I.ex sc ρ b st) Q := H
    refine wpAny_IfExp (hT Λ sc env ρ c hE E σ s st _ iv V (Po.seq0 H fun d st₁ σ₁ h₁ tk₁ v f₁ k₁ i₁ r₁ H₁ => ?_))
    have r₁ : v = d := r₁
    subst r₁
    have V₁ := V.step (iv.sigma hE.loc) f₁ k₁
    cases v with
    | true => exact hI Λ sc env ρ a hE E σ₁ _ st₁ _ i₁ V₁ H₁
    | false => exact hI Λ sc env ρ b hE E σ₁ _ st₁ _ i₁ V₁ H₁
  | BoolOp op vs pos => exact boolV_sound hE hI iv V H
  | Compare l ops cs pos =>
    have H : Po W Λ NoX (relD Λ) E σ s (if noDisp cs && ops.length == cs.length then (I.ex sc ρ l st).bind fun a st => (chain (I.ex sc ρ) a ops cs st).bind fun b st => .ok (.v (.bool b)) st else .stuck) Q := H
    split at H
    · rename_i hc
      obtain ⟨h1, h2⟩ := Bool.and_eq_true_iff.mp hc
      show wpAny _ _ (eval l env >>= fun v => compareChain pos v ops (markedEach ops cs (evalEach cs env))) _ _ _
      rw [marked_not h1]
      refine wpAny_bind (hI Λ sc env ρ l hE E σ s st _ iv V (Po.seq0 H fun d st₁ σ₁ h₁ tk₁ v f₁ k₁ i₁ r₁ H₁ => ?_))
      refine chain_sound hA hE hI (by simpa using h2) i₁ (V.step (iv.sigma hE.loc) f₁ k₁) r₁ (Po.seq0 H₁ fun b st₂ σ₂ h₂ tk₂ vb f₂ k₂ i₂ r₂ H₂ => ?_)
      have r₂ : vb = b := r₂
      subst r₂
      exact Po.now (tk := tk₂) H₂ i₂ rfl
    · exact H.elim
  | Tuple es k pos => exact tuple_sound hE hI iv V H
  | List es pos => exact list_sound hE hI iv V H
  | Attribute o a pos =>
    have H : Po W Λ NoX (relD Λ) E σ s (if isBare o then .stuck else (I.ex sc ρ o st).bind fun d st => match d with
      | .v (.inst c ns vs) => if C.attr c a then (match (ns.zip vs).lookup a with
        | some x => if isVal x then .stuck else .ok (.v x) st
        | Option.none => .stuck) else .stuck
      | _ => .stuck) Q := H
    split at H
    · exact H.elim
    · rename_i hb
      rw [eval_attr, attrBase_not (by simpa using hb)]
      refine wpAny_bind (hI Λ sc env ρ o hE E σ s st _ iv V (Po.seq0 H fun d st₁ σ₁ h₁ tk₁ v f₁ k₁ i₁ r₁ H₁ => ?_))
      refine wpAny_bind (wpAny_standAt (wpAny_bind (wpAny_holding ?_)))
      have V₁ := V.step (iv.sigma hE.loc) f₁ k₁
      split at H₁
      · rename_i c ns vs
        split at H₁
        · rename_i hat
          split at H₁
          · rename_i x hx
            split at H₁
            · exact H₁.elim
            · rename_i hv
              obtain ⟨g1, g2, at', g3, g4⟩ := hC.attr c a hat
              have r₁ : Rep (Bad σ₁ Λ) h₁ v (.inst c ns vs) := r₁
              unfold Rep at r₁
              obtain ⟨q, dx, es, n, rfl, n1, n2, o1, o2, k, rr⟩ := r₁
              obtain ⟨w', hw, rw'⟩ := keyed_rep k rr hx
              obtain ⟨m, F⟩ := frame_of i₁ hE V₁
              refine get_own (C := c) (ox := instObj c dx) F W.X ⟨o1, rfl, rfl, o2⟩ g1 g2 g3 g4 hw (handed_rep rw' (by simpa using hv)) ?_
              exact wpAny_bind (wpAny_letTemporaryGo (wpAny_pure (Po.now (a := D.v x) (st := st₁) H₁ i₁ rw')))
          · exact H₁.elim
        · exact H₁.elim
      · exact H₁.elim
  | Subscript o i pos =>
    have gen : (∀ lo hi p, i ≠ .Slice lo hi none p) → wpAny (model W.prog W.w) A (eval (.Subscript o i pos) env) Q E s := by
      intro hns
      have H : Po W Λ NoX (relD Λ) E σ s (if isStar i then .stuck else (I.ex sc ρ o st).bind fun d st => (I.ex sc ρ i st).bind fun k st => ofO st ((sub1 d k st).map D.v)) Q := by
        cases i with
        | Slice lo hi stp p =>
          cases stp with
          | none => exact absurd rfl (hns lo hi p)
          | some z => exact H
        | _ => exact H
      split at H
      · exact H.elim
      · refine Subscript_ (hI Λ sc env ρ o hE E σ s st _ iv V (Po.seq0 H fun d st₁ σ₁ h₁ tk₁ v f₁ k₁ i₁ r₁ H₁ => ?_))
        have V₁ := V.step (iv.sigma hE.loc) f₁ k₁
        refine hI Λ sc env ρ i hE E σ₁ _ st₁ _ i₁ V₁ (Po.seq0 H₁ fun k st₂ σ₂ h₂ tk₂ vk f₂ k₂ i₂ r₂ H₂ => ?_)
        have r₁' := RepD.step r₁ f₂ (k₂.weak fun a q => q.elim .inl fun q => q.elim)
        rw [ofO_map] at H₂
        split at H₂
        · rename_i x hx
          have fin : ∀ v, Rep (Bad σ₂ Λ) h₂ v x → Q v { s with heap := h₂, toks := tk₂ } := fun v r => Po.now (tk := tk₂) H₂ i₂ r
          unfold sub1 at hx
          split at hx
          · rename_i l z
            obtain ⟨t, rfl⟩ := r₂
            have r₁' : Rep (Bad σ₂ Λ) h₂ v (.tup l) := r₁'
            unfold Rep at r₁'
            obtain ⟨q, vs, n, rfl, hb, ho, hr⟩ := r₁'
            exact tup_item ho hr hx fin
          · rename_i l z
            obtain ⟨t, rfl⟩ := r₂
            have r₁' : Rep (Bad σ₂ Λ) h₂ v (.lst l) := r₁'
            unfold Rep at r₁'
            obtain ⟨q, ob, vs, n, rfl, hb, ho, hc, hd, hr⟩ := r₁'
            exact list_item ⟨ob, ho, hc, n, hd⟩ hr hx fin
          · rename_i j z
            obtain ⟨t, rfl⟩ := r₂
            split at hx
            · rename_i l hl
              obtain ⟨a, ha, rfl⟩ := r₁'
              obtain ⟨us, pl, hr, _⟩ := i₂.store.2.2 j a l ha hl
              exact list_item pl.isList hr hx fin
            · cases hx
          · cases hx
        · exact H₂.elim
    cases i with
    | Slice lo hi stp p =>
      cases stp with
      | none => exact slice_sound hE hI iv V H
      | some z => exact gen fun _ _ _ q => by cases q
    | _ => exact gen fun _ _ _ q => by cases q
  | Call f args kws pos =>
    cases kws with
    | cons k r => cases f <;> exact False.elim H
    | nil =>
      by_cases hf : isAttr f = true
      · cases f with
        | Attribute o name ap =>
          have H : Po W Λ NoX (relD Λ) E σ s (if !isBare o && noStar args && decide (args.length < 20) && ap.endLine == pos.line then (I.ex sc ρ o st).bind fun d st => match d with
              | .m i => (evs (I.ex sc ρ) args st).bind fun ds st => listM name i ds st
              | .v (.inst c ns _) => (match C.meth c name with
                | some f => if ns.contains name then .stuck else (evs (I.ex sc ρ) args st).bind fun ds st => Φ (.v (.val (.ref f))) (d :: ds) st
                | Option.none => .stuck)
              | _ => .stuck
            else .stuck) Q := H
          split at H
          · rename_i hc
            simp only [Bool.and_eq_true, Bool.not_eq_true', decide_eq_true_eq] at hc
            obtain ⟨⟨⟨c1, c2⟩, c3⟩, c4⟩ := hc
            rw [eval_meth, attrBase_not c1]
            refine wpAny_bind (hI Λ sc env ρ o hE E σ s st _ iv V (Po.seq0 H fun d st₁ σ₁ h₁ tk₁ v f₁ k₁ i₁ r₁ H₁ => ?_))
            refine wpAny_bind (wpAny_standAt ?_)
            have V₁ := V.step (iv.sigma hE.loc) f₁ k₁
            split at H₁
            · rename_i i
              exact listM_sound hA hE hI c2 c3 c4 i₁ V₁ r₁ H₁
            · rename_i c ns vs
              split at H₁
              · rename_i fa hm
                split at H₁
                · exact H₁.elim
                · rename_i hct
                  obtain ⟨g1, g2, g3, g4⟩ := hC.meth c name fa hm
                  have r₁' : Rep (Bad σ₁ Λ) h₁ v (.inst c ns vs) := r₁
                  unfold Rep at r₁'
                  obtain ⟨q, dx, es, n, rfl, n1, n2, o1, o2, k, rr⟩ := r₁'
                  obtain ⟨m, F⟩ := frame_of i₁ hE V₁
                  refine methodCall_sound c2 c3 c4 (f := .ref fa) (first := [.ref q]) (fun pl Q' q' => method_inst (C := c) (ox := instObj c dx) F W.X ⟨o1, rfl, rfl, o2⟩ g1 g2 g3 (keyed_none k (by simpa using hct)) q') ?_
                  refine args_sound hE hI c2 (fun h X => keeps_K g4 h X) i₁ V₁ (Po.seq0 H₁ fun ds st₂ σ₂ h₂ tk₂ ws f₂ k₂ i₂ r₂ H₂ => ⟨bases_in i₂, ?_⟩)
                  exact hΦ Λ (.v (.val (.ref fa))) (.v (.inst c ns vs) :: ds) (.ref fa) (.ref q :: ws) E σ₂ _ st₂ _ i₂ ⟨Vars.fr hE (V₁.step (i₁.sigma hE.loc) f₂ k₂), rfl, RepD.step r₁ f₂ (k₂.weak fun a q => q.elim .inl fun q => q.elim), r₂⟩ H₂
              · exact H₁.elim
            · exact H₁.elim
          · exact H.elim
        | _ => cases hf
      · have hf' : isAttr f = false := by simpa using hf
        have H : Po W Λ NoX (relD Λ) E σ s (if isAttr f || !noStar args then .stuck else (I.ex sc ρ f st).bind fun d st => match d with
          | .v (.val v) => if C.able v then (evs (I.ex sc ρ) args st).bind fun ds st => Φ d ds st else .stuck
          | _ => .stuck) Q := by
          cases f with
          | Attribute _ _ _ => exact absurd rfl hf
          | _ => exact H
        rw [eval_call hf']
        split at H
        · exact H.elim
        · rename_i hc
          simp only [Bool.or_eq_true, not_or, Bool.not_eq_true, Bool.not_eq_false'] at hc
          refine wpAny_bind (hI Λ sc env ρ f hE E σ s st _ iv V (Po.seq0 H fun d st₁ σ₁ h₁ tk₁ v f₁ k₁ i₁ r₁ H₁ => ?_))
          have V₁ := V.step (iv.sigma hE.loc) f₁ k₁
          split at H₁
          · rename_i vv
            split at H₁
            · rename_i hab
              have r₁' : v = vv := r₁
              subst r₁'
              refine args_sound hE hI hc.2 (fun h X => hC.able v hab _ h X) i₁ V₁ (Po.seq0 H₁ fun ds st₂ σ₂ h₂ tk₂ ws f₂ k₂ i₂ r₂ H₂ => ⟨bases_in i₂, ?_⟩)
              exact hΦ Λ (.v (.val v)) ds v ws E σ₂ _ st₂ _ i₂ ⟨Vars.fr hE (V₁.step (i₁.sigma hE.loc) f₂ k₂), rfl, r₂⟩ H₂
            · exact H₁.elim
          · exact H₁.elim
  | ListComp elt gens scope pos =>
    cases hg : oneGen gens with
    | none =>
      have : (step C Φ I).ex sc ρ (.ListComp elt gens scope pos) st = .stuck := by
        show (match oneGen gens with | some (target, iter, ifs) => _ | Option.none => Out.stuck) = _
        rw [hg]
      rw [this] at H
      exact H.elim
    | some g =>
      have hgs : gens = [⟨g.1, g.2.1, g.2.2, 0⟩] := by
        unfold oneGen at hg
        split at hg
        · split at hg
          · rename_i g' hz
            cases hg
            obtain ⟨t, i, f, a⟩ := g'
            have : a = 0 := by simpa using hz
            subst this
            rfl
          · cases hg
        · cases hg
      subst hgs
      exact comp_sound hA hE hI hT iv V H
  | _ => exact False.elim H


end
end Mine

end

section
open PySem PySem.W PySem.Spec PySem.Calls PyProof.Rows
set_option maxRecDepth 100000
namespace Mine

theorem X_sound {W : Wd} {A : Around} {C : Cx} {Φ : D → List D → Sto → Out D} (hA : AOk A) (hC : CxOk W C) (hΦ : CS W A Φ) : ∀ n, IE W A (X C Φ n) ∧ IT W A (X C Φ n) ∧ IS W A (X C Φ n)
  | 0 => ⟨fun _ _ _ _ _ _ _ _ _ _ _ _ _ H => H.elim, fun _ _ _ _ _ _ _ _ _ _ _ _ _ H => H.elim, fun _ _ _ _ _ _ _ _ _ _ _ _ _ _ H => H.elim⟩
  | n + 1 => by
    obtain ⟨a, b, c⟩ := X_sound hA hC hΦ n
    exact ⟨step_ex hA hC a b hΦ, step_tt hA a b, step_st hA a b c⟩

theorem zip_some : ∀ {ps : List Str} {vs : List Value}, ps.length = vs.length → ∀ n ∈ ps, ∃ v, (ps.zip vs).lookup n = some v
  | p :: ps, v :: vs, h, n, hn => by
    rw [List.zip_cons_cons, List.lookup_cons]
    cases q : n == p with
    | true => exact ⟨v, rfl⟩
    | false =>
      rcases List.mem_cons.mp hn with rfl | hn
      · simp at q
      · exact zip_some (by simpa using h) n hn
  | [], _, _, n, hn => nomatch hn
theorem fm_congr {α β : Type} {f g : α → Option β} : ∀ {l : List α}, (∀ a ∈ l, f a = g a) → l.filterMap f = l.filterMap g
  | [], _ => rfl
  | a :: l, h => by rw [List.filterMap_cons, List.filterMap_cons, h a (.head _), fm_congr fun b hb => h b (.tail _ hb)]
theorem zip_each : ∀ {ps : List Str} {vs : List Value}, ps.length = vs.length → distinct ps = true → ps.filterMap (fun n => ((ps.zip vs).lookup n).map (n, ·)) = ps.zip vs
  | p :: ps, v :: vs, h, hd => by
    unfold distinct at hd
    obtain ⟨hd1, hd2⟩ := Bool.and_eq_true_iff.mp hd
    rw [List.zip_cons_cons, List.filterMap_cons]
    simp only [List.lookup_cons, beq_self_eq_true, Option.map_some]
    congr 1
    have : ∀ n ∈ ps, (n == p) = false := fun n hn => by
      cases q : n == p with
      | false => rfl
      | true =>
        have := beq_iff_eq.mp q
        subst this
        rw [Bool.not_eq_true', ← Bool.not_eq_true] at hd1
        exact absurd (List.contains_iff_mem.mpr hn) hd1
    refine (fm_congr (fun n hn => ?_)).trans (zip_each (ps := ps) (vs := vs) (by simpa using h) hd2)
    rw [this n hn]
  | [], [], _, _ => rfl
theorem bind_plain {fd : FuncData} {vs : List Value} {ps : List Str} (hps : fd.params.args.map (·.arg) = ps) (h1 : fd.params.posonlyargs = []) (h3 : fd.params.kwonlyargs = []) (h4 : fd.params.vararg = none) (h5 : fd.params.kwarg = none) (h6 : fd.defaults = .none) (hl : ps.length = vs.length) (hd : distinct ps = true) :
    bindArgs fd ⟨vs, []⟩ = pure (ps.zip vs) := by
  have n1 : ∀ k, (ps.take k).filter (fun n => ((ps.zip vs).lookup n).isNone) = [] := fun k => by
    rw [List.filter_eq_nil_iff]
    intro n hn
    obtain ⟨v, hv⟩ := zip_some hl n (List.mem_of_mem_take hn)
    rw [hv]; simp
  have n2 := zip_each hl hd
  have n3 : ∀ k, (ps.drop k).zip ([] : List Value) = [] := fun k => by simp
  unfold bindArgs
  simp only [h1, h3, h4, h5, h6, hps, hl, List.map_nil, List.nil_append, List.append_nil, n1, n2, List.isEmpty_nil, Bool.not_true, Option.isNone_none, Option.isSome_none, gt_iff_lt, Nat.lt_irrefl, decide_false, Bool.false_and, Bool.false_eq_true, if_false, seqItems?, notAStandIn, List.forIn_nil, pure_bind, Option.getD_none, List.drop_nil, n3, List.forIn_nil]

noncomputable def isNoneV : Value → Bool
  | .none => true
  | _ => false
noncomputable def fdPs (fd : FuncData) : List Str := fd.params.args.map (·.arg)
noncomputable def fdOk (K : Frag) (fd : FuncData) : Bool :=
  fd.params.posonlyargs.isEmpty && (fd.params.kwonlyargs.isEmpty && (fd.params.vararg.isNone && (fd.params.kwarg.isNone && (isNoneV fd.defaults && (codeIn K fd.code fd.qualname && (fd.closure.isEmpty && (fd.globals == mainGlobals && (fd.builtins == builtinsNs && (fd.scope.kind == .function &&
  (!fd.scope.isCoroutine && (!fd.scope.isGenerator && ((fd.scope.names.all fun x => x.2 != .cell && x.2 != .free) && (((fdPs fd).all fun p => fd.scope.names.lookup p == some .local) && distinct (fdPs fd))))))))))))))
noncomputable def fnIn (K : Frag) (a : Addr) : Option FnI := match K.lookup a with
  | some ⟨_, _, .func fd, _⟩ => (match fd.body with
    | .stmts b => if fdOk K fd then some ⟨fdPs fd, fd.scope, b⟩ else none
    | _ => none)
  | _ => none

structure FnIs (K : Frag) (a : Addr) (f : FnI) (fd : FuncData) (o : Obj) : Prop where
  at_ : K.lookup a = some o
  data : o.data = .func fd
  body : fd.body = .stmts f.body
  ps : fd.params.args.map (·.arg) = f.ps
  sc : fd.scope = f.sc
  h1 : fd.params.posonlyargs = []
  h2 : fd.params.kwonlyargs = []
  h3 : fd.params.vararg = none
  h4 : fd.params.kwarg = none
  h5 : fd.defaults = .none
  code : codeIn K fd.code fd.qualname = true
  clo : fd.closure = []
  glob : fd.globals = mainGlobals
  bi : fd.builtins = builtinsNs
  kind : fd.scope.kind = .function
  co : fd.scope.isCoroutine = false
  gen : fd.scope.isGenerator = false
  names : ∀ x ∈ fd.scope.names, x.2 ≠ .cell ∧ x.2 ≠ .free
  loc : ∀ p ∈ f.ps, fd.scope.names.lookup p = some .local
  dis : distinct f.ps = true
theorem fnIn_is {K : Frag} {a : Addr} {f : FnI} (h : fnIn K a = some f) : ∃ fd o, FnIs K a f fd o := by
  unfold fnIn at h
  split at h
  · rename_i c d fd sl ho
    split at h
    · rename_i b hb
      split at h
      · rename_i hok
        cases h
        unfold fdOk at hok
        obtain ⟨h1, hok⟩ := Bool.and_eq_true_iff.mp hok
        obtain ⟨h2, hok⟩ := Bool.and_eq_true_iff.mp hok
        obtain ⟨h3, hok⟩ := Bool.and_eq_true_iff.mp hok
        obtain ⟨h4, hok⟩ := Bool.and_eq_true_iff.mp hok
        obtain ⟨h5, hok⟩ := Bool.and_eq_true_iff.mp hok
        obtain ⟨h6, hok⟩ := Bool.and_eq_true_iff.mp hok
        obtain ⟨h7, hok⟩ := Bool.and_eq_true_iff.mp hok
        obtain ⟨h8, hok⟩ := Bool.and_eq_true_iff.mp hok
        obtain ⟨h9, hok⟩ := Bool.and_eq_true_iff.mp hok
        obtain ⟨h10, hok⟩ := Bool.and_eq_true_iff.mp hok
        obtain ⟨h11, hok⟩ := Bool.and_eq_true_iff.mp hok
        obtain ⟨h12, hok⟩ := Bool.and_eq_true_iff.mp hok
        obtain ⟨h13, hok⟩ := Bool.and_eq_true_iff.mp hok
        obtain ⟨h14, h15⟩ := Bool.and_eq_true_iff.mp hok
        refine ⟨fd, _, ⟨ho, rfl, hb, rfl, rfl, List.isEmpty_iff.mp h1, List.isEmpty_iff.mp h2, Option.isNone_iff_eq_none.mp h3, Option.isNone_iff_eq_none.mp h4, ?_, h6, List.isEmpty_iff.mp h7, beq_iff_eq.mp h8, beq_iff_eq.mp h9, by simpa using h10, by simpa using h11, by simpa using h12, fun x hx => ?_, fun p hp => ?_, h15⟩⟩
        · unfold isNoneV at h5
          split at h5
          · assumption
          · cases h5
        · have := List.all_eq_true.mp h13 x hx
          simpa using this
        · have := List.all_eq_true.mp h14 p hp
          simpa using this
      · cases h
    · cases h
  · cases h

theorem zip_repd {σ : List Addr} {B : Addr → Prop} {h : Heap} : ∀ {ps : List Str} {vs : List Value} {ds : List D} {x : Str} {d : D}, RepDs σ B h vs ds → (ps.zip ds).lookup x = some d → ∃ v, (ps.zip vs).lookup x = some v ∧ RepD σ B h v d
  | p :: ps, v :: vs, e :: ds, x, d, r, hl => by
    rw [List.zip_cons_cons, List.lookup_cons] at hl ⊢
    cases q : x == p with
    | true =>
      rw [q] at hl
      cases hl
      exact ⟨v, rfl, r.1⟩
    | false =>
      rw [q] at hl
      exact zip_repd r.2 hl
  | [], _, _, _, _, _, hl => by simp at hl
  | _ :: _, _, [], _, _, _, hl => by simp at hl
  | _ :: _, [], _ :: _, _, _, r, _ => r.elim

section
variable {W : Wd} {A : Around} {Λ σ : List Addr} {E : Value → Shared → Prop} {s : Shared} {st : Sto}

/-- the store cut back: what was in it is frozen -/
theorem take_mv {h : Heap} {e : List Addr} {L : Addr} : ∀ b o, h.get? b = some o → ¬ Bad (σ ++ e) (L :: Λ) b → h.get? b = some o ∧ ¬ Bad σ Λ b := fun b o q n => ⟨q, fun z => n (z.elim (fun z => .inl (List.mem_append_left _ z)) fun z => .inr (.tail _ z))⟩
theorem Inv.take {h : Heap} {e : List Addr} {L : Addr} (I : Inv W (σ ++ e) (L :: Λ) h st) : Inv W σ Λ h (st.take σ.length) := by
  refine ⟨I.keep, fun a q => I.new a (q.elim (fun z => .inl (List.mem_append_left _ z)) fun z => .inr (.tail _ z)), ⟨?_, ?_, fun i a l e1 e2 => ?_⟩, fun a ha q => I.apart a (List.mem_append_left _ ha) (.tail _ q)⟩
  · rw [List.length_take, ← I.store.1, List.length_append]; omega
  · exact (List.nodup_append.mp I.store.2.1).1
  · have hi := (List.getElem?_eq_some_iff.mp e1).1
    rw [List.getElem?_take_of_lt hi] at e2
    obtain ⟨vs, q, r, z⟩ := I.store.2.2 i a l (by rw [List.getElem?_append_left hi]; exact e1) e2
    exact ⟨vs, q, r.mono take_mv, z⟩

theorem retn_sound {d : D} {v : Value} {σ' : List Addr} {h' : Heap} {tk : Nat} {st' : Sto} {L : Addr} {Q : Value → Shared → Prop} (hn : σ.length = st.length) (f : Fresh σ σ' s.heap) (k : Kp (fun x => x ∈ σ ∨ NoX x) s.heap h') (i : Inv W σ' (L :: Λ) h' st') (r : RepD σ' (Bad σ' (L :: Λ)) h' v d)
    (H : Po W Λ NoX (relD Λ) E σ s (retn st.length d st') Q) : Q v { s with heap := h', toks := tk } := by
  obtain ⟨e, rfl, he⟩ := f
  unfold retn at H
  split at H
  · rename_i x
    rw [← hn] at H
    exact H σ h' tk v Fresh.refl k i.take (Rep.mono take_mv r)
  · rename_i j
    split at H
    · rename_i hj
      rw [← hn] at H
      obtain ⟨a, ha, hv⟩ := r
      rw [← hn] at hj
      rw [List.getElem?_append_left hj] at ha
      exact H σ h' tk v Fresh.refl k i.take ⟨a, ha, hv⟩
    · exact H _ h' tk v ⟨e, rfl, he⟩ k i.unlam r

theorem runBody_sound {C : Cx} {Φ : D → List D → Sto → Out D} {a : Addr} {f : FnI} (hdp : A.depth < recursionLimit) (hf : fnIn W.K a = some f) (hS : ∀ env, IS W (A.deeper env) (X C Φ 64)) {ds : List D} {vs : List Value} {Q : Value → Shared → Prop}
    (iv : Inv W σ Λ s.heap st) (hr : RepDs σ (Bad σ Λ) s.heap vs ds) (H : Po W Λ NoX (relD Λ) E σ s (runBody C Φ f ds st) Q) : wpAny (model W.prog W.w) A (call (.ref a) vs) Q E s := by
  obtain ⟨fd, o, F⟩ := fnIn_is hf
  unfold runBody at H
  split at H
  · rename_i hlen
    have hlv : f.ps.length = vs.length := by rw [hlen, RepDs.length hr]
    refine wpAny_call (codeAny_call_def (binds := f.ps.zip vs) hdp (bases_in iv _ _ F.at_) F.data (W.T.nolimit.keeps iv.keep) (codeRec_of (bases_in iv) F.code) F.body (BindsTo.of_eq (bind_plain F.ps F.h1 F.h2 F.h3 F.h4 F.h5 hlv F.dis)) (fun x hx => (F.names x hx).1)
      (fun x hx => F.loc _ (List.of_mem_zip (a := x.1) (b := x.2) hx).1) (fun h₀ hns hk => ?_) F.co F.gen F.kind)
    obtain ⟨oL, hoL⟩ := ns_obj hns
    have n0 : s.heap.get? s.heap.objs.size = none := get_size
    have i₁ : Inv W σ (s.heap.objs.size :: Λ) h₀ st := iv.lam n0 hk hoL iv.size
    have noc : ∀ x k, f.sc.names.lookup x = some k → k ≠ .cell ∧ k ≠ .free := fun x k e => F.names (x, k) (F.sc ▸ mem_of_lookup e)
    have hE : EnvOk (s.heap.objs.size :: Λ) f.sc (callEnv fd s.heap.objs.size a) := by
      refine ⟨F.sc ▸ F.kind, F.sc, F.glob, F.bi, .head _, fun x c e => ?_, fun x q => ?_⟩
      · have e : fd.closure.lookup x = some c := e
        rw [F.clo] at e; cases e
      · rcases q with q | q
        · exact absurd rfl (noc x _ q).1
        · exact absurd rfl (noc x _ q).2
    have hcl : CellsOk (s.heap.objs.size :: Λ) (callEnv fd s.heap.objs.size a) := hE.cin
    have hV : Vars (s.heap.objs.size :: Λ) f.sc (callEnv fd s.heap.objs.size a) (f.ps.zip ds) σ h₀ := by
      refine ⟨_, hns, fun x d e => ⟨fun q => ?_, fun q => ?_⟩⟩
      · obtain ⟨v, h1, h2⟩ := zip_repd hr e
        exact ⟨v, by rw [lookup_rev x F.dis hlv]; exact h1, h2.mono (lam_mv n0 hk)⟩
      · rcases q with q | q
        · exact absurd rfl (noc x _ q).1
        · exact absurd rfl (noc x _ q).2
    refine exs_sound hE hcl (hS _) f.body (f.ps.zip ds) _ σ _ st _ i₁ hV (Po.sub H fun p st' σ' h' tk b f₁ k₁ i₂ r₂ H₂ => ?_)
    obtain ⟨fl, ρ'⟩ := p
    obtain ⟨r₂, _⟩ := r₂
    have fr : Fresh σ σ' s.heap := Fresh.refl.trans f₁ (Kp.all (W := NoX) hk)
    have kp : Kp (fun x => x ∈ σ ∨ NoX x) s.heap h' := by
      refine (Kp.all (W := fun x => x ∈ σ ∨ NoX x) hk).trans k₁ fun x al q => ?_
      rcases q with q | q | ⟨y, q⟩
      · exact .inl q
      · obtain ⟨o', e⟩ := al
        have q : x = s.heap.objs.size := q
        rw [q, n0] at e; cases e
      · have q : fd.closure.lookup y = some x := q
        rw [F.clo] at q; cases q
    cases fl with
    | next =>
      cases b with
      | next => exact retn_sound (s := s) (tk := tk) iv.store.1 fr kp i₂ (d := .v .none) (v := .none) rfl H₂
      | _ => exact r₂.elim
    | ret d =>
      cases b with
      | ret v => exact retn_sound (s := s) (tk := tk) iv.store.1 fr kp i₂ r₂ H₂
      | _ => exact r₂.elim
    | _ => exact H₂.elim
  · exact H.elim
end
end Mine

end

section
open PySem PySem.W PySem.Spec PySem.Calls PyProof.Rows
set_option maxRecDepth 100000
namespace Mine

theorem weight_make (C : Addr) (vs : List Value) : Code.weight (.builtin "type.__call__" ⟨.ref C :: vs, []⟩) = 1 := by first | rfl | kernel_rfl

theorem put_new {q : Str} {hs : Int} {k v : Value} : ∀ {es : List DictEntry} {ds : List Str}, Keyed es ds → ds.contains q = false → putL q hs k v es = es ++ [⟨hs, k, v⟩] ∧ es.any (·.key.isStr q) = false
  | [], [], _, _ => ⟨rfl, rfl⟩
  | e :: es, d :: ds, kk, h => by
    obtain ⟨⟨t, he⟩, k'⟩ := kk
    obtain ⟨hh, ek, ev⟩ := e
    simp only at he
    subst he
    have h1 : (q == d) = false ∧ ds.contains q = false := by simpa using h
    have h2 : (d == q) = false := by
      have := h1.1
      rw [beq_eq_false_iff_ne] at this ⊢
      exact fun z => this z.symm
    obtain ⟨a, b⟩ := put_new (q := q) (hs := hs) (k := k) (v := v) k' h1.2
    constructor
    · unfold putL
      have : (Value.str d t).isStr q = (d == q) := rfl
      rw [this, h2, a]
      rfl
    · rw [List.any_cons, b]
      show ((d == q) || false) = false
      rw [h2]; rfl
  | [], _ :: _, k, _ => k.elim
  | _ :: _, [], k, _ => k.elim
theorem keyed_snoc {q : Str} {hs : Int} {t : Tok} {v : Value} : ∀ {es : List DictEntry} {ds : List Str}, Keyed es ds → Keyed (es ++ [⟨hs, .str q t, v⟩]) (ds ++ [q])
  | [], [], _ => ⟨⟨t, rfl⟩, trivial⟩
  | _ :: _, _ :: _, k => ⟨k.1, keyed_snoc k.2⟩
  | [], _ :: _, k => k.elim
  | _ :: _, [], k => k.elim

noncomputable def initPs (self : Str) : List Stmt → Option (List Str)
  | [] => some []
  | .Assign [.Attribute (.Name x _) f _] (.Name p _) _ :: r => if x == self && (f == p && (!(p == Str.ofString "__debug__") && !(x == Str.ofString "__debug__"))) then (initPs self r).map (p :: ·) else none
  | _ :: _ => none

structure ClsIs (K : Frag) (C : Addr) : Prop where
  setattr : findIn K (.ref C) "__setattr__" = some (some (.builtin "object.__setattr__"))
  plain : plainOver K C = true
  dict : hasDictIn K C = true

section
variable {W : Wd} {A : Around} {Λ σ : List Addr} {E : Value → Shared → Prop} {s : Shared} {st : Sto}

theorem init_body {env : Env} {sc : Scope} {self : Str} {x dx C : Addr} {m : Str → Option Value} (hsc : env.scope = sc) (hk : sc.kind = .function) (hself : sc.names.lookup self = some .local) (hm : m self = some (.ref x)) (hc : ClsIs W.K C)
    (hb : W.base.objs.size ≤ env.locals) (hx : W.base.get? x = none) (hdx : W.base.get? dx = none) (n1 : x ≠ dx) (n2 : x ≠ env.locals) (n3 : dx ≠ env.locals) {Q : Flow → Shared → Prop} :
    ∀ (ss : List Stmt) (qs : List Str) (es : List DictEntry) (n : Nat) (ds : List Str) (s : Shared), initPs self ss = some qs → (∀ q ∈ qs, sc.names.lookup q = some .local ∧ (∃ v, m q = some v) ∧ takerIn W.K C q = some none ∧ ds.contains q = false) → distinct qs = true →
      s.heap.Ns env.locals m → (∀ b o, W.base.get? b = some o → s.heap.get? b = some o) → s.heap.get? x = some (instObj C dx) → s.heap.get? dx = some (dictOf es n) → Keyed es ds → es.length + qs.length ≤ 1000 →
      (∀ h' tk es' n', h'.get? x = some (instObj C dx) → h'.get? dx = some (dictOf es' n') → (∀ b o, W.base.get? b = some o → h'.get? b = some o) → Keyed es' (ds ++ qs) → es'.map (·.val) = es.map (·.val) ++ qs.map (fun q => (m q).getD .none) → Kp (fun a => a = dx ∨ a = env.locals) s.heap h' → Q .next { s with heap := h', toks := tk }) →
      wpAny (model W.prog W.w) A (execs ss env) Q E s
  | [], qs, es, n, ds, s, hi, hq, hd, hns, hkeep, ox, od, ky, hlen, q => by
    cases hi
    exact wpAny_execs_nil (q s.heap s.toks es n ox od hkeep (by simpa using ky) (by simp) Kp.refl)
  | a :: r, qs, es, n, ds, s, hi, hq, hd, hns, hkeep, ox, od, ky, hlen, q => by
    unfold initPs at hi
    split at hi
    · rename_i heq
      cases heq
    · rename_i z p1 f p2 p p3 pos r' heq
      injection heq with e1 e2
      subst e1 e2
      split at hi
      · rename_i hcond
        simp only [Bool.and_eq_true, beq_iff_eq, Bool.not_eq_true'] at hcond
        obtain ⟨hz, hf, hp, hzd⟩ := hcond
        subst hz hf
        obtain ⟨qs', hi', rfl⟩ := Option.map_eq_some_iff.mp hi
        obtain ⟨l1, ⟨v, l2⟩, l3, l4⟩ := hq f (.head _)
        have hkind : ∀ y k, sc.names.lookup y = some k → env.kindOf y = some k := fun y k e => by unfold Env.kindOf; rw [hsc]; exact e
        have hke : env.scope.kind = .function := by rw [hsc]; exact hk
        refine wpAny_execs_cons (plainObj_wpAny_Assign_Attribute (wpAny_Name (wpAny_loadName_local hke (hkind _ _ l1) hns l2 (wpAny_Name (wpAny_loadName_local hke (hkind _ _ hself) hns hm ?_) hzd)) hp) (swaps_not rfl))
        have F : Fr W.base env.locals s.heap m := ⟨hns, hkeep, hb⟩
        let rest := (Alls W.base env.locals s.heap).filter fun p => p.1 != x && p.1 != dx
        have hrest : ∀ p ∈ rest, p.1 ≠ x ∧ p.1 ≠ dx ∧ p ∈ Alls W.base env.locals s.heap := fun p hp => by
          obtain ⟨h1, h2⟩ := List.mem_filter.mp hp
          rw [Bool.and_eq_true, bne_iff_ne, bne_iff_ne] at h2
          exact ⟨h2.1, h2.2, h1⟩
        have N : News W.base env.locals s.heap ((x, instObj C dx) :: (dx, dictOf es n) :: rest) := fun p hp => by
          rcases List.mem_cons.mp hp with rfl | hp
          · exact ⟨ox, n2, hx⟩
          · rcases List.mem_cons.mp hp with rfl | hp
            · exact ⟨od, n3, hdx⟩
            · exact news_alls p (hrest p hp).2.2
        obtain ⟨pl, pn⟩ := put_new (q := f) (hs := PyData.keyHash W.w.params f) (k := .str f (s.toks + 1)) (v := v) ky l4
        have hlen' : es.length + (qs'.length + 1) ≤ 1000 := hlen
        refine set_dict (es' := es ++ [⟨PyData.keyHash W.w.params f, .str f (s.toks + 1), v⟩]) (n' := n + 1) F W.X N ⟨ox, rfl, rfl, od⟩ rfl hc.setattr hc.plain l3 hc.dict (by rw [keyed_none ky l4]; rfl)
          (by rw [pl]; unfold putN; rw [pn]; rfl) (.tail n1 (.head fun p hp => (hrest p hp).2.1)) (by rw [List.length_append]; simp; omega) fun h' F' N' => ?_
        have o1 := (N' _ (.head _)).1
        have o2 := (N' _ (.tail _ (.head _))).1
        have kp : Kp (fun a => a = dx ∨ a = env.locals) s.heap h' := fun b o e => by
          cases hbb : W.base.get? b with
          | some o' =>
            have := hkeep b o' hbb
            rw [e] at this
            cases this
            have := F'.keep b o hbb
            exact ⟨fun _ => this, o, this⟩
          | none =>
            by_cases hbl : b = env.locals
            · subst hbl
              obtain ⟨oL, hoL⟩ := ns_obj F'.ns
              exact ⟨fun q => absurd (.inr rfl) q, oL, hoL⟩
            · by_cases hbd : b = dx
              · subst hbd
                exact ⟨fun q => absurd (.inl rfl) q, _, o2⟩
              · by_cases hbx : b = x
                · subst hbx
                  rw [ox] at e
                  cases e
                  exact ⟨fun _ => o1, _, o1⟩
                · have : (b, o) ∈ rest := List.mem_filter.mpr ⟨mem_alls.mpr ⟨e, hbb, hbl⟩, by rw [Bool.and_eq_true, bne_iff_ne, bne_iff_ne]; exact ⟨hbx, hbd⟩⟩
                  have := (N' (b, o) (.tail _ (.tail _ this))).1
                  exact ⟨fun _ => this, o, this⟩
        unfold distinct at hd
        obtain ⟨hd1, hd2⟩ := Bool.and_eq_true_iff.mp hd
        refine init_body hsc hk hself hm hc hb hx hdx n1 n2 n3 r qs' _ _ (ds ++ [f]) { s with heap := h', toks := s.toks + 2 } hi' (fun y hy => ?_) hd2 F'.ns F'.keep o1 o2 (keyed_snoc ky) (by rw [List.length_append]; simp; omega) fun h'' tk es' n' x1 x2 x3 x4 x5 x6 => ?_
        · obtain ⟨y1, y2, y3, y4⟩ := hq y (.tail _ hy)
          refine ⟨y1, y2, y3, ?_⟩
          have hne : y ≠ f := fun z => by
            subst z
            rw [Bool.not_eq_true', ← Bool.not_eq_true] at hd1
            exact hd1 (List.contains_iff_mem.mpr hy)
          rw [Bool.eq_false_iff] at y4 ⊢
          intro z
          rw [List.contains_iff_mem, List.mem_append] at z
          rcases z with z | z
          · exact y4 (List.contains_iff_mem.mpr z)
          · exact hne (List.mem_singleton.mp z)
        · refine q h'' tk es' n' x1 x2 x3 (by rw [List.append_assoc] at x4; exact x4) ?_ (kp.trans x6 fun a _ z => z)
          rw [x5, List.map_append, List.append_assoc, List.map_cons]
          congr 1
          rw [List.map_cons, l2]; rfl
      · cases hi
    · cases hi
end
end Mine

end

section
open PySem PySem.W PySem.Spec PySem.Calls PyProof.Rows
set_option maxRecDepth 100000
namespace Mine

noncomputable def takes0 (K : Frag) (C : Addr) (p : Str) : Bool := match takerIn K C p with
  | some none => true
  | _ => false
noncomputable def setsPlain (K : Frag) (C : Addr) : Bool := match findIn K (.ref C) "__setattr__" with
  | some (some (.builtin id)) => id == "object.__setattr__"
  | _ => false
noncomputable def initOf (K : Frag) (c : Addr) : Option Addr := match findIn K (.ref c) "__init__" with
  | some (some (.ref fI)) => some fI
  | _ => none
noncomputable def psOf (f : FnI) : Option (List Str) := match f.ps with
  | self :: ps => if initPs self f.body == some ps then some ps else none
  | [] => none
noncomputable def clsInit (K : Frag) (c : Addr) : Option (List Str) :=
  if makesIn K c then (match initOf K c with
    | some fI => if isFn K (.ref fI) then (match fnIn K fI with
        | some f => (match psOf f with
          | some ps => if setsPlain K c && (plainOver K c && (hasDictIn K c && (ps.all (takes0 K c) && decide (ps.length ≤ 1000)))) then some ps else none
          | none => none)
        | none => none) else none
    | none => none) else none

structure ClsI (K : Frag) (c : Addr) (ns : List Str) (fI : Addr) (f : FnI) (slf : Str) : Prop where
  makes : makesIn K c = true
  init : findIn K (.ref c) "__init__" = some (some (.ref fI))
  isf : isFn K (.ref fI) = true
  fn : fnIn K fI = some f
  ps : f.ps = slf :: ns
  body : initPs slf f.body = some ns
  is : ClsIs K c
  take : ∀ p ∈ ns, takerIn K c p = some none
  len : ns.length ≤ 1000
theorem clsInit_is {K : Frag} {c : Addr} {ns : List Str} (h : clsInit K c = some ns) : ∃ fI f self, ClsI K c ns fI f self := by
  unfold clsInit at h
  split at h
  · rename_i hm
    split at h
    · rename_i fI hi
      split at h
      · rename_i hf
        split at h
        · rename_i f hfn
          split at h
          · rename_i ps hps
            split at h
            · rename_i hc
              cases h
              simp only [Bool.and_eq_true, decide_eq_true_eq] at hc
              obtain ⟨c1, c2, c3, c4, c5⟩ := hc
              unfold psOf at hps
              split at hps
              · rename_i self ps' hfps
                split at hps
                · rename_i hb
                  cases hps
                  refine ⟨fI, f, self, ⟨hm, ?_, hf, hfn, hfps, by simpa using hb, ⟨?_, c2, c3⟩, fun p hp => ?_, c5⟩⟩
                  · unfold initOf at hi
                    split at hi
                    · rename_i h1
                      cases hi
                      exact h1
                    · cases hi
                  · unfold setsPlain at c1
                    split at c1
                    · rename_i id h1
                      have : id = "object.__setattr__" := by simpa using c1
                      rw [this] at h1
                      exact h1
                    · cases c1
                  · have := List.all_eq_true.mp c4 p hp
                    unfold takes0 at this
                    split at this
                    · assumption
                    · cases this
                · cases hps
              · cases hps
            · cases h
          · cases h
        · cases h
      · cases h
    · cases h
  · cases h

theorem map_lookup : ∀ {ps : List Str} {vs : List Value}, distinct ps = true → ps.length = vs.length → ps.map (fun q => ((ps.zip vs).lookup q).getD .none) = vs
  | [], [], _, _ => rfl
  | p :: ps, v :: vs, hd, hl => by
    unfold distinct at hd
    obtain ⟨hd1, hd2⟩ := Bool.and_eq_true_iff.mp hd
    rw [List.map_cons, List.zip_cons_cons]
    congr 1
    · rw [List.lookup_cons]; simp
    · refine Eq.trans (List.map_congr_left fun q hq => ?_) (map_lookup (ps := ps) (vs := vs) hd2 (by simpa using hl))
      rw [List.lookup_cons]
      cases z : q == p with
      | false => rfl
      | true =>
        have := beq_iff_eq.mp z
        subst this
        rw [Bool.not_eq_true', ← Bool.not_eq_true] at hd1
        exact absurd (List.contains_iff_mem.mpr hq) hd1
  | [], _ :: _, _, h => by cases h
  | _ :: _, [], _, h => by cases h

theorem vals_repsL {σ : List Addr} {B : Addr → Prop} {h : Heap} : ∀ {ds : List D} {vs : List Value} {l : List V}, RepDs σ B h vs ds → vals ds = some l → Reps B h vs l
  | [], [], l, _, e => by cases e; trivial
  | .v x :: ds, v :: vs, l, r, e => by
    unfold vals at e
    obtain ⟨l', h1, rfl⟩ := Option.map_eq_some_iff.mp e
    exact ⟨r.1, vals_repsL r.2 h1⟩
  | .m _ :: _, _ :: _, _, _, e => by cases e
  | [], _ :: _, _, r, _ => r.elim
  | _ :: _, [], _, r, _ => r.elim

section
variable {W : Wd} {A : Around} {Λ σ : List Addr} {E : Value → Shared → Prop} {s : Shared} {st : Sto}

theorem Inv.turn {h h' : Heap} (I : Inv W σ Λ h st) (k : Kp (fun a => a ∈ Λ) h h') : Inv W σ Λ h' st := by
  have kb : Kp (Bad σ Λ) h h' := k.weak fun a q => .inr q
  have low : ∀ b o, W.base.get? b = some o → b ∉ Λ := fun b o e q => absurd (Heap.lt_size e) (Nat.not_lt.mpr (I.new b (.inr q)).1)
  refine ⟨fun b o e => k.at (I.keep b o e) (low b o e), fun b q => ⟨(I.new b q).1, ?_⟩, ⟨I.store.1, I.store.2.1, fun i b l e1 e2 => ?_⟩, I.apart⟩
  · obtain ⟨o, e⟩ := (I.new b q).2
    exact (k b o e).2
  · obtain ⟨vs, q, r, z⟩ := I.store.2.2 i b l e1 e2
    exact ⟨vs, q.at fun o' e => k.at e fun w => I.apart b (List.mem_of_getElem? e1) w, r.step Fresh.refl kb, z⟩

theorem mk_sound {c : Addr} {ns : List Str} {ds : List D} {vs : List Value} {Q : Value → Shared → Prop} (hdp : A.depth + 1 < recursionLimit) (hc : clsInit W.K c = some ns) (hl : ns.length = ds.length) (iv : Inv W σ Λ s.heap st) (hr : RepDs σ (Bad σ Λ) s.heap vs ds)
    (H : Po W Λ NoX (relD Λ) E σ s (ofO st ((vals ds).map fun l => D.v (.inst c ns l))) Q) : wpAny (model W.prog W.w) A (call (.ref c) vs) Q E s := by
  obtain ⟨fI, f, self, CI⟩ := clsInit_is hc
  obtain ⟨fd, o, F⟩ := fnIn_is CI.fn
  rw [ofO_map] at H
  split at H
  · rename_i l hv
    have hreps := vals_repsL hr hv
    have X := bases_in iv
    obtain ⟨hh, g, d, t, os⟩ := s
    refine wpAny_call (make_core (makes_of X CI.makes) (looks_findIn X CI.init) (fun self => bind_fn X self (beq_iff_eq.mp CI.isf)) (.inl rfl) ?_)
    have hlv : f.ps.length = (Value.ref (hh.objs.size + 1) :: vs).length := by rw [CI.ps, List.length_cons, List.length_cons, hl, RepDs.length hr]
    have dn : hh.get? hh.objs.size = none := get_size
    have k1 : ∀ b o, hh.get? b = some o → (hh.push emptyDict).get? b = some o := fun b o e => Heap.get?_push_of_some _ e
    have i1 : Inv W σ (hh.objs.size :: Λ) (hh.push emptyDict) st := iv.lam dn k1 (Heap.get?_push_size _ rfl) iv.size
    have xn : (hh.push emptyDict).get? (hh.objs.size + 1) = none := by
      have : (hh.push emptyDict).get? (hh.push emptyDict).objs.size = none := get_size
      rw [Heap.size_push] at this; exact this
    have k2 : ∀ b o, (hh.push emptyDict).get? b = some o → ((hh.push emptyDict).push (instObj c hh.objs.size)).get? b = some o := fun b o e => Heap.get?_push_of_some _ e
    have ox : ((hh.push emptyDict).push (instObj c hh.objs.size)).get? (hh.objs.size + 1) = some (instObj c hh.objs.size) := by
      have : ((hh.push emptyDict).push (instObj c hh.objs.size)).get? (hh.push emptyDict).objs.size = some (instObj c hh.objs.size) := Heap.get?_push_size _ rfl
      rw [Heap.size_push] at this; exact this
    have od : ((hh.push emptyDict).push (instObj c hh.objs.size)).get? hh.objs.size = some emptyDict := k2 _ _ (Heap.get?_push_size _ rfl)
    have i2 : Inv W σ ((hh.objs.size + 1) :: hh.objs.size :: Λ) ((hh.push emptyDict).push (instObj c hh.objs.size)) st := i1.lam xn k2 ox (by have := i1.size; rw [Heap.size_push] at this; exact this)
    have nxΛ : ¬ Bad σ (hh.objs.size :: Λ) (hh.objs.size + 1) := by
      have := i1.newAddr
      rw [Heap.size_push] at this; exact this
    have ndΛ : ¬ Bad σ Λ hh.objs.size := iv.newAddr
    have hsz : ((hh.push emptyDict).push (instObj c hh.objs.size)).objs.size = hh.objs.size + 2 := by rw [Heap.size_push, Heap.size_push]
    refine codeAny_call_def (s := ⟨(hh.push emptyDict).push (instObj c hh.objs.size), g, d, t, os⟩) (binds := f.ps.zip (Value.ref (hh.objs.size + 1) :: vs)) (by show A.depth + Code.weight _ < _; rw [weight_make]; exact hdp) (bases_in i2 _ _ F.at_) F.data (W.T.nolimit.keeps i2.keep) (codeRec_of (bases_in i2) F.code) F.body (BindsTo.of_eq (bind_plain F.ps F.h1 F.h2 F.h3 F.h4 F.h5 hlv F.dis))
      (fun x hx => (F.names x hx).1) (fun x hx => F.loc _ (List.of_mem_zip (a := x.1) (b := x.2) hx).1) (fun h₀ hns hk => ?_) F.co F.gen F.kind
    dsimp only at hns hk ⊢
    rw [hsz] at hns ⊢
    obtain ⟨oL, hoL⟩ := ns_obj hns
    have Ln : ((hh.push emptyDict).push (instObj c hh.objs.size)).get? (hh.objs.size + 2) = none := by
      have : ((hh.push emptyDict).push (instObj c hh.objs.size)).get? ((hh.push emptyDict).push (instObj c hh.objs.size)).objs.size = none := get_size
      rw [hsz] at this; exact this
    have i3 : Inv W σ ((hh.objs.size + 2) :: (hh.objs.size + 1) :: hh.objs.size :: Λ) h₀ st := i2.lam Ln hk hoL (by have := i2.size; rw [hsz] at this; exact this)
    have lowN : ∀ a, W.base.objs.size ≤ a → W.base.get? a = none := fun a ha => by
      cases q : W.base.get? a with
      | none => rfl
      | some o => exact absurd (Heap.lt_size q) (Nat.not_lt.mpr ha)
    have hml : ∀ y, (f.ps.zip (Value.ref (hh.objs.size + 1) :: vs)).reverse.lookup y = (f.ps.zip (Value.ref (hh.objs.size + 1) :: vs)).lookup y := fun y => lookup_rev y F.dis hlv
    have hdis := F.dis
    rw [CI.ps] at hdis
    have hdis' := hdis
    unfold distinct at hdis'
    obtain ⟨hd1, hd2⟩ := Bool.and_eq_true_iff.mp hdis'
    have hself : self ∉ ns := fun q => by
      rw [Bool.not_eq_true', ← Bool.not_eq_true] at hd1
      exact hd1 (List.contains_iff_mem.mpr q)
    have hlv' : ns.length = vs.length := hl.trans (RepDs.length hr).symm
    refine init_body (env := callEnv fd (hh.objs.size + 2) fI) (sc := f.sc) (self := self) (x := hh.objs.size + 1) (dx := hh.objs.size) (C := c) (m := fun y => (f.ps.zip (Value.ref (hh.objs.size + 1) :: vs)).reverse.lookup y) F.sc (F.sc ▸ F.kind) (F.sc ▸ F.loc self (by rw [CI.ps]; exact .head _)) ?_ CI.is
      (i3.new _ (.inr (.head _))).1 (lowN _ (i3.new _ (.inr (.tail _ (.head _)))).1) (lowN _ (i3.new _ (.inr (.tail _ (.tail _ (.head _))))).1) (Nat.succ_ne_self _) (by show hh.objs.size + 1 ≠ hh.objs.size + 2; omega) (by show hh.objs.size ≠ hh.objs.size + 2; omega)
      f.body ns [] 0 [] _ CI.body (fun q hq => ⟨F.sc ▸ F.loc q (by rw [CI.ps]; exact .tail _ hq), ?_, CI.take q hq, rfl⟩) hd2 hns i3.keep (hk _ _ ox) (hk _ _ od) trivial (by have := CI.len; simpa using this) fun h' tk es' n' x1 x2 x3 x4 x5 x6 => ?_
    · rw [hml, CI.ps, List.zip_cons_cons, List.lookup_cons]; simp
    · rw [hml]
      exact zip_some hlv q (by rw [CI.ps]; exact .tail _ hq)
    · have x6 : Kp (fun a => a = hh.objs.size ∨ a = hh.objs.size + 2) h₀ h' := x6
      have i4 : Inv W σ ((hh.objs.size + 2) :: (hh.objs.size + 1) :: hh.objs.size :: Λ) h' st := i3.turn (x6.weak fun a q => by rcases q with q | q <;> simp [q])
      have kp : Kp (fun x => x ∈ σ ∨ NoX x) hh h' := by
        refine (Kp.all (W := fun x => x ∈ σ ∨ NoX x) fun b o e => hk _ _ (k2 _ _ (k1 _ _ e))).trans x6 fun a al q => ?_
        obtain ⟨o, e⟩ := al
        rcases q with q | q
        · rw [q, dn] at e; cases e
        · exact absurd (Heap.lt_size e) (by rw [q]; show ¬ (hh.objs.size + 2 < hh.objs.size); omega)
      refine ⟨rfl, H σ h' tk _ Fresh.refl kp i4.unlam.unlam.unlam ?_⟩
      show Rep _ _ _ _
      unfold Rep
      refine ⟨hh.objs.size + 1, hh.objs.size, es', n', rfl, fun q => nxΛ (q.elim .inl fun q => .inr (.tail _ q)), ndΛ, x1, x2, x4, ?_⟩
      have : es'.map (·.val) = vs := by
        rw [x5]
        show ns.map _ = vs
        have z := map_lookup (ps := self :: ns) (vs := Value.ref (hh.objs.size + 1) :: vs) hdis (by simp [hlv'])
        rw [List.map_cons] at z
        injection z with z1 z2
        refine Eq.trans (List.map_congr_left fun q hq => ?_) z2
        rw [hml, CI.ps]
      rw [this]
      exact hreps.step Fresh.refl (kp.weak fun a q => q.elim .inl fun q => q.elim)
  · exact H.elim
end
end Mine

end

section
open PySem PySem.W PySem.Spec PySem.Calls PyProof.Rows
set_option maxRecDepth 100000
namespace Mine

noncomputable def isBi (id : String) : Option (Option Value) → Bool
  | some (some (.builtin i)) => i == id
  | _ => false
noncomputable def someB (b : Bool) : Option Bool → Bool
  | some c => c == b
  | none => false
noncomputable def isTy : Option Value → Bool
  | some (.type T) => T == "type"
  | _ => false
theorem isBi_eq {id : String} {v : Option (Option Value)} (h : isBi id v = true) : v = some (some (.builtin id)) := by
  unfold isBi at h
  split at h
  · rw [beq_iff_eq] at h; rw [h]
  · cases h
theorem someB_eq {b : Bool} {v : Option Bool} (h : someB b v = true) : v = some b := by
  unfold someB at h
  split at h
  · rw [beq_iff_eq] at h; rw [h]
  · cases h
theorem isTy_eq {v : Option Value} (h : isTy v = true) : v = some (.type "type") := by
  unfold isTy at h
  split at h
  · rw [beq_iff_eq] at h; rw [h]
  · cases h

/-- a class whose instances show their class plainly -/
noncomputable def shows (K : Frag) (C : Addr) : Bool :=
  plainGet K C "__class__" && (hasDictIn K C && (isBi "object.__class__" (findIn K (.ref C) "__class__") && (isBi "getset_descriptor.__get__" (specialIn K (.builtin "object.__class__") "__get__") && (someB true (takesIn K (.builtin "object.__class__")) && (someB true (mroIn K C (.type "object")) &&
  ((clsIn K C).isSome && someB true (instIn K (.ref C) (.type "type"))))))))
/-- what may stand second in isinstance -/
noncomputable def ofType (K : Frag) (c : Addr) : Bool := (clsIn K c).isSome && (isTy (typeIn K (.ref c)) && someB true (instIn K (.ref c) (.type "type")))

structure Shows (K : Frag) (C : Addr) : Prop where
  h1 : plainGet K C "__class__" = true
  h2 : hasDictIn K C = true
  h3 : findIn K (.ref C) "__class__" = some (some (.builtin "object.__class__"))
  h4 : specialIn K (.builtin "object.__class__") "__get__" = some (some (.builtin "getset_descriptor.__get__"))
  h5 : takesIn K (.builtin "object.__class__") = some true
  h6 : mroIn K C (.type "object") = some true
  h7 : (clsIn K C).isSome = true
  h8 : instIn K (.ref C) (.type "type") = some true
theorem shows_is {K : Frag} {C : Addr} (h : shows K C = true) : Shows K C := by
  unfold shows at h
  obtain ⟨h1, h⟩ := Bool.and_eq_true_iff.mp h
  obtain ⟨h2, h⟩ := Bool.and_eq_true_iff.mp h
  obtain ⟨h3, h⟩ := Bool.and_eq_true_iff.mp h
  obtain ⟨h4, h⟩ := Bool.and_eq_true_iff.mp h
  obtain ⟨h5, h⟩ := Bool.and_eq_true_iff.mp h
  obtain ⟨h6, h⟩ := Bool.and_eq_true_iff.mp h
  obtain ⟨h7, h8⟩ := Bool.and_eq_true_iff.mp h
  exact ⟨h1, h2, isBi_eq h3, isBi_eq h4, someB_eq h5, someB_eq h6, h7, someB_eq h8⟩

theorem looks_isType {K : Frag} {C : Addr} {h : Heap} {M : Model} (X : K.In h) (hc : (clsIn K C).isSome = true) : Looks M h (isType (.ref C)) true := by
  unfold clsIn at hc
  split at hc
  · rename_i ho
    exact (Looks.ld (X _ _ ho)).andThen .now
  · cases hc

section
variable {prog : Program} {w : World} {A : Around} {E : Value → Shared → Prop} {s : Shared} {K : Frag} {x C : Addr} {ox : Obj} {od : Obj}

theorem inst_cls {Q : Option Value → Shared → Prop} (X : K.In s.heap) (I : InstAt s.heap x ox C (some od)) (S : Shows K C) (h : Q (some (.ref C)) { s with toks := s.toks + 1 }) : wpAny (model prog w) A (getAttr? (.ref x) "__class__") Q E s := by
  obtain ⟨hga, hk⟩ := plainGet_of S.h1
  have hf := findObj_data (od := od) S.h7 S.h3 S.h4 S.h5
  obtain ⟨hh, g, d, t, os⟩ := s
  have L0 := I.type (M := model prog w)
  have L1 := looks_findIn (M := model prog w) X hga
  unfold getAttr? getAttrBy?
  refine wpAny_bind (wpAny_mkText (wpAny_bind (wpAny_attempt ?_)))
  unfold getAttrBy
  refine wpAny_holding (wpAny_bind (L0.at (wpAny_bind (L1.at ?_))))
  show wpAny _ _ (getAttrEveryday _ _ _) _ _ _
  refine wpAny_bind (wpAny_onRaise (wpAny_runValue (codeAny_builtin F.plainObj_entry_getattr_hooked ?_)))
  have L2 := looks_find (M := model prog w) X I hf
  have L3 := looks_findIn (M := model prog w) X hk
  refine wpAny_bind (wpAny_pure (wpAny_bind (L0.at (wpAny_bind (L2.at (wpAny_bind (L3.at ?_)))))))
  show wpAny _ _ (holding [Value.builtin "object.__class__"] (call (.builtin "getset_descriptor.__get__") [Value.builtin "object.__class__", .ref x, .ref C]) >>= ret) _ _ _
  refine wpAny_bind (wpAny_holding (wpAny_call (class_get (s := ⟨hh, g, d, t + 1, os⟩) (ox := ox) (od := some od) X I S.h6 ?_)))
  exact wpAny_pure (handed_on rfl (wpAny_pure h))

theorem isn_inst {cls : Value} {Q : Value → Shared → Prop} (X : K.In s.heap) (I : InstAt s.heap x ox C (some od)) (S : Shows K C) (hne : (Value.ref C == cls) = false) (hT : ∀ M, Looks M s.heap (typeOf cls) (.type "type")) (hC : ∀ M, Looks M s.heap (isType cls) true)
    (hs : subIn K (.ref C) cls = some false) (h : Q (.bool false) { s with toks := s.toks + 1 }) : wpAny (model prog w) A (call (.builtin "isinstance") [.ref x, cls]) Q E s := by
  refine call_isinstance_of ?_ (by intro e; cases e)
  unfold Builtin.«isinstance.nested»
  obtain ⟨hh, g, d, t, os⟩ := s
  have L0 := I.type (M := model prog w)
  have L4 : Looks (model prog w) hh (isSubtype (.ref C) cls) false := looks_subIn X hs
  have L3 : Looks (model prog w) hh (isInstance (.ref x) cls) false := L0.andThen L4
  have LT := hT (model prog w)
  have LC := hC (model prog w)
  refine wpAny_bind (L0.at ?_)
  rw [if_neg (by rw [hne]; decide)]
  refine wpAny_bind (LT.at ?_)
  rw [if_pos (by decide)]
  k_delta "plainIsInstance"
  refine wpAny_bind (wpAny_bind (LC.at ?_))
  simp only [Bool.not_true, Bool.false_eq_true, if_false]
  refine wpAny_bind (L3.at ?_)
  simp only [Bool.false_eq_true, if_false]
  refine wpAny_bind (inst_cls X I S ?_)
  refine wpAny_bind ((looks_isType X S.h7).at ?_)
  simp only [Bool.not_true, Bool.false_eq_true, if_false]
  refine wpAny_bind (wpAny_rule (L4.at ?_))
  exact wpAny_pure h
end
end Mine

end

section
open PySem PySem.W PySem.Spec PySem.Calls PyProof.Rows
set_option maxRecDepth 100000
namespace Mine

noncomputable def clsGood (K : Frag) (c : Addr) : Bool := shows K c && (isNotIn K "int" c && (isIn K (.ref c) c && (someB false (subIn K (.ref c) (.type "int")) && (someB false (subIn K (.ref c) (.type "bool")) && isTy (typeIn K (.ref c))))))

structure TabOk (W : Wd) (T : Tab) : Prop where
  fn : ∀ a f, T.fn a = some f → fnIn W.K a = some f
  cls : ∀ c ns, T.cls c = some ns → clsInit W.K c = some ns ∧ clsGood W.K c = true
  rel : ∀ c c', (T.cls c).isSome = true → (T.cls c').isSome = true → c ≠ c' → subIn W.K (.ref c) (.ref c') = some false

theorem repds_nil {σ : List Addr} {B : Addr → Prop} {h : Heap} {vs : List Value} (r : RepDs σ B h vs []) : vs = [] := by
  cases vs with
  | nil => rfl
  | cons _ _ => exact r.elim
theorem repds_cons {σ : List Addr} {B : Addr → Prop} {h : Heap} {vs : List Value} {d : D} {ds : List D} (r : RepDs σ B h vs (d :: ds)) : ∃ v vs', vs = v :: vs' ∧ RepD σ B h v d ∧ RepDs σ B h vs' ds := by
  cases vs with
  | nil => exact r.elim
  | cons v vs' => exact ⟨v, vs', rfl, r.1, r.2⟩

section
variable {W : Wd} {A : Around} {Λ σ : List Addr} {E : Value → Shared → Prop} {s : Shared} {st : Sto}

theorem bin1_sound {T : Tab} {v : Value} {ds : List D} {vs : List Value} {Q : Value → Shared → Prop} (hA : A.handled = none) (hT : TabOk W T) (iv : Inv W σ Λ s.heap st) (hfr : ∃ L m, L ∈ Λ ∧ s.heap.Ns L m) (hr : RepDs σ (Bad σ Λ) s.heap vs ds)
    (H : Po W Λ NoX (relD Λ) E σ s (bin1 T v ds st) Q) : wpAny (model W.prog W.w) A (call v vs) Q E s := by
  have X := bases_in iv
  have one : ∀ {d : D}, ds = [d] → ∃ v, vs = [v] ∧ RepD σ (Bad σ Λ) s.heap v d := fun e => by
    subst e
    obtain ⟨v, vs', rfl, r1, r2⟩ := repds_cons hr
    exact ⟨v, by rw [repds_nil r2], r1⟩
  have two : ∀ {d e : D}, ds = [d, e] → ∃ v u, vs = [v, u] ∧ RepD σ (Bad σ Λ) s.heap v d ∧ RepD σ (Bad σ Λ) s.heap u e := fun e => by
    subst e
    obtain ⟨v, vs', rfl, r1, r2⟩ := repds_cons hr
    obtain ⟨u, vs'', rfl, r3, r4⟩ := repds_cons r2
    exact ⟨v, u, by rw [repds_nil r4], r1, r3⟩
  unfold bin1 at H
  split at H
  · rename_i i
    obtain ⟨v, rfl, t, rfl⟩ := one rfl
    exact call_abs_int fun u tk => Po.now H iv ⟨u, rfl⟩
  · rename_i a b
    obtain ⟨v, u, rfl, ⟨t, rfl⟩, t', rfl⟩ := two rfl
    refine min_two_ints hA fun h' tk hk => H σ h' tk _ Fresh.refl (Kp.all hk) (iv.grow hk) ?_
    show Rep _ _ _ _
    split <;> exact ⟨_, rfl⟩
  · rename_i x
    obtain ⟨v, u, rfl, r1, hu⟩ := two rfl
    have hu : u = .type "int" := hu
    subst hu
    split at H
    · obtain ⟨t, rfl⟩ := r1
      exact IsiPair.int_int (Po.now (tk := s.toks) H iv rfl)
    · have r1 : v = .bool _ := r1
      subst r1
      exact IsiPair.bool_int (Po.now (tk := s.toks) H iv rfl)
    · rename_i c ns l
      split at H
      · rename_i hc
        have r1 : Rep (Bad σ Λ) s.heap v (.inst c ns l) := r1
        unfold Rep at r1
        obtain ⟨x, dx, es, n, rfl, nx, nd, ox, od, ky, rr⟩ := r1
        have I : InstAt s.heap x (instObj c dx) c (some (dictOf es n)) := ⟨ox, rfl, rfl, od⟩
        obtain ⟨ns', hns⟩ := Option.isSome_iff_exists.mp hc
        obtain ⟨_, g⟩ := hT.cls c ns' hns
        unfold clsGood at g
        simp only [Bool.and_eq_true] at g
        exact isn_inst X I (shows_is g.1) rfl (fun M => Looks.of_pure (by kernel_rfl)) (fun M => Looks.of_pure rfl) (someB_eq g.2.2.2.1) (Po.now H iv rfl)
      · exact H.elim
    · exact H.elim
  · rename_i x
    obtain ⟨v, u, rfl, r1, hu⟩ := two rfl
    have hu : u = .type "bool" := hu
    subst hu
    split at H
    · obtain ⟨t, rfl⟩ := r1
      exact IsiPair.int_bool (Po.now H iv rfl)
    · have r1 : v = .bool _ := r1
      subst r1
      exact IsiPair.bool_bool (Po.now (tk := s.toks) H iv rfl)
    · rename_i c ns l
      split at H
      · rename_i hc
        have r1 : Rep (Bad σ Λ) s.heap v (.inst c ns l) := r1
        unfold Rep at r1
        obtain ⟨x, dx, es, n, rfl, nx, nd, ox, od, ky, rr⟩ := r1
        have I : InstAt s.heap x (instObj c dx) c (some (dictOf es n)) := ⟨ox, rfl, rfl, od⟩
        obtain ⟨ns', hns⟩ := Option.isSome_iff_exists.mp hc
        obtain ⟨_, g⟩ := hT.cls c ns' hns
        unfold clsGood at g
        simp only [Bool.and_eq_true] at g
        exact isn_inst X I (shows_is g.1) rfl (fun M => Looks.of_pure (by kernel_rfl)) (fun M => Looks.of_pure rfl) (someB_eq g.2.2.2.2.1) (Po.now H iv rfl)
      · exact H.elim
    · exact H.elim
  · rename_i x c
    obtain ⟨v, u, rfl, r1, hu⟩ := two rfl
    have hu : u = .ref c := hu
    subst hu
    split at H
    · obtain ⟨t, rfl⟩ := r1
      split at H
      · rename_i hc
        obtain ⟨ns, hns⟩ := Option.isSome_iff_exists.mp hc
        obtain ⟨_, g⟩ := hT.cls c ns hns
        unfold clsGood at g
        simp only [Bool.and_eq_true] at g
        exact isn_call (P := fun _ => True) X (fun M => Looks.of_pure rfl) g.2.1 (by intro e; cases e) trivial int_cls (Po.now H iv rfl)
      · exact H.elim
    · rename_i c' ns l
      split at H
      · rename_i hc
        obtain ⟨h1, h2⟩ := Bool.and_eq_true_iff.mp hc
        have r1 : Rep (Bad σ Λ) s.heap v (.inst c' ns l) := r1
        unfold Rep at r1
        obtain ⟨x, dx, es, n, rfl, nx, nd, ox, od, ky, rr⟩ := r1
        have I : InstAt s.heap x (instObj c' dx) c' (some (dictOf es n)) := ⟨ox, rfl, rfl, od⟩
        by_cases hcc : c = c'
        · subst hcc
          obtain ⟨ns', hns⟩ := Option.isSome_iff_exists.mp h1
          obtain ⟨_, g⟩ := hT.cls c ns' hns
          unfold clsGood at g
          simp only [Bool.and_eq_true] at g
          exact isi_call X (fun M => I.type) g.2.2.1 (by intro e; cases e) (Po.now (tk := s.toks) H iv (by show Value.bool true = _; simp))
        · obtain ⟨ns', hns⟩ := Option.isSome_iff_exists.mp h1
          obtain ⟨ns'', hns'⟩ := Option.isSome_iff_exists.mp h2
          obtain ⟨_, g⟩ := hT.cls c ns' hns
          obtain ⟨_, g'⟩ := hT.cls c' ns'' hns'
          unfold clsGood at g g'
          simp only [Bool.and_eq_true] at g g'
          have S := shows_is g.1
          refine isn_inst X I (shows_is g'.1) (by simpa using fun e => hcc e.symm) (fun M => looks_typeIn X (isTy_eq g.2.2.2.2.2)) (fun M => looks_isType X S.h7) (hT.rel c' c h2 h1 fun e => hcc e.symm) (Po.now H iv ?_)
          show Value.bool false = _
          rw [beq_eq_false_iff_ne.mpr hcc]
      · exact H.elim
    · exact H.elim
  · rename_i b
    obtain ⟨v, rfl, t, rfl⟩ := one rfl
    split at H
    · rename_i hb
      obtain ⟨L, m, hL, hn⟩ := hfr
      refine range1_rows (h₀ := W.base) (L := L) (m := m) (news := []) ⟨hn, iv.keep, (iv.new _ (.inr hL)).1⟩ (fun p hp => nomatch hp) fun h' tk t1 u1 v1 hR _ _ hk => H σ h' tk _ Fresh.refl (Kp.all hk) (iv.grow hk) ?_
      show Rep _ _ _ _
      exact ⟨_, t1, u1, v1, rfl, iv.newAddr, hR⟩
    · exact H.elim
  · rename_i a b
    obtain ⟨v, u, rfl, ⟨t, rfl⟩, t', rfl⟩ := two rfl
    split at H
    · rename_i hb
      obtain ⟨L, m, hL, hn⟩ := hfr
      refine range2_rows (h₀ := W.base) (L := L) (m := m) (news := []) ⟨hn, iv.keep, (iv.new _ (.inr hL)).1⟩ (fun p hp => nomatch hp) fun h' tk t1 u1 v1 hR _ _ hk => H σ h' tk _ Fresh.refl (Kp.all hk) (iv.grow hk) ?_
      show Rep _ _ _ _
      exact ⟨_, t1, u1, v1, rfl, iv.newAddr, hR⟩
    · exact H.elim
  · exact H.elim
end
end Mine

end

section
open PySem PySem.W PySem.Spec PySem.Calls PyProof.Rows
set_option maxRecDepth 100000
namespace Mine

theorem R_sound {W : Wd} {C : Cx} {T : Tab} (hC : CxOk W C) (hT : TabOk W T) : ∀ (n : Nat) (A : Around), A.handled = none → A.depth + 2 * n + 2 < recursionLimit → A.units + 8 * n + 64 < cLine → CS W A (R C T n)
  | 0, _, _, _, _ => fun _ _ _ _ _ _ _ _ _ _ _ _ H => H.elim
  | n + 1, A, h1, h2, h3 => fun Λ d ds v vs E σ s st Q iv pre H => by
    obtain ⟨hfr, rd, rds⟩ := pre
    have ih := fun env => R_sound hC hT n (A.deeper env) h1 (by show A.depth + 1 + 2 * n + 2 < _; omega) (by show A.units + 3 + 8 * n + 64 < _; omega)
    change Po W Λ NoX (relD Λ) E σ s (callS C T (R C T n) d ds st) Q at H
    unfold callS at H
    split at H
    · rename_i a
      have rd : v = .ref a := rd
      subst rd
      split at H
      · rename_i f hf
        exact runBody_sound (by omega) (hT.fn a f hf) (fun env => (X_sound (A := A.deeper env) ⟨h1, by show A.units + 3 + 64 < cLine; omega⟩ hC (ih env) 64).2.2) iv rds H
      · split at H
        · rename_i ns hns
          split at H
          · rename_i hl
            exact mk_sound (by omega) (hT.cls a ns hns).1 hl iv rds H
          · exact H.elim
        · exact H.elim
    · rename_i w hw
      have rd : v = w := rd
      subst rd
      exact bin1_sound h1 hT iv hfr rds H
    · exact H.elim
end Mine

end

section
open PySem PySem.W
set_option maxRecDepth 100000
namespace Mine

noncomputable def Ok {α : Type} (r : Out α) (Q : α → Sto → Prop) (E : V → Sto → Prop) : Prop :=
  match r with
  | .ok a st => Q a st
  | .exc x st => E x st
  | .stuck => False

section
variable {α β : Type} {E : V → Sto → Prop} {st : Sto}
theorem Ok.bind {r : Out α} {f : α → Sto → Out β} {Q : β → Sto → Prop} (h : Ok r (fun a st => Ok (f a st) Q E) E) : Ok (r.bind f) Q E := by
  cases r with
  | ok a st => exact h
  | exc x st => exact h
  | stuck => exact h
theorem Ok.mono {r : Out α} {Q Q' : α → Sto → Prop} (h : Ok r Q E) (k : ∀ a st, Q a st → Q' a st) : Ok r Q' E := by
  cases r with
  | ok a st => exact k _ _ h
  | exc x st => exact h
  | stuck => exact h
theorem Ok.ofO {o : Option α} {Q : α → Sto → Prop} (h : ∃ a, o = some a ∧ Q a st) : Ok (ofO st o) Q E := by
  obtain ⟨a, rfl, q⟩ := h
  exact q
end

section
variable {C : Cx} {Φ : D → List D → Sto → Out D} {n : Nat} {sc : Scope} {ρ : En} {st : Sto} {E : V → Sto → Prop}

noncomputable def nameV (C : Cx) (sc : Scope) (ρ : En) (x : Str) : Option D :=
  if badName x then none else if isLoc sc x then ρ.lookup x else if sc.names.lookup x == some .globalImplicit then (C.G x).map fun v => D.v (.val v) else none

theorem ex_int {i : Int} {k p} {Q : D → Sto → Prop} (q : Q (.v (.int i)) st) : Ok ((X C Φ (n + 1)).ex sc ρ (.Constant (.int i) k p) st) Q E := q
theorem ex_bool {i : Bool} {k p} {Q : D → Sto → Prop} (q : Q (.v (.bool i)) st) : Ok ((X C Φ (n + 1)).ex sc ρ (.Constant (.bool i) k p) st) Q E := q
theorem ex_str {i : Str} {k p} {Q : D → Sto → Prop} (q : Q (.v (.str i)) st) : Ok ((X C Φ (n + 1)).ex sc ρ (.Constant (.str i) k p) st) Q E := q
theorem ex_none {k p} {Q : D → Sto → Prop} (q : Q (.v .none) st) : Ok ((X C Φ (n + 1)).ex sc ρ (.Constant .none k p) st) Q E := q
theorem ex_name {x : Str} {p} {d : D} {Q : D → Sto → Prop} (h : nameV C sc ρ x = some d) (q : Q d st) : Ok ((X C Φ (n + 1)).ex sc ρ (.Name x p) st) Q E := by
  have : (X C Φ (n + 1)).ex sc ρ (.Name x p) st = ofO st (nameV C sc ρ x) := by
    show (if badName x then Out.stuck else if isLoc sc x then ofO st (ρ.lookup x) else if sc.names.lookup x == some .globalImplicit then ofO st ((C.G x).map fun v => D.v (.val v)) else .stuck) = _
    unfold nameV
    split
    · rfl
    · split
      · rfl
      · split <;> rfl
  rw [this, h]
  exact q
theorem ex_bin {l r : PySem.Expr} {op : Operator} {p} {Q : D → Sto → Prop} (h : Ok ((X C Φ n).ex sc ρ l st) (fun a st₁ => Ok ((X C Φ n).ex sc ρ r st₁) (fun b st₂ => ∃ v, binop op a b = some v ∧ Q (.v v) st₂) E) E) :
    Ok ((X C Φ (n + 1)).ex sc ρ (.BinOp l op r p) st) Q E :=
  Ok.bind (h.mono fun a st₁ h => Ok.bind (h.mono fun b st₂ h => Ok.ofO (by obtain ⟨v, e, q⟩ := h; exact ⟨_, by rw [e]; rfl, q⟩)))
theorem ex_not {x : PySem.Expr} {p} {Q : D → Sto → Prop} (h : Ok ((X C Φ n).ex sc ρ x st) (fun a st₁ => ∃ b, truth a = some b ∧ Q (.v (.bool (!b))) st₁) E) : Ok ((X C Φ (n + 1)).ex sc ρ (.UnaryOp .Not x p) st) Q E :=
  Ok.bind (h.mono fun a st₁ h => Ok.ofO (by obtain ⟨v, e, q⟩ := h; exact ⟨_, by rw [e]; rfl, q⟩))
theorem ok_if {α : Type} {r : Out Bool} {a b : Sto → Out α} {Q : α → Sto → Prop} (h : Ok r (fun t st => (t = true → Ok (a st) Q E) ∧ (t = false → Ok (b st) Q E)) E) : Ok (r.bind fun t st => if t then a st else b st) Q E :=
  Ok.bind (h.mono fun t st h => by
    cases t with
    | true => exact h.1 rfl
    | false => exact h.2 rfl)
theorem ex_if {c a b : PySem.Expr} {p} {Q : D → Sto → Prop} (h : Ok ((X C Φ n).tt sc ρ c st) (fun t st₁ => (t = true → Ok ((X C Φ n).ex sc ρ a st₁) Q E) ∧ (t = false → Ok ((X C Φ n).ex sc ρ b st₁) Q E)) E) : Ok ((X C Φ (n + 1)).ex sc ρ (.IfExp c a b p) st) Q E :=
  ok_if h
theorem ok_boolV_one {f : PySem.Expr → Sto → Out D} {op : BoolOp} {e : PySem.Expr} {Q : D → Sto → Prop} (h : Ok (f e st) Q E) : Ok (boolV f op [e] st) Q E := h
theorem ok_boolV_and {f : PySem.Expr → Sto → Out D} {e e' : PySem.Expr} {es : List PySem.Expr} {Q : D → Sto → Prop} (h : Ok (f e st) (fun d st₁ => ∃ t, truth d = some t ∧ (t = false → Q d st₁) ∧ (t = true → Ok (boolV f .And (e' :: es) st₁) Q E)) E) : Ok (boolV f .And (e :: e' :: es) st) Q E := by
  unfold boolV
  refine Ok.bind (h.mono fun d st₁ h => ?_)
  obtain ⟨t, e, q⟩ := h
  rw [e]
  cases t with
  | true => exact q.2 rfl
  | false => exact q.1 rfl
theorem ok_boolV_or {f : PySem.Expr → Sto → Out D} {e e' : PySem.Expr} {es : List PySem.Expr} {Q : D → Sto → Prop} (h : Ok (f e st) (fun d st₁ => ∃ t, truth d = some t ∧ (t = true → Q d st₁) ∧ (t = false → Ok (boolV f .Or (e' :: es) st₁) Q E)) E) : Ok (boolV f .Or (e :: e' :: es) st) Q E := by
  unfold boolV
  refine Ok.bind (h.mono fun d st₁ h => ?_)
  obtain ⟨t, e, q⟩ := h
  rw [e]
  cases t with
  | true => exact q.1 rfl
  | false => exact q.2 rfl
theorem ex_boolop {op : BoolOp} {vs : List PySem.Expr} {p} {Q : D → Sto → Prop} (h : Ok (boolV ((X C Φ n).ex sc ρ) op vs st) Q E) : Ok ((X C Φ (n + 1)).ex sc ρ (.BoolOp op vs p) st) Q E := h
theorem ok_chain_one {f : PySem.Expr → Sto → Out D} {a : D} {op : CmpOp} {r : PySem.Expr} {Q : Bool → Sto → Prop} (h : Ok (f r st) (fun b st₁ => ∃ c, cmp op a b st₁ = some c ∧ Q c st₁) E) : Ok (chain f a [op] [r] st) Q E := by
  unfold chain
  exact Ok.bind (h.mono fun b st₁ h => Ok.ofO h)
theorem ok_chain_more {f : PySem.Expr → Sto → Out D} {a : D} {op op' : CmpOp} {ops : List CmpOp} {r r' : PySem.Expr} {rs : List PySem.Expr} {Q : Bool → Sto → Prop}
    (h : Ok (f r st) (fun b st₁ => ∃ c, cmp op a b st₁ = some c ∧ (c = false → Q false st₁) ∧ (c = true → Ok (chain f b (op' :: ops) (r' :: rs) st₁) Q E)) E) : Ok (chain f a (op :: op' :: ops) (r :: r' :: rs) st) Q E := by
  unfold chain
  refine Ok.bind (h.mono fun b st₁ h => ?_)
  obtain ⟨c, e, q⟩ := h
  rw [e]
  cases c with
  | true => exact q.2 rfl
  | false => exact q.1 rfl
theorem ex_cmp {l : PySem.Expr} {ops : List CmpOp} {cs : List PySem.Expr} {p} {Q : D → Sto → Prop} (h0 : (noDisp cs && ops.length == cs.length) = true) (h : Ok ((X C Φ n).ex sc ρ l st) (fun a st₁ => Ok (chain ((X C Φ n).ex sc ρ) a ops cs st₁) (fun b st₂ => Q (.v (.bool b)) st₂) E) E) :
    Ok ((X C Φ (n + 1)).ex sc ρ (.Compare l ops cs p) st) Q E := by
  show Ok (if noDisp cs && ops.length == cs.length then _ else _) Q E
  rw [if_pos h0]
  exact Ok.bind (h.mono fun a st₁ h => Ok.bind (h.mono fun b st₂ q => q))
theorem ok_evs_nil {f : PySem.Expr → Sto → Out D} {Q : List D → Sto → Prop} (q : Q [] st) : Ok (evs f [] st) Q E := q
theorem ok_evs_cons {f : PySem.Expr → Sto → Out D} {e : PySem.Expr} {es : List PySem.Expr} {Q : List D → Sto → Prop} (h : Ok (f e st) (fun d st₁ => Ok (evs f es st₁) (fun ds st₂ => Q (d :: ds) st₂) E) E) : Ok (evs f (e :: es) st) Q E := by
  unfold evs
  exact Ok.bind (h.mono fun d st₁ h => Ok.bind (h.mono fun ds st₂ q => q))
theorem ex_tuple {es : List PySem.Expr} {k p} {Q : D → Sto → Prop} (h0 : (noStar es && szOk es.length) = true) (h : Ok (evs ((X C Φ n).ex sc ρ) es st) (fun ds st₁ => ∃ l, vals ds = some l ∧ Q (.v (.tup l)) st₁) E) : Ok ((X C Φ (n + 1)).ex sc ρ (.Tuple es k p) st) Q E := by
  show Ok (if noStar es && szOk es.length then _ else _) Q E
  rw [if_pos h0]
  exact Ok.bind (h.mono fun ds st₁ h => Ok.ofO (by obtain ⟨v, e, q⟩ := h; exact ⟨_, by rw [e]; rfl, q⟩))
theorem ex_listF {es : List PySem.Expr} {p} {Q : D → Sto → Prop} (h0 : (noStar es && szOk es.length) = true) (hm : C.mt p = false) (h : Ok (evs ((X C Φ n).ex sc ρ) es st) (fun ds st₁ => ∃ l, vals ds = some l ∧ Q (.v (.lst l)) st₁) E) : Ok ((X C Φ (n + 1)).ex sc ρ (.List es p) st) Q E := by
  show Ok (if noStar es && szOk es.length then _ else _) Q E
  rw [if_pos h0]
  refine Ok.bind (h.mono fun ds st₁ h => ?_)
  obtain ⟨v, e, q⟩ := h
  rw [e]
  dsimp only
  rw [if_neg (by rw [hm]; decide)]
  exact q
theorem ex_listM {es : List PySem.Expr} {p} {Q : D → Sto → Prop} (h0 : (noStar es && szOk es.length) = true) (hm : C.mt p = true) (h : Ok (evs ((X C Φ n).ex sc ρ) es st) (fun ds st₁ => ∃ l, vals ds = some l ∧ Q (.m st₁.length) (st₁ ++ [l])) E) : Ok ((X C Φ (n + 1)).ex sc ρ (.List es p) st) Q E := by
  show Ok (if noStar es && szOk es.length then _ else _) Q E
  rw [if_pos h0]
  refine Ok.bind (h.mono fun ds st₁ h => ?_)
  obtain ⟨v, e, q⟩ := h
  rw [e]
  dsimp only
  rw [if_pos hm]
  exact q
noncomputable def isSl : PySem.Expr → Bool
  | .Slice _ _ _ _ => true
  | _ => false
theorem ex_sub {o i : PySem.Expr} {p} {Q : D → Sto → Prop} (h0 : (isStar i || isSl i) = false) (h : Ok ((X C Φ n).ex sc ρ o st) (fun d st₁ => Ok ((X C Φ n).ex sc ρ i st₁) (fun k st₂ => ∃ v, sub1 d k st₂ = some v ∧ Q (.v v) st₂) E) E) :
    Ok ((X C Φ (n + 1)).ex sc ρ (.Subscript o i p) st) Q E := by
  have h1 : isStar i = false := by cases h : isStar i <;> simp [h] at h0 ⊢
  have : (X C Φ (n + 1)).ex sc ρ (.Subscript o i p) st = (if isStar i then .stuck else ((X C Φ n).ex sc ρ o st).bind fun d st => ((X C Φ n).ex sc ρ i st).bind fun k st => ofO st ((sub1 d k st).map D.v)) := by
    cases i <;> first | rfl | (simp [isSl] at h0)
  rw [this, if_neg (by rw [h1]; decide)]
  exact Ok.bind (h.mono fun a st₁ h => Ok.bind (h.mono fun b st₂ h => Ok.ofO (by obtain ⟨v, e, q⟩ := h; exact ⟨_, by rw [e]; rfl, q⟩)))
theorem ex_slice {o : PySem.Expr} {lo hi : Option PySem.Expr} {p1 p} {a b : Option Nat} {Q : D → Sto → Prop} (h1 : partI lo = some a) (h2 : partI hi = some b) (h : Ok ((X C Φ n).ex sc ρ o st) (fun d st₁ => ∃ l m, d = .v (.lst l) ∧ szOk l.length = true ∧ cutL l a b = some m ∧ Q (.v (.lst m)) st₁) E) :
    Ok ((X C Φ (n + 1)).ex sc ρ (.Subscript o (.Slice lo hi none p1) p) st) Q E := by
  refine Ok.bind (h.mono fun d st₁ h => ?_)
  obtain ⟨l, m, rfl, hz, hm, q⟩ := h
  rw [h1, h2]
  show Ok (if szOk l.length then _ else _) Q E
  rw [if_pos hz, hm]
  exact q
theorem ex_attr {o : PySem.Expr} {a : Str} {p} {Q : D → Sto → Prop} (h0 : isBare o = false) (h : Ok ((X C Φ n).ex sc ρ o st) (fun d st₁ => ∃ c ns vs x, d = .v (.inst c ns vs) ∧ C.attr c a = true ∧ (ns.zip vs).lookup a = some x ∧ isVal x = false ∧ Q (.v x) st₁) E) :
    Ok ((X C Φ (n + 1)).ex sc ρ (.Attribute o a p) st) Q E := by
  show Ok (if isBare o then _ else _) Q E
  rw [if_neg (by rw [h0]; decide)]
  refine Ok.bind (h.mono fun d st₁ h => ?_)
  obtain ⟨c, ns, vs, x, rfl, h1, h2, h3, q⟩ := h
  dsimp only
  rw [if_pos h1, h2]
  dsimp only
  rw [if_neg (by rw [h3]; decide)]
  exact q
theorem ex_call {f : PySem.Expr} {args : List PySem.Expr} {p} {Q : D → Sto → Prop} (h0 : (isAttr f || !noStar args) = false) (h : Ok ((X C Φ n).ex sc ρ f st) (fun d st₁ => ∃ v, d = .v (.val v) ∧ C.able v = true ∧ Ok (evs ((X C Φ n).ex sc ρ) args st₁) (fun ds st₂ => Ok (Φ (.v (.val v)) ds st₂) Q E) E) E) :
    Ok ((X C Φ (n + 1)).ex sc ρ (.Call f args [] p) st) Q E := by
  have : (X C Φ (n + 1)).ex sc ρ (.Call f args [] p) st = (if isAttr f || !noStar args then .stuck else ((X C Φ n).ex sc ρ f st).bind fun d st => match d with
        | .v (.val v) => if C.able v then (evs ((X C Φ n).ex sc ρ) args st).bind fun ds st => Φ d ds st else .stuck
        | _ => .stuck) := by
    cases f <;> first | rfl | (simp [isAttr] at h0)
  rw [this, if_neg (by rw [h0]; decide)]
  refine Ok.bind (h.mono fun d st₁ h => ?_)
  obtain ⟨v, rfl, h1, h2⟩ := h
  dsimp only
  rw [if_pos h1]
  exact Ok.bind h2
theorem ex_meth {o : PySem.Expr} {name : Str} {ap : Pos} {args : List PySem.Expr} {p} {Q : D → Sto → Prop} (h0 : (!isBare o && noStar args && decide (args.length < 20) && ap.endLine == p.line) = true)
    (h : Ok ((X C Φ n).ex sc ρ o st) (fun d st₁ => ∃ c ns vs f, d = .v (.inst c ns vs) ∧ C.meth c name = some f ∧ ns.contains name = false ∧ Ok (evs ((X C Φ n).ex sc ρ) args st₁) (fun ds st₂ => Ok (Φ (.v (.val (.ref f))) (.v (.inst c ns vs) :: ds) st₂) Q E) E) E) :
    Ok ((X C Φ (n + 1)).ex sc ρ (.Call (.Attribute o name ap) args [] p) st) Q E := by
  show Ok (if !isBare o && noStar args && decide (args.length < 20) && ap.endLine == p.line then _ else _) Q E
  rw [if_pos h0]
  refine Ok.bind (h.mono fun d st₁ h => ?_)
  obtain ⟨c, ns, vs, f, rfl, h1, h2, h3⟩ := h
  dsimp only
  rw [h1]
  dsimp only
  rw [if_neg (by rw [h2]; decide)]
  exact Ok.bind h3
theorem ex_methL {o : PySem.Expr} {name : Str} {ap : Pos} {args : List PySem.Expr} {p} {Q : D → Sto → Prop} (h0 : (!isBare o && noStar args && decide (args.length < 20) && ap.endLine == p.line) = true)
    (h : Ok ((X C Φ n).ex sc ρ o st) (fun d st₁ => ∃ i, d = .m i ∧ Ok (evs ((X C Φ n).ex sc ρ) args st₁) (fun ds st₂ => Ok (listM name i ds st₂) Q E) E) E) :
    Ok ((X C Φ (n + 1)).ex sc ρ (.Call (.Attribute o name ap) args [] p) st) Q E := by
  show Ok (if !isBare o && noStar args && decide (args.length < 20) && ap.endLine == p.line then _ else _) Q E
  rw [if_pos h0]
  refine Ok.bind (h.mono fun d st₁ h => ?_)
  obtain ⟨i, rfl, h1⟩ := h
  exact Ok.bind h1
theorem ex_comp {elt : PySem.Expr} {gens : List Comprehension} {scope : Scope} {p} {target iter : PySem.Expr} {ifs : List PySem.Expr} {Q : D → Sto → Prop} (h0 : oneGen gens = some (target, iter, ifs)) (h1 : ((compOk scope sc && !isDisp iter) && isNm target) = true)
    (h : Ok ((X C Φ n).ex sc ρ iter st) (fun d st₁ => ∃ l, itemsOf d = some l ∧ Ok (compL (putT (relab scope sc) target) (tests ((X C Φ n).tt (relab scope sc)) ifs) (fun ρ st => (X C Φ n).ex (relab scope sc) ρ elt st) l (freeOf (relab scope sc) ρ) [] st₁)
      (fun acc st₂ => (C.mt p = true → Q (.m st₂.length) (st₂ ++ [acc])) ∧ (C.mt p = false → Q (.v (.lst acc)) st₂)) E) E) :
    Ok ((X C Φ (n + 1)).ex sc ρ (.ListComp elt gens scope p) st) Q E := by
  show Ok (match oneGen gens with | some (target, iter, ifs) => _ | none => _) Q E
  rw [h0]
  dsimp only
  rw [if_pos h1]
  refine Ok.bind (h.mono fun d st₁ h => ?_)
  obtain ⟨l, h2, h3⟩ := h
  rw [h2]
  refine Ok.bind (h3.mono fun acc st₂ h => ?_)
  cases hm : C.mt p with
  | true => exact h.1 hm
  | false => exact h.2 hm
theorem ok_compL_nil {put : V → En → Option En} {test : En → Sto → Out Bool} {elt : En → Sto → Out D} {acc : List V} {Q : List V → Sto → Prop} (q : Q acc st) : Ok (compL put test elt [] ρ acc st) Q E := q
theorem ok_compL_cons {put : V → En → Option En} {test : En → Sto → Out Bool} {elt : En → Sto → Out D} {x : V} {r acc : List V} {ρ₁ : En} {Q : List V → Sto → Prop} (hp : put x ρ = some ρ₁)
    (h : Ok (test ρ₁ st) (fun b st₁ => (b = true → Ok (elt ρ₁ st₁) (fun d st₂ => ∃ y, d = .v y ∧ szOk acc.length = true ∧ Ok (compL put test elt r ρ₁ (acc ++ [y]) st₂) Q E) E) ∧ (b = false → Ok (compL put test elt r ρ₁ acc st₁) Q E)) E) : Ok (compL put test elt (x :: r) ρ acc st) Q E := by
  unfold compL
  rw [hp]
  refine Ok.bind (h.mono fun b st₁ h => ?_)
  cases b with
  | true =>
    refine Ok.bind ((h.1 rfl).mono fun d st₂ h => ?_)
    obtain ⟨y, rfl, h1, h2⟩ := h
    dsimp only
    rw [if_pos h1]
    exact h2
  | false => exact h.2 rfl

theorem tt_not {x : PySem.Expr} {p} {Q : Bool → Sto → Prop} (h : Ok ((X C Φ n).tt sc ρ x st) (fun b st₁ => Q (!b) st₁) E) : Ok ((X C Φ (n + 1)).tt sc ρ (.UnaryOp .Not x p) st) Q E := Ok.bind h
theorem tt_boolop {op : BoolOp} {vs : List PySem.Expr} {p} {Q : Bool → Sto → Prop} (h : Ok (allT ((X C Φ n).tt sc ρ) op vs st) Q E) : Ok ((X C Φ (n + 1)).tt sc ρ (.BoolOp op vs p) st) Q E := h
theorem ok_allT_and {f : PySem.Expr → Sto → Out Bool} {e : PySem.Expr} {es : List PySem.Expr} {Q : Bool → Sto → Prop} (h : Ok (f e st) (fun b st₁ => (b = true → Ok (allT f .And es st₁) Q E) ∧ (b = false → Q false st₁)) E) : Ok (allT f .And (e :: es) st) Q E := by
  unfold allT
  exact Ok.bind (h.mono fun b st₁ h => by cases b with
    | true => exact h.1 rfl
    | false => exact h.2 rfl)
theorem ok_allT_or {f : PySem.Expr → Sto → Out Bool} {e : PySem.Expr} {es : List PySem.Expr} {Q : Bool → Sto → Prop} (h : Ok (f e st) (fun b st₁ => (b = true → Q true st₁) ∧ (b = false → Ok (allT f .Or es st₁) Q E)) E) : Ok (allT f .Or (e :: es) st) Q E := by
  unfold allT
  exact Ok.bind (h.mono fun b st₁ h => by cases b with
    | true => exact h.1 rfl
    | false => exact h.2 rfl)
theorem ok_allT_andN {f : PySem.Expr → Sto → Out Bool} {Q : Bool → Sto → Prop} (q : Q true st) : Ok (allT f .And [] st) Q E := q
theorem ok_allT_orN {f : PySem.Expr → Sto → Out Bool} {Q : Bool → Sto → Prop} (q : Q false st) : Ok (allT f .Or [] st) Q E := q
theorem tt_if {c a b : PySem.Expr} {p} {Q : Bool → Sto → Prop} (h : Ok ((X C Φ n).tt sc ρ c st) (fun t st₁ => (t = true → Ok ((X C Φ n).tt sc ρ a st₁) Q E) ∧ (t = false → Ok ((X C Φ n).tt sc ρ b st₁) Q E)) E) : Ok ((X C Φ (n + 1)).tt sc ρ (.IfExp c a b p) st) Q E :=
  ok_if h
theorem tt_cmp {l : PySem.Expr} {ops : List CmpOp} {cs : List PySem.Expr} {p} {Q : Bool → Sto → Prop} (h0 : (noDisp cs && ops.length == cs.length) = true) (h : Ok ((X C Φ n).ex sc ρ l st) (fun a st₁ => Ok (chain ((X C Φ n).ex sc ρ) a ops cs st₁) Q E) E) :
    Ok ((X C Φ (n + 1)).tt sc ρ (.Compare l ops cs p) st) Q E := by
  show Ok (if noDisp cs && ops.length == cs.length then _ else _) Q E
  rw [if_pos h0]
  exact Ok.bind h
theorem tt_call {f : PySem.Expr} {args : List PySem.Expr} {kw} {p} {Q : Bool → Sto → Prop} (h : Ok ((X C Φ n).ex sc ρ (.Call f args kw p) st) (fun d st₁ => ∃ b, truth d = some b ∧ Q b st₁) E) : Ok ((X C Φ (n + 1)).tt sc ρ (.Call f args kw p) st) Q E := Ok.bind (h.mono fun _ _ h => Ok.ofO h)
theorem tt_name {x : Str} {p} {Q : Bool → Sto → Prop} (h : Ok ((X C Φ n).ex sc ρ (.Name x p) st) (fun d st₁ => ∃ b, truth d = some b ∧ Q b st₁) E) : Ok ((X C Φ (n + 1)).tt sc ρ (.Name x p) st) Q E := Ok.bind (h.mono fun _ _ h => Ok.ofO h)
theorem tt_const {c} {k p} {Q : Bool → Sto → Prop} (h : Ok ((X C Φ n).ex sc ρ (.Constant c k p) st) (fun d st₁ => ∃ b, truth d = some b ∧ Q b st₁) E) : Ok ((X C Φ (n + 1)).tt sc ρ (.Constant c k p) st) Q E := Ok.bind (h.mono fun _ _ h => Ok.ofO h)
theorem tt_attr {o a p} {Q : Bool → Sto → Prop} (h : Ok ((X C Φ n).ex sc ρ (.Attribute o a p) st) (fun d st₁ => ∃ b, truth d = some b ∧ Q b st₁) E) : Ok ((X C Φ (n + 1)).tt sc ρ (.Attribute o a p) st) Q E := Ok.bind (h.mono fun _ _ h => Ok.ofO h)

/-- what comes behind a statement -/
noncomputable def after (f : En → Stmt → Sto → Out (Fl × En)) (r : List Stmt) (Q : Fl × En → Sto → Prop) (E : V → Sto → Prop) (p : Fl × En) (st : Sto) : Prop :=
  match p.1 with
  | .next => Ok (exs f r p.2 st) Q E
  | fl => Q (fl, p.2) st
theorem ok_exs_cons {f : En → Stmt → Sto → Out (Fl × En)} {s : Stmt} {r : List Stmt} {Q : Fl × En → Sto → Prop} (h : Ok (f ρ s st) (after f r Q E) E) : Ok (exs f (s :: r) ρ st) Q E := by
  unfold exs
  refine Ok.bind (h.mono fun p st₁ h => ?_)
  obtain ⟨fl, ρ₁⟩ := p
  cases fl <;> exact h
theorem ok_exs_nil {f : En → Stmt → Sto → Out (Fl × En)} {Q : Fl × En → Sto → Prop} (q : Q (.next, ρ) st) : Ok (exs f [] ρ st) Q E := q
theorem after_next {f : En → Stmt → Sto → Out (Fl × En)} {r : List Stmt} {Q : Fl × En → Sto → Prop} (h : Ok (exs f r ρ st) Q E) : after f r Q E (.next, ρ) st := h
theorem after_ret {f : En → Stmt → Sto → Out (Fl × En)} {r : List Stmt} {d : D} {Q : Fl × En → Sto → Prop} (h : Q (.ret d, ρ) st) : after f r Q E (.ret d, ρ) st := h
theorem after_brk {f : En → Stmt → Sto → Out (Fl × En)} {r : List Stmt} {Q : Fl × En → Sto → Prop} (h : Q (.brk, ρ) st) : after f r Q E (.brk, ρ) st := h
theorem after_cont {f : En → Stmt → Sto → Out (Fl × En)} {r : List Stmt} {Q : Fl × En → Sto → Prop} (h : Q (.cont, ρ) st) : after f r Q E (.cont, ρ) st := h

theorem st_pass {p} {Q : Fl × En → Sto → Prop} (q : Q (.next, ρ) st) : Ok ((X C Φ (n + 1)).st sc ρ (.Pass p) st) Q E := q
theorem st_brk {p} {Q : Fl × En → Sto → Prop} (q : Q (.brk, ρ) st) : Ok ((X C Φ (n + 1)).st sc ρ (.Break p) st) Q E := q
theorem st_cont {p} {Q : Fl × En → Sto → Prop} (q : Q (.cont, ρ) st) : Ok ((X C Φ (n + 1)).st sc ρ (.Continue p) st) Q E := q
theorem st_ret {e : PySem.Expr} {p} {Q : Fl × En → Sto → Prop} (h : Ok ((X C Φ n).ex sc ρ e st) (fun d st₁ => Q (.ret d, ρ) st₁) E) : Ok ((X C Φ (n + 1)).st sc ρ (.Return (some e) p) st) Q E := Ok.bind h
theorem st_expr {e : PySem.Expr} {p} {Q : Fl × En → Sto → Prop} (h0 : isComp e = false) (h : Ok ((X C Φ n).ex sc ρ e st) (fun _ st₁ => Q (.next, ρ) st₁) E) : Ok ((X C Φ (n + 1)).st sc ρ (.Expr e p) st) Q E := by
  show Ok (if isComp e then _ else _) Q E
  rw [if_neg (by rw [h0]; decide)]
  exact Ok.bind h
theorem st_asg {e : PySem.Expr} {x : Str} {p p'} {Q : Fl × En → Sto → Prop} (h0 : isComp e = false) (h1 : (sc.names.lookup x == some .local) = true) (h : Ok ((X C Φ n).ex sc ρ e st) (fun d st₁ => Q (.next, setE x d ρ) st₁) E) : Ok ((X C Φ (n + 1)).st sc ρ (.Assign [.Name x p] e p') st) Q E := by
  show Ok (if isComp e then _ else _) Q E
  rw [if_neg (by rw [h0]; decide)]
  refine Ok.bind (h.mono fun d st₁ q => ?_)
  rw [if_pos h1]
  exact q
theorem st_asgT {e : PySem.Expr} {ts : List PySem.Expr} {k tp p} {xs : List Str} {Q : Fl × En → Sto → Prop} (h0 : isComp e = false) (h1 : namesOf ts = some xs) (h2 : (distinct xs && swOk sc ts k tp e xs) = true)
    (h : Ok ((X C Φ n).ex sc ρ e st) (fun d st₁ => ∃ l ρ', d = .v (.tup l) ∧ putAll sc xs l ρ = some ρ' ∧ Q (.next, ρ') st₁) E) : Ok ((X C Φ (n + 1)).st sc ρ (.Assign [.Tuple ts k tp] e p) st) Q E := by
  show Ok (if isComp e then _ else _) Q E
  rw [if_neg (by rw [h0]; decide), h1]
  dsimp only
  rw [if_pos h2]
  refine Ok.bind (h.mono fun d st₁ h => ?_)
  obtain ⟨l, ρ', rfl, h3, q⟩ := h
  dsimp only
  rw [h3]
  exact q
theorem st_asgS {e o i : PySem.Expr} {sp p} {Q : Fl × En → Sto → Prop} (h0 : (isComp e || isStar i) = false)
    (h : Ok ((X C Φ n).ex sc ρ e st) (fun d st₁ => Ok ((X C Φ n).ex sc ρ o st₁) (fun a st₂ => Ok ((X C Φ n).ex sc ρ i st₂) (fun k st₃ => ∃ x j z l, d = .v (.int x) ∧ a = .m j ∧ k = .v (.int z) ∧ st₃[j]? = some l ∧ (allInt l = true ∧ 0 ≤ z ∧ z < l.length ∧ z < 2 ^ 63) ∧ Q (.next, ρ) (st₃.set j (l.set z.toNat (.int x)))) E) E) E) :
    Ok ((X C Φ (n + 1)).st sc ρ (.Assign [.Subscript o i sp] e p) st) Q E := by
  show Ok (if isComp e || isStar i then _ else _) Q E
  rw [if_neg (by rw [h0]; decide)]
  refine Ok.bind (h.mono fun d st₁ h => Ok.bind (h.mono fun a st₂ h => Ok.bind (h.mono fun k st₃ h => ?_)))
  obtain ⟨x, j, z, l, rfl, rfl, rfl, h1, h2, q⟩ := h
  dsimp only
  rw [h1]
  dsimp only
  rw [if_pos h2]
  exact q
theorem st_if {c : PySem.Expr} {a b : List Stmt} {p} {Q : Fl × En → Sto → Prop} (h : Ok ((X C Φ n).tt sc ρ c st) (fun t st₁ => (t = true → Ok (exs ((X C Φ n).st sc) a ρ st₁) Q E) ∧ (t = false → Ok (exs ((X C Φ n).st sc) b ρ st₁) Q E)) E) :
    Ok ((X C Φ (n + 1)).st sc ρ (.If c a b p) st) Q E := ok_if h

/-- what a loop's body comes back with -/
noncomputable def again (I : En → Sto → Prop) (Q : Fl × En → Sto → Prop) (p : Fl × En) (st : Sto) : Prop :=
  match p.1 with
  | .next => I p.2 st
  | .cont => I p.2 st
  | .brk => Q (.next, p.2) st
  | .ret d => Q (.ret d, p.2) st
theorem again_next {I : En → Sto → Prop} {Q : Fl × En → Sto → Prop} (h : I ρ st) : again I Q (.next, ρ) st := h
theorem again_cont {I : En → Sto → Prop} {Q : Fl × En → Sto → Prop} (h : I ρ st) : again I Q (.cont, ρ) st := h
theorem again_brk {I : En → Sto → Prop} {Q : Fl × En → Sto → Prop} (h : Q (.next, ρ) st) : again I Q (.brk, ρ) st := h
theorem again_ret {I : En → Sto → Prop} {d : D} {Q : Fl × En → Sto → Prop} (h : Q (.ret d, ρ) st) : again I Q (.ret d, ρ) st := h

theorem ok_while {tst : En → Sto → Out Bool} {body : En → Sto → Out (Fl × En)} {Q : Fl × En → Sto → Prop} (I : Nat → En → Sto → Prop)
    (h : ∀ k ρ st, I k ρ st → Ok (tst ρ st) (fun t st₁ => (t = true → Ok (body ρ st₁) (again (fun ρ st => ∃ k', k' < k ∧ I k' ρ st) Q) E) ∧ (t = false → Q (.next, ρ) st₁)) E) :
    ∀ (k N : Nat) (ρ : En) (st : Sto), k < N → I k ρ st → Ok (whileN tst body N ρ st) Q E := by
  intro k
  induction k using Nat.strongRecOn with
  | ind k ih =>
    intro N ρ st hk hI
    obtain ⟨N, rfl⟩ : ∃ M, N = M + 1 := ⟨N - 1, by omega⟩
    unfold whileN
    refine ok_if ((h k ρ st hI).mono fun t st₁ h => ⟨fun e => ?_, fun e => h.2 e⟩)
    refine Ok.bind ((h.1 e).mono fun p st₂ h => ?_)
    obtain ⟨fl, ρ₂⟩ := p
    cases fl with
    | next =>
      obtain ⟨k', hk', h⟩ := h
      exact ih k' hk' N ρ₂ st₂ (by omega) h
    | cont =>
      obtain ⟨k', hk', h⟩ := h
      exact ih k' hk' N ρ₂ st₂ (by omega) h
    | brk => exact h
    | ret d => exact h
theorem st_while {c : PySem.Expr} {b : List Stmt} {p} {Q : Fl × En → Sto → Prop} (h : Ok (whileN (fun ρ st => (X C Φ n).tt sc ρ c st) (fun ρ st => exs ((X C Φ n).st sc) b ρ st) LIM ρ st) Q E) : Ok ((X C Φ (n + 1)).st sc ρ (.While c b [] p) st) Q E := h
theorem ok_for {put : V → En → Option En} {body : En → Sto → Out (Fl × En)} {Q : Fl × En → Sto → Prop} (I : List V → En → Sto → Prop)
    (h0 : ∀ ρ st, I [] ρ st → Q (.next, ρ) st)
    (h : ∀ x r ρ st, I (x :: r) ρ st → ∃ ρ₁, put x ρ = some ρ₁ ∧ Ok (body ρ₁ st) (again (I r) Q) E) :
    ∀ (l : List V) (ρ : En) (st : Sto), I l ρ st → Ok (forL put body l ρ st) Q E
  | [], ρ, st, hI => h0 ρ st hI
  | x :: r, ρ, st, hI => by
    unfold forL
    obtain ⟨ρ₁, h1, h2⟩ := h x r ρ st hI
    rw [h1]
    refine Ok.bind (h2.mono fun p st₂ h' => ?_)
    obtain ⟨fl, ρ₂⟩ := p
    cases fl with
    | next => exact ok_for I h0 h r ρ₂ st₂ h'
    | cont => exact ok_for I h0 h r ρ₂ st₂ h'
    | brk => exact h'
    | ret d => exact h'
theorem st_for {t it : PySem.Expr} {b : List Stmt} {p} {Q : Fl × En → Sto → Prop} (h0 : isDisp it = false) (h : Ok ((X C Φ n).ex sc ρ it st) (fun d st₁ => ∃ l, itemsOf d = some l ∧ Ok (forL (putT sc t) (fun ρ st => exs ((X C Φ n).st sc) b ρ st) l ρ st₁) Q E) E) :
    Ok ((X C Φ (n + 1)).st sc ρ (.For t it b [] p) st) Q E := by
  show Ok (if isDisp it then _ else _) Q E
  rw [if_neg (by rw [h0]; decide)]
  refine Ok.bind (h.mono fun d st₁ h => ?_)
  obtain ⟨l, h1, h2⟩ := h
  rw [h1]
  exact h2
end

/-- how a function's body ends -/
noncomputable def ends (n : Nat) (Q : D → Sto → Prop) (p : Fl × En) (st : Sto) : Prop :=
  match p.1 with
  | .next => Q (.v .none) (st.take n)
  | .ret (.v x) => Q (.v x) (st.take n)
  | .ret (.m i) => if i < n then Q (.m i) (st.take n) else Q (.m i) st
  | _ => False
theorem ends_next {n : Nat} {Q : D → Sto → Prop} {ρ : En} {st : Sto} (q : Q (.v .none) (st.take n)) : ends n Q (.next, ρ) st := q
theorem ends_v {n : Nat} {Q : D → Sto → Prop} {ρ : En} {st : Sto} {x : V} (q : Q (.v x) (st.take n)) : ends n Q (.ret (.v x), ρ) st := q
theorem ok_run {C : Cx} {Φ : D → List D → Sto → Out D} {f : FnI} {ds : List D} {st : Sto} {Q : D → Sto → Prop} {E : V → Sto → Prop} (h0 : f.ps.length = ds.length) (h : Ok (exs ((X C Φ 64).st f.sc) f.body (f.ps.zip ds) st) (ends st.length Q) E) : Ok (runBody C Φ f ds st) Q E := by
  unfold runBody
  rw [if_pos h0]
  refine Ok.bind (h.mono fun p st₁ h => ?_)
  obtain ⟨fl, ρ⟩ := p
  cases fl with
  | next => exact h
  | ret d =>
    cases d with
    | v x => exact h
    | m i =>
      unfold ends at h
      dsimp only at h
      show Ok (if i < st.length then _ else _) Q E
      split at h
      · rename_i hi
        rw [if_pos hi]; exact h
      · rename_i hi
        rw [if_neg hi]; exact h
  | brk => exact h
  | cont => exact h
theorem ok_fn {C : Cx} {T : Tab} {n : Nat} {a : Addr} {f : FnI} {ds : List D} {st : Sto} {Q : D → Sto → Prop} {E : V → Sto → Prop} (h0 : T.fn a = some f) (h : Ok (runBody C (R C T n) f ds st) Q E) : Ok (R C T (n + 1) (.v (.val (.ref a))) ds st) Q E := by
  show Ok (match T.fn a with | some f => _ | none => _) Q E
  rw [h0]
  exact h
theorem ok_cls {C : Cx} {T : Tab} {n : Nat} {a : Addr} {ns : List Str} {ds : List D} {l : List V} {st : Sto} {Q : D → Sto → Prop} {E : V → Sto → Prop} (h0 : T.fn a = none) (h1 : T.cls a = some ns) (h2 : ns.length = ds.length) (h3 : vals ds = some l) (q : Q (.v (.inst a ns l)) st) : Ok (R C T (n + 1) (.v (.val (.ref a))) ds st) Q E := by
  show Ok (match T.fn a with | some f => _ | none => _) Q E
  rw [h0, h1]
  dsimp only
  rw [if_pos h2, h3]
  exact q
end Mine

end

section
open PySem PySem.W PyProof.Rows
set_option maxRecDepth 100000
set_option maxHeartbeats 8000000
namespace Mine
/-- the top's run on the tree, in one go -/
noncomputable def topRunT (tb : String → Option Builtin) (p : Program) (w : World) (n₀ : Nat) (ann : Option Value) : Nat → SharedT → Thread → Option SharedT
  | 0, _, _ => none
  | n + 1, s, t => match through t with
    | true => some s
    | false => match stepOk n₀ ann t with
      | false => none
      | true => match stepT (denote tb) p w s t with
        | some (s', t') => topRunT tb p w n₀ ann n s' t'
        | none => none
theorem topRunT_of {tb : String → Option Builtin} {p : Program} {w : World} {n₀ : Nat} {ann : Option Value} : ∀ {n : Nat} {s s' : SharedT} {t : Thread}, topRunT tb p w n₀ ann n s t = some s' → topRun tb p w n₀ ann n s.abs t = some s'.abs
  | 0, _, _, _, h => by cases h
  | n + 1, s, s', t, h => by
    unfold topRunT at h
    unfold topRun
    cases ht : through t with
    | true =>
      rw [ht] at h
      cases h
      rfl
    | false =>
      rw [ht] at h
      cases hk : stepOk n₀ ann t with
      | false => rw [hk] at h; cases h
      | true =>
        rw [hk] at h
        cases hs : stepT (denote tb) p w s t with
        | none => rw [hs] at h; cases h
        | some r => obtain ⟨s₂, t₂⟩ := r; rw [hs] at h; rw [stepT_spec hs]; exact topRunT_of h

noncomputable def T0 (P : Params) : BT := ((boot_heap P).objs.toList.foldl (fun (x : BT × Nat) o => (x.1.ins x.2 o, x.2 + 1)) (.nil, 0)).1
noncomputable def S0 (w : World) (os : OsState) : SharedT := ⟨T0 w.params, (boot_heap w.params).objs.size, (boot_heap w.params).life, #[], boot_drawn, boot_toks, os⟩
theorem tree0 : ∀ P, absHeap (T0 P) (boot_heap P).objs.size (boot_heap P).life = boot_heap P := fun P => by kernel_rfl
theorem size0 : ∀ P : Params, (((boot_heap P).isNs mainGlobals && (#[] : Array GenState).size == 0, (boot_heap P).nsMap mainGlobals "__annotations__") : Bool × Option Value) = (true, some (.ref 6)) := fun P => by kernel_rfl

/-- the whole run and all that is looked at behind it -/
noncomputable def runG (p q : Program) (loose : List Str) (lv : List (Str × WData)) (rec : WRecords) (as : List Addr) (N : Nat) (h0 : Heap) (w : World) (s : SharedT) :=
  (topRunT treeTable p w h0.objs.size (some (.ref 6)) N s (topStub p)).map fun s =>
    (staticsOk (importedModules p.main.body) h0 s.abs.heap && namesBound p s.abs.heap && gensDone s.abs && laidKept h0 s.abs.heap, openSeen q loose (importedModules p.main.body) (fun s => xlAt q lv s && recOk rec s) true s.abs, as.map s.abs.heap.get?)
noncomputable def dueG (q : Program) (loose : List Str) (k : Frag) := some (true, openGood q loose, k.map fun p => some p.2)
theorem runG_self : runG = runG := rfl
theorem dueG_self : dueG = dueG := rfl
theorem said_self : OpenLaw.wellSaid = OpenLaw.wellSaid := rfl

noncomputable def XtG (q : Program) (lv : List (Str × WData)) (rec : WRecords) : Shared → Bool := fun s => xlAt q lv s && recOk rec s
noncomputable def YfG (as : List Addr) : Shared → List (Option Obj) := fun s => as.map s.heap.get?
noncomputable def YaG (K : Params → Frag) : World → List (Option Obj) := fun w => (K w.params).map fun p => some p.2
theorem left_of_run {p q : Program} {loose : List Str} {lv : List (Str × WData)} {rec : WRecords} {as : List Addr} {K : Params → Frag} {N : Nat}
    (open_ : ∀ w : World, (fencedOpening treeTable p w N).map (fun s => (s.heap, s.gens, s.drawn, s.toks)) = some (boot_heap w.params, Array.mk [], boot_drawn, boot_toks))
    (run : ∀ (w : World) (os : OsState), runG p q loose lv rec as N (boot_heap w.params) w (S0 w os) = dueG q loose (K w.params)) :
    LeftO p q loose (XtG q lv rec) (YfG as) (YaG K) N := fun w => by
  obtain ⟨⟨h, gs, d, k, os⟩, e, e'⟩ := Option.map_eq_some_iff.mp (open_ w)
  obtain ⟨rfl, rfl, rfl, rfl⟩ : h = boot_heap w.params ∧ gs = Array.mk [] ∧ d = boot_drawn ∧ k = boot_toks := by simpa using e'
  obtain ⟨z1, z3⟩ : _ ∧ _ := by simpa only [Prod.mk.injEq] using size0 w.params
  obtain ⟨s, hr, hl⟩ := Option.map_eq_some_iff.mp (run w os)
  obtain ⟨l1, l2, l3⟩ : _ ∧ _ ∧ _ := by simpa only [Prod.mk.injEq] using hl
  have r := topRunT_of hr
  have hS : (S0 w os).abs = ⟨boot_heap w.params, Array.mk [], boot_drawn, boot_toks, os⟩ := by
    show (⟨absHeap (T0 w.params) (boot_heap w.params).objs.size (boot_heap w.params).life, _, _, _, _⟩ : Shared) = _
    rw [tree0]
    rfl
  rw [hS] at r
  have t : topFrom treeTable p w N ⟨boot_heap w.params, Array.mk [], boot_drawn, boot_toks, os⟩ = some s.abs := by
    unfold topFrom
    dsimp only
    rw [z1, z3, r]
    show (match staticsOk (importedModules p.main.body) (boot_heap w.params) s.abs.heap && namesBound p s.abs.heap && gensDone s.abs && laidKept (boot_heap w.params) s.abs.heap with | true => _ | false => _) = _
    rw [l1]
  unfold openEnds
  rw [e]
  show (topFrom treeTable p w N _).map _ = _
  rw [t]
  exact congrArg some (Prod.ext l2 l3)
end Mine
lay_quick Mine.runG
name_quick mRunG for Mine.runG by Mine.runG_self
lay_quick Mine.dueG
name_quick mDueG for Mine.dueG by Mine.dueG_self
name_quick mSaid for PySem.W.OpenLaw.wellSaid by Mine.said_self

end

section
open PySem PySem.W PyProof.Rows
set_option maxRecDepth 100000
namespace Mine
noncomputable def nthS : List Stmt → Nat → Stmt
  | s :: _, 0 => s
  | _ :: r, n + 1 => nthS r n
  | [], _ => .Pass default
noncomputable def clsS (s : Stmt) (j : Nat) : Stmt := match s with
  | .ClassDef _ _ _ b _ _ _ _ _ _ _ => nthS b j
  | _ => .Pass default
noncomputable def fnO (s : Stmt) (qual mod : String) (mt : Nat) (code : Addr) : Obj := match s with
  | .FunctionDef n a b _ _ _ sc _ _ _ => { cls := .type "function", data := .func { name := n, qualname := Str.ofString qual, params := a, body := .stmts b, scope := sc, globals := 3, closure := [], defaults := .none, kwdefaults := .none, pyModule := .str (Str.ofString mod) mt, code := .ref code } }
  | _ => default
noncomputable def eN (P : Params) (n : String) (t : Nat) (v : Value) : DictEntry := ⟨PyData.keyHash P (Str.ofString n), .str (Str.ofString n) t, v⟩
end Mine

end

section
open PySem PySem.W PyProof.Rows
set_option maxRecDepth 100000
set_option maxHeartbeats 8000000
namespace Mine
noncomputable def q1 : Program := view PySem.Challenge.pw_nt0210_01 [0, 2, 3, 4, 5, 6, 7, 8, 9, 10, 11, 12, 13, 14, 15, 16, 17, 18, 19, 20, 22, 23, 25, 26, 27, 28, 29, 30, 31, 32, 33, 34, 35, 36, 37, 38, 39, 40, 42, 43, 44, 45, 46, 47, 48, 49, 50, 52, 54, 55, 56, 57, 58, 59, 60, 61]
noncomputable def sf (i : Nat) : Stmt := nthS PySem.Challenge.pw_nt0210_01.main.body i
noncomputable def sm (i j : Nat) : Stmt := clsS (nthS PySem.Challenge.pw_nt0210_01.main.body i) j
noncomputable def K1 : Params → Frag := fun P => [
  (3, Obj.mk (Value.type "dict") none (Data.dict #[eN P "__name__" 165 (Value.str (Str.ofString "law_nt0210_01") 1024), eN P "__doc__" 166 Value.none, eN P "__package__" 167 Value.none, eN P "__loader__" 168 (Value.builtin "__main__.__loader__#opaque"), eN P "__spec__" 169 Value.none, eN P "__annotations__" 170 (Value.ref 6), eN P "__builtins__" 171 (Value.ref 4), eN P "__file__" 173 (Value.str (Str.ofString "/claim/cut.py") 172), eN P "__cached__" 174 Value.none, eN P "_wall" 193 (Value.ref 21), eN P "Ratio" 226 (Value.ref 38), eN P "is_whole" 233 (Value.ref 49), eN P "is_exact" 240 (Value.ref 56), eN P "top_of" 247 (Value.ref 63), eN P "bottom_of" 254 (Value.ref 70), eN P "gcd_of" 262 (Value.ref 77), eN P "made" 270 (Value.ref 84), eN P "ratio_of" 279 (Value.ref 91), eN P "sign_of_exact" 287 (Value.ref 98), eN P "negate_exact" 294 (Value.ref 105), eN P "magnitude_exact" 301 (Value.ref 112), eN P "add_exact" 314 (Value.ref 119), eN P "subtract_exact" 322 (Value.ref 126), eN P "reciprocal_exact" 331 (Value.ref 133), eN P "compare_exact" 341 (Value.ref 140), eN P "is_equal_exact" 349 (Value.ref 147), eN P "floor_exact" 356 (Value.ref 154), eN P "simplest_above" 367 (Value.ref 161), eN P "simplest_between" 375 (Value.ref 168), eN P "SchemeError" 408 (Value.ref 185), eN P "OutOfRange" 437 (Value.ref 205), eN P "REACH" 443 (Value.int 65536 442), eN P "Real" 474 (Value.ref 224), eN P "size_of" 481 (Value.ref 235), eN P "sign_of_whole" 488 (Value.ref 242), eN P "zeros_below" 495 (Value.ref 249), eN P "lean" 505 (Value.ref 256), eN P "nearest_shift" 516 (Value.ref 263), eN P "shifted_round" 526 (Value.ref 270), eN P "with_sticky" 534 (Value.ref 277), eN P "rounded" 546 (Value.ref 284), eN P "exact_parts" 553 (Value.ref 291), eN P "place_of" 560 (Value.ref 298), eN P "sign_of" 567 (Value.ref 305), eN P "magnitude" 574 (Value.ref 312), eN P "compare_magnitudes" 583 (Value.ref 319), eN P "compare_reals" 591 (Value.ref 326), eN P "is_inexact" 600 (Value.ref 333), eN P "sign" 607 (Value.ref 340), eN P "to_exact" 616 (Value.ref 347), eN P "to_exact_numkinds" 617 (Value.ref 347), eN P "to_inexact" 625 (Value.ref 354), eN P "has_inexact" 633 (Value.ref 361), eN P "as_of" 642 (Value.ref 368), eN P "compare" 650 (Value.ref 375), eN P "compare_numkinds" 651 (Value.ref 375), eN P "Tower" 1023 (Value.ref 665), eN P "_law_deck" 1031 (Value.ref 674), eN P "_law_draw" 1040 (Value.ref 681), eN P "_law_exact" 1047 (Value.ref 688), eN P "_law_pair" 1054 (Value.ref 695), eN P "_law_tops" 1064 (Value.ref 702), eN P "_law_simplest" 1077 (Value.ref 709), eN P "_law_is_right" 1087 (Value.ref 716), eN P "law" 1100 (Value.ref 723)] 65) #[]),
  (34, Obj.mk (Value.type "code") none (Data.fields #[Value.str (Str.ofString "__init__") 208, Value.str (Str.ofString "Ratio.__init__") 209, Value.str (Str.ofString "/claim/cut.py") 210, Value.int 7 0, Value.int 3 0, Value.int 0 0, Value.int 0 0, Value.int 3 0, Value.ref 29, Value.bool true, Value.int 181 0, Value.ref 30, Value.none, Value.ref 31, Value.ref 32, Value.ref 33, Value.int 214 0, Value.int 7 0, Value.str (Str.ofString "/claim/cut.py") 215]) #[]),
  (35, fnO (sm 2 0) "Ratio.__init__" "scheme.exact" 194 34),
  (37, Obj.mk (Value.type "dict") none (Data.dict #[eN P "__module__" 203 (Value.str (Str.ofString "scheme.exact") 194), eN P "__firstlineno__" 207 (Value.int 5 206), eN P "__init__" 216 (Value.ref 35), eN P "__static_attributes__" 219 (Value.ref 36), eN P "__dict__" 221 (Value.ref 39), eN P "__weakref__" 223 (Value.ref 40), eN P "__doc__" 224 Value.none] 4) #[]),
  (38, Obj.mk (Value.type "type") none (Data.cls (ClassData.mk (Str.ofString "Ratio") [Value.type "object"] [Value.ref 38, Value.type "object"] 37 (Str.ofString "Ratio") true [] [] false none false)) #[none, none, some (Value.str (Str.ofString "Ratio") 196), some (Value.str (Str.ofString "Ratio") 204), some (Value.builtin "object.__new__"), some (Value.bool true)]),
  (48, Obj.mk (Value.type "code") none (Data.fields #[Value.str (Str.ofString "is_whole") 227, Value.str (Str.ofString "is_whole") 228, Value.str (Str.ofString "/claim/cut.py") 229, Value.int 10 0, Value.int 1 0, Value.int 0 0, Value.int 0 0, Value.int 3 0, Value.ref 43, Value.bool true, Value.int 181 0, Value.ref 44, Value.none, Value.ref 45, Value.ref 46, Value.ref 47, Value.int 231 0, Value.int 10 0, Value.str (Str.ofString "/claim/cut.py") 232]) #[]),
  (49, fnO (sf 3) "is_whole" "scheme.exact" 194 48),
  (55, Obj.mk (Value.type "code") none (Data.fields #[Value.str (Str.ofString "is_exact") 234, Value.str (Str.ofString "is_exact") 235, Value.str (Str.ofString "/claim/cut.py") 236, Value.int 12 0, Value.int 1 0, Value.int 0 0, Value.int 0 0, Value.int 3 0, Value.ref 50, Value.bool true, Value.int 181 0, Value.ref 51, Value.none, Value.ref 52, Value.ref 53, Value.ref 54, Value.int 238 0, Value.int 12 0, Value.str (Str.ofString "/claim/cut.py") 239]) #[]),
  (56, fnO (sf 4) "is_exact" "scheme.exact" 194 55),
  (62, Obj.mk (Value.type "code") none (Data.fields #[Value.str (Str.ofString "top_of") 241, Value.str (Str.ofString "top_of") 242, Value.str (Str.ofString "/claim/cut.py") 243, Value.int 14 0, Value.int 1 0, Value.int 0 0, Value.int 0 0, Value.int 3 0, Value.ref 57, Value.bool true, Value.int 181 0, Value.ref 58, Value.none, Value.ref 59, Value.ref 60, Value.ref 61, Value.int 245 0, Value.int 14 0, Value.str (Str.ofString "/claim/cut.py") 246]) #[]),
  (63, fnO (sf 5) "top_of" "scheme.exact" 194 62),
  (69, Obj.mk (Value.type "code") none (Data.fields #[Value.str (Str.ofString "bottom_of") 248, Value.str (Str.ofString "bottom_of") 249, Value.str (Str.ofString "/claim/cut.py") 250, Value.int 16 0, Value.int 1 0, Value.int 0 0, Value.int 0 0, Value.int 3 0, Value.ref 64, Value.bool true, Value.int 181 0, Value.ref 65, Value.none, Value.ref 66, Value.ref 67, Value.ref 68, Value.int 252 0, Value.int 16 0, Value.str (Str.ofString "/claim/cut.py") 253]) #[]),
  (70, fnO (sf 6) "bottom_of" "scheme.exact" 194 69),
  (76, Obj.mk (Value.type "code") none (Data.fields #[Value.str (Str.ofString "gcd_of") 255, Value.str (Str.ofString "gcd_of") 256, Value.str (Str.ofString "/claim/cut.py") 257, Value.int 18 0, Value.int 2 0, Value.int 0 0, Value.int 0 0, Value.int 3 0, Value.ref 71, Value.bool true, Value.int 181 0, Value.ref 72, Value.none, Value.ref 73, Value.ref 74, Value.ref 75, Value.int 260 0, Value.int 18 0, Value.str (Str.ofString "/claim/cut.py") 261]) #[]),
  (77, fnO (sf 7) "gcd_of" "scheme.exact" 194 76),
  (83, Obj.mk (Value.type "code") none (Data.fields #[Value.str (Str.ofString "made") 263, Value.str (Str.ofString "made") 264, Value.str (Str.ofString "/claim/cut.py") 265, Value.int 23 0, Value.int 2 0, Value.int 0 0, Value.int 0 0, Value.int 3 0, Value.ref 78, Value.bool true, Value.int 181 0, Value.ref 79, Value.none, Value.ref 80, Value.ref 81, Value.ref 82, Value.int 268 0, Value.int 23 0, Value.str (Str.ofString "/claim/cut.py") 269]) #[]),
  (84, fnO (sf 8) "made" "scheme.exact" 194 83),
  (90, Obj.mk (Value.type "code") none (Data.fields #[Value.str (Str.ofString "ratio_of") 271, Value.str (Str.ofString "ratio_of") 272, Value.str (Str.ofString "/claim/cut.py") 273, Value.int 25 0, Value.int 2 0, Value.int 0 0, Value.int 0 0, Value.int 3 0, Value.ref 85, Value.bool true, Value.int 181 0, Value.ref 86, Value.none, Value.ref 87, Value.ref 88, Value.ref 89, Value.int 277 0, Value.int 25 0, Value.str (Str.ofString "/claim/cut.py") 278]) #[]),
  (91, fnO (sf 9) "ratio_of" "scheme.exact" 194 90),
  (97, Obj.mk (Value.type "code") none (Data.fields #[Value.str (Str.ofString "sign_of_exact") 280, Value.str (Str.ofString "sign_of_exact") 281, Value.str (Str.ofString "/claim/cut.py") 282, Value.int 30 0, Value.int 1 0, Value.int 0 0, Value.int 0 0, Value.int 3 0, Value.ref 92, Value.bool true, Value.int 181 0, Value.ref 93, Value.none, Value.ref 94, Value.ref 95, Value.ref 96, Value.int 285 0, Value.int 30 0, Value.str (Str.ofString "/claim/cut.py") 286]) #[]),
  (98, fnO (sf 10) "sign_of_exact" "scheme.exact" 194 97),
  (104, Obj.mk (Value.type "code") none (Data.fields #[Value.str (Str.ofString "negate_exact") 288, Value.str (Str.ofString "negate_exact") 289, Value.str (Str.ofString "/claim/cut.py") 290, Value.int 33 0, Value.int 1 0, Value.int 0 0, Value.int 0 0, Value.int 3 0, Value.ref 99, Value.bool true, Value.int 181 0, Value.ref 100, Value.none, Value.ref 101, Value.ref 102, Value.ref 103, Value.int 292 0, Value.int 33 0, Value.str (Str.ofString "/claim/cut.py") 293]) #[]),
  (105, fnO (sf 11) "negate_exact" "scheme.exact" 194 104),
  (111, Obj.mk (Value.type "code") none (Data.fields #[Value.str (Str.ofString "magnitude_exact") 295, Value.str (Str.ofString "magnitude_exact") 296, Value.str (Str.ofString "/claim/cut.py") 297, Value.int 35 0, Value.int 1 0, Value.int 0 0, Value.int 0 0, Value.int 3 0, Value.ref 106, Value.bool true, Value.int 181 0, Value.ref 107, Value.none, Value.ref 108, Value.ref 109, Value.ref 110, Value.int 299 0, Value.int 35 0, Value.str (Str.ofString "/claim/cut.py") 300]) #[]),
  (112, fnO (sf 12) "magnitude_exact" "scheme.exact" 194 111),
  (118, Obj.mk (Value.type "code") none (Data.fields #[Value.str (Str.ofString "add_exact") 302, Value.str (Str.ofString "add_exact") 303, Value.str (Str.ofString "/claim/cut.py") 304, Value.int 37 0, Value.int 2 0, Value.int 0 0, Value.int 0 0, Value.int 3 0, Value.ref 113, Value.bool true, Value.int 181 0, Value.ref 114, Value.none, Value.ref 115, Value.ref 116, Value.ref 117, Value.int 312 0, Value.int 37 0, Value.str (Str.ofString "/claim/cut.py") 313]) #[]),
  (119, fnO (sf 13) "add_exact" "scheme.exact" 194 118),
  (125, Obj.mk (Value.type "code") none (Data.fields #[Value.str (Str.ofString "subtract_exact") 315, Value.str (Str.ofString "subtract_exact") 316, Value.str (Str.ofString "/claim/cut.py") 317, Value.int 45 0, Value.int 2 0, Value.int 0 0, Value.int 0 0, Value.int 3 0, Value.ref 120, Value.bool true, Value.int 181 0, Value.ref 121, Value.none, Value.ref 122, Value.ref 123, Value.ref 124, Value.int 320 0, Value.int 45 0, Value.str (Str.ofString "/claim/cut.py") 321]) #[]),
  (126, fnO (sf 14) "subtract_exact" "scheme.exact" 194 125),
  (132, Obj.mk (Value.type "code") none (Data.fields #[Value.str (Str.ofString "reciprocal_exact") 323, Value.str (Str.ofString "reciprocal_exact") 324, Value.str (Str.ofString "/claim/cut.py") 325, Value.int 47 0, Value.int 1 0, Value.int 0 0, Value.int 0 0, Value.int 3 0, Value.ref 127, Value.bool true, Value.int 181 0, Value.ref 128, Value.none, Value.ref 129, Value.ref 130, Value.ref 131, Value.int 329 0, Value.int 47 0, Value.str (Str.ofString "/claim/cut.py") 330]) #[]),
  (133, fnO (sf 15) "reciprocal_exact" "scheme.exact" 194 132),
  (139, Obj.mk (Value.type "code") none (Data.fields #[Value.str (Str.ofString "compare_exact") 332, Value.str (Str.ofString "compare_exact") 333, Value.str (Str.ofString "/claim/cut.py") 334, Value.int 50 0, Value.int 2 0, Value.int 0 0, Value.int 0 0, Value.int 3 0, Value.ref 134, Value.bool true, Value.int 181 0, Value.ref 135, Value.none, Value.ref 136, Value.ref 137, Value.ref 138, Value.int 339 0, Value.int 50 0, Value.str (Str.ofString "/claim/cut.py") 340]) #[]),
  (140, fnO (sf 16) "compare_exact" "scheme.exact" 194 139),
  (146, Obj.mk (Value.type "code") none (Data.fields #[Value.str (Str.ofString "is_equal_exact") 342, Value.str (Str.ofString "is_equal_exact") 343, Value.str (Str.ofString "/claim/cut.py") 344, Value.int 53 0, Value.int 2 0, Value.int 0 0, Value.int 0 0, Value.int 3 0, Value.ref 141, Value.bool true, Value.int 181 0, Value.ref 142, Value.none, Value.ref 143, Value.ref 144, Value.ref 145, Value.int 347 0, Value.int 53 0, Value.str (Str.ofString "/claim/cut.py") 348]) #[]),
  (147, fnO (sf 17) "is_equal_exact" "scheme.exact" 194 146),
  (153, Obj.mk (Value.type "code") none (Data.fields #[Value.str (Str.ofString "floor_exact") 350, Value.str (Str.ofString "floor_exact") 351, Value.str (Str.ofString "/claim/cut.py") 352, Value.int 55 0, Value.int 1 0, Value.int 0 0, Value.int 0 0, Value.int 3 0, Value.ref 148, Value.bool true, Value.int 181 0, Value.ref 149, Value.none, Value.ref 150, Value.ref 151, Value.ref 152, Value.int 354 0, Value.int 55 0, Value.str (Str.ofString "/claim/cut.py") 355]) #[]),
  (154, fnO (sf 18) "floor_exact" "scheme.exact" 194 153),
  (160, Obj.mk (Value.type "code") none (Data.fields #[Value.str (Str.ofString "simplest_above") 357, Value.str (Str.ofString "simplest_above") 358, Value.str (Str.ofString "/claim/cut.py") 359, Value.int 57 0, Value.int 2 0, Value.int 0 0, Value.int 0 0, Value.int 3 0, Value.ref 155, Value.bool true, Value.int 181 0, Value.ref 156, Value.none, Value.ref 157, Value.ref 158, Value.ref 159, Value.int 365 0, Value.int 57 0, Value.str (Str.ofString "/claim/cut.py") 366]) #[]),
  (161, fnO (sf 19) "simplest_above" "scheme.exact" 194 160),
  (167, Obj.mk (Value.type "code") none (Data.fields #[Value.str (Str.ofString "simplest_between") 368, Value.str (Str.ofString "simplest_between") 369, Value.str (Str.ofString "/claim/cut.py") 370, Value.int 68 0, Value.int 2 0, Value.int 0 0, Value.int 0 0, Value.int 3 0, Value.ref 162, Value.bool true, Value.int 181 0, Value.ref 163, Value.none, Value.ref 164, Value.ref 165, Value.ref 166, Value.int 373 0, Value.int 68 0, Value.str (Str.ofString "/claim/cut.py") 374]) #[]),
  (168, fnO (sf 20) "simplest_between" "scheme.exact" 194 167),
  (220, Obj.mk (Value.type "code") none (Data.fields #[Value.str (Str.ofString "__init__") 456, Value.str (Str.ofString "Real.__init__") 457, Value.str (Str.ofString "/claim/cut.py") 458, Value.int 93 0, Value.int 3 0, Value.int 0 0, Value.int 0 0, Value.int 3 0, Value.ref 215, Value.bool true, Value.int 181 0, Value.ref 216, Value.none, Value.ref 217, Value.ref 218, Value.ref 219, Value.int 462 0, Value.int 93 0, Value.str (Str.ofString "/claim/cut.py") 463]) #[]),
  (221, fnO (sm 26 0) "Real.__init__" "scheme.binary" 438 220),
  (223, Obj.mk (Value.type "dict") none (Data.dict #[eN P "__module__" 451 (Value.str (Str.ofString "scheme.binary") 438), eN P "__firstlineno__" 455 (Value.int 91 454), eN P "__init__" 464 (Value.ref 221), eN P "__static_attributes__" 467 (Value.ref 222), eN P "__dict__" 469 (Value.ref 225), eN P "__weakref__" 471 (Value.ref 226), eN P "__doc__" 472 Value.none] 4) #[]),
  (224, Obj.mk (Value.type "type") none (Data.cls (ClassData.mk (Str.ofString "Real") [Value.type "object"] [Value.ref 224, Value.type "object"] 223 (Str.ofString "Real") true [] [] false none false)) #[none, none, some (Value.str (Str.ofString "Real") 444), some (Value.str (Str.ofString "Real") 452), some (Value.builtin "object.__new__"), some (Value.bool true)]),
  (332, Obj.mk (Value.type "code") none (Data.fields #[Value.str (Str.ofString "is_inexact") 594, Value.str (Str.ofString "is_inexact") 595, Value.str (Str.ofString "/claim/cut.py") 596, Value.int 152 0, Value.int 1 0, Value.int 0 0, Value.int 0 0, Value.int 3 0, Value.ref 327, Value.bool true, Value.int 181 0, Value.ref 328, Value.none, Value.ref 329, Value.ref 330, Value.ref 331, Value.int 598 0, Value.int 152 0, Value.str (Str.ofString "/claim/cut.py") 599]) #[]),
  (333, fnO (sf 42) "is_inexact" "scheme.numkinds" 592 332),
  (346, Obj.mk (Value.type "code") none (Data.fields #[Value.str (Str.ofString "to_exact") 608, Value.str (Str.ofString "to_exact") 609, Value.str (Str.ofString "/claim/cut.py") 610, Value.int 156 0, Value.int 1 0, Value.int 0 0, Value.int 0 0, Value.int 3 0, Value.ref 341, Value.bool true, Value.int 181 0, Value.ref 342, Value.none, Value.ref 343, Value.ref 344, Value.ref 345, Value.int 614 0, Value.int 156 0, Value.str (Str.ofString "/claim/cut.py") 615]) #[]),
  (347, fnO (sf 44) "to_exact" "scheme.numkinds" 592 346),
  (360, Obj.mk (Value.type "code") none (Data.fields #[Value.str (Str.ofString "has_inexact") 626, Value.str (Str.ofString "has_inexact") 627, Value.str (Str.ofString "/claim/cut.py") 628, Value.int 166 0, Value.int 1 0, Value.int 0 0, Value.int 0 0, Value.int 3 0, Value.ref 355, Value.bool true, Value.int 181 0, Value.ref 356, Value.none, Value.ref 357, Value.ref 358, Value.ref 359, Value.int 631 0, Value.int 166 0, Value.str (Str.ofString "/claim/cut.py") 632]) #[]),
  (361, fnO (sf 47) "has_inexact" "scheme.numkinds" 592 360),
  (367, Obj.mk (Value.type "code") none (Data.fields #[Value.str (Str.ofString "as_of") 634, Value.str (Str.ofString "as_of") 635, Value.str (Str.ofString "/claim/cut.py") 636, Value.int 171 0, Value.int 3 0, Value.int 0 0, Value.int 0 0, Value.int 3 0, Value.ref 362, Value.bool true, Value.int 181 0, Value.ref 363, Value.none, Value.ref 364, Value.ref 365, Value.ref 366, Value.int 640 0, Value.int 171 0, Value.str (Str.ofString "/claim/cut.py") 641]) #[]),
  (368, fnO (sf 48) "as_of" "scheme.numkinds" 592 367),
  (388, Obj.mk (Value.type "code") none (Data.fields #[Value.str (Str.ofString "__init__") 666, Value.str (Str.ofString "Tower.__init__") 667, Value.str (Str.ofString "/claim/cut.py") 668, Value.int 183 0, Value.int 2 0, Value.int 0 0, Value.int 0 0, Value.int 3 0, Value.ref 383, Value.bool true, Value.int 181 0, Value.ref 384, Value.none, Value.ref 385, Value.ref 386, Value.ref 387, Value.int 671 0, Value.int 183 0, Value.str (Str.ofString "/claim/cut.py") 672]) #[]),
  (389, fnO (sm 52 0) "Tower.__init__" "scheme.tower" 652 388),
  (661, Obj.mk (Value.type "code") none (Data.fields #[Value.str (Str.ofString "rationalize") 1003, Value.str (Str.ofString "Tower.rationalize") 1004, Value.str (Str.ofString "/claim/cut.py") 1005, Value.int 308 0, Value.int 3 0, Value.int 0 0, Value.int 0 0, Value.int 3 0, Value.ref 656, Value.bool true, Value.int 181 0, Value.ref 657, Value.none, Value.ref 658, Value.ref 659, Value.ref 660, Value.int 1012 0, Value.int 308 0, Value.str (Str.ofString "/claim/cut.py") 1013]) #[]),
  (662, fnO (sm 52 39) "Tower.rationalize" "scheme.tower" 652 661),
  (664, Obj.mk (Value.type "dict") none (Data.dict #[eN P "__module__" 661 (Value.str (Str.ofString "scheme.tower") 652), eN P "__firstlineno__" 665 (Value.int 181 664), eN P "__init__" 673 (Value.ref 389), eN P "is_number" 681 (Value.ref 396), eN P "is_exact" 689 (Value.ref 403), eN P "is_inexact" 697 (Value.ref 410), eN P "is_integer" 705 (Value.ref 417), eN P "is_zero" 713 (Value.ref 424), eN P "is_positive" 721 (Value.ref 431), eN P "is_negative" 729 (Value.ref 438), eN P "is_odd" 738 (Value.ref 445), eN P "is_even" 747 (Value.ref 452), eN P "compare" 756 (Value.ref 459), eN P "same_number" 765 (Value.ref 466), eN P "chain" 774 (Value.ref 473), eN P "to_exact" 782 (Value.ref 480), eN P "to_inexact" 790 (Value.ref 487), eN P "add" 799 (Value.ref 494), eN P "subtract" 808 (Value.ref 501), eN P "multiply" 817 (Value.ref 508), eN P "divide" 827 (Value.ref 515), eN P "negate" 835 (Value.ref 522), eN P "absolute" 843 (Value.ref 529), eN P "sum_of" 851 (Value.ref 536), eN P "product_of" 859 (Value.ref 543), eN P "difference_of" 867 (Value.ref 550), eN P "divided" 876 (Value.ref 557), eN P "greatest" 886 (Value.ref 564), eN P "least" 896 (Value.ref 571), eN P "whole_pair" 906 (Value.ref 578), eN P "quotient" 916 (Value.ref 585), eN P "remainder" 926 (Value.ref 592), eN P "modulo" 936 (Value.ref 599), eN P "gcd" 945 (Value.ref 606), eN P "lcm" 954 (Value.ref 613), eN P "numerator" 962 (Value.ref 620), eN P "denominator" 970 (Value.ref 627), eN P "floor" 978 (Value.ref 634), eN P "ceiling" 986 (Value.ref 641), eN P "truncate" 994 (Value.ref 648), eN P "round_number" 1002 (Value.ref 655), eN P "rationalize" 1014 (Value.ref 662), eN P "__static_attributes__" 1016 (Value.ref 663), eN P "__dict__" 1018 (Value.ref 666), eN P "__weakref__" 1020 (Value.ref 667), eN P "__doc__" 1021 Value.none] 4) #[]),
  (665, Obj.mk (Value.type "type") none (Data.cls (ClassData.mk (Str.ofString "Tower") [Value.type "object"] [Value.ref 665, Value.type "object"] 664 (Str.ofString "Tower") true [] [] false none false)) #[none, none, some (Value.str (Str.ofString "Tower") 654), some (Value.str (Str.ofString "Tower") 662), some (Value.builtin "object.__new__"), some (Value.bool true)]),
  (673, Obj.mk (Value.type "code") none (Data.fields #[Value.str (Str.ofString "_law_deck") 1026, Value.str (Str.ofString "_law_deck") 1027, Value.str (Str.ofString "/claim/cut.py") 1028, Value.int 313 0, Value.int 1 0, Value.int 0 0, Value.int 0 0, Value.int 3 0, Value.ref 670, Value.bool true, Value.int 181 0, Value.ref 671, Value.none, Value.none, Value.none, Value.ref 672, Value.int 1029 0, Value.int 313 0, Value.str (Str.ofString "/claim/cut.py") 1030]) #[]),
  (674, fnO (sf 54) "_law_deck" "law_nt0210_01" 1024 673),
  (680, Obj.mk (Value.type "code") none (Data.fields #[Value.str (Str.ofString "_law_draw") 1032, Value.str (Str.ofString "_law_draw") 1033, Value.str (Str.ofString "/claim/cut.py") 1034, Value.int 315 0, Value.int 2 0, Value.int 0 0, Value.int 0 0, Value.int 3 0, Value.ref 675, Value.bool true, Value.int 181 0, Value.ref 676, Value.none, Value.ref 677, Value.ref 678, Value.ref 679, Value.int 1038 0, Value.int 315 0, Value.str (Str.ofString "/claim/cut.py") 1039]) #[]),
  (681, fnO (sf 55) "_law_draw" "law_nt0210_01" 1024 680),
  (687, Obj.mk (Value.type "code") none (Data.fields #[Value.str (Str.ofString "_law_exact") 1041, Value.str (Str.ofString "_law_exact") 1042, Value.str (Str.ofString "/claim/cut.py") 1043, Value.int 323 0, Value.int 1 0, Value.int 0 0, Value.int 0 0, Value.int 3 0, Value.ref 682, Value.bool true, Value.int 181 0, Value.ref 683, Value.none, Value.ref 684, Value.ref 685, Value.ref 686, Value.int 1045 0, Value.int 323 0, Value.str (Str.ofString "/claim/cut.py") 1046]) #[]),
  (688, fnO (sf 56) "_law_exact" "law_nt0210_01" 1024 687),
  (694, Obj.mk (Value.type "code") none (Data.fields #[Value.str (Str.ofString "_law_pair") 1048, Value.str (Str.ofString "_law_pair") 1049, Value.str (Str.ofString "/claim/cut.py") 1050, Value.int 325 0, Value.int 1 0, Value.int 0 0, Value.int 0 0, Value.int 3 0, Value.ref 689, Value.bool true, Value.int 181 0, Value.ref 690, Value.none, Value.ref 691, Value.ref 692, Value.ref 693, Value.int 1052 0, Value.int 325 0, Value.str (Str.ofString "/claim/cut.py") 1053]) #[]),
  (695, fnO (sf 57) "_law_pair" "law_nt0210_01" 1024 694),
  (701, Obj.mk (Value.type "code") none (Data.fields #[Value.str (Str.ofString "_law_tops") 1055, Value.str (Str.ofString "_law_tops") 1056, Value.str (Str.ofString "/claim/cut.py") 1057, Value.int 327 0, Value.int 3 0, Value.int 0 0, Value.int 0 0, Value.int 3 0, Value.ref 696, Value.bool true, Value.int 181 0, Value.ref 697, Value.none, Value.ref 698, Value.ref 699, Value.ref 700, Value.int 1062 0, Value.int 327 0, Value.str (Str.ofString "/claim/cut.py") 1063]) #[]),
  (702, fnO (sf 58) "_law_tops" "law_nt0210_01" 1024 701),
  (708, Obj.mk (Value.type "code") none (Data.fields #[Value.str (Str.ofString "_law_simplest") 1065, Value.str (Str.ofString "_law_simplest") 1066, Value.str (Str.ofString "/claim/cut.py") 1067, Value.int 330 0, Value.int 2 0, Value.int 0 0, Value.int 0 0, Value.int 3 0, Value.ref 703, Value.bool true, Value.int 181 0, Value.ref 704, Value.none, Value.ref 705, Value.ref 706, Value.ref 707, Value.int 1075 0, Value.int 330 0, Value.str (Str.ofString "/claim/cut.py") 1076]) #[]),
  (709, fnO (sf 59) "_law_simplest" "law_nt0210_01" 1024 708),
  (715, Obj.mk (Value.type "code") none (Data.fields #[Value.str (Str.ofString "_law_is_right") 1078, Value.str (Str.ofString "_law_is_right") 1079, Value.str (Str.ofString "/claim/cut.py") 1080, Value.int 339 0, Value.int 2 0, Value.int 0 0, Value.int 0 0, Value.int 3 0, Value.ref 710, Value.bool true, Value.int 181 0, Value.ref 711, Value.none, Value.ref 712, Value.ref 713, Value.ref 714, Value.int 1085 0, Value.int 339 0, Value.str (Str.ofString "/claim/cut.py") 1086]) #[]),
  (716, fnO (sf 60) "_law_is_right" "law_nt0210_01" 1024 715)]
noncomputable def as1 : List Addr := [3, 34, 35, 37, 38, 48, 49, 55, 56, 62, 63, 69, 70, 76, 77, 83, 84, 90, 91, 97, 98, 104, 105, 111, 112, 118, 119, 125, 126, 132, 133, 139, 140, 146, 147, 153, 154, 160, 161, 167, 168, 220, 221, 223, 224, 332, 333, 346, 347, 360, 361, 367, 368, 388, 389, 661, 662, 664, 665, 673, 674, 680, 681, 687, 688, 694, 695, 701, 702, 708, 709, 715, 716]
theorem as1_ok : ∀ P, as1 = (K1 P).map (·.1) := fun _ => rfl
noncomputable def loose1 : List Str := [Str.ofString "REACH", Str.ofString "to_exact_numkinds", Str.ofString "compare_numkinds"]
noncomputable def hlv1 : List (Str × WData) := [(Str.ofString "REACH", WData.int 65536)]
theorem run1_ok : ∀ w os, runG PySem.Challenge.pw_nt0210_01 q1 loose1 hlv1 PySem.Challenge.rw_nt0210_01.row.toRowW.records as1 8072 (boot_heap w.params) w (S0 w os) = dueG q1 loose1 (K1 w.params) := by
  rw [PySem.W.Fast.mRunG_eq, PySem.W.Fast.mDueG_eq]
  intro w os
  kernel_rfl
end Mine

end

section
open PySem PySem.W PySem.Spec PySem.Calls PyProof.Rows
set_option maxRecDepth 100000
set_option maxHeartbeats 8000000
namespace Mine
theorem left1 : LeftO PySem.Challenge.pw_nt0210_01 q1 loose1 (XtG q1 hlv1 PySem.Challenge.rw_nt0210_01.row.toRowW.records) (YfG as1) (YaG K1) 8072 :=
  left_of_run (boot_open (by kernel_rfl) (by kernel_rfl) (fun s => by kernel_rfl)) (fun w os => run1_ok w os)
theorem hd1 {d : DefRec} {kwd : List (Str × PySem.Expr)} (h1 : defOf q1 PySem.Challenge.rw_nt0210_01.row.name = some (d, kwd)) (h2 : PySem.Challenge.rw_nt0210_01.row.prog.theDef PySem.Challenge.rw_nt0210_01.row.name = some (d.params, d.body, d.scope))
    (h3 : kwWritten? d.params.kwonlyargs d.params.kw_defaults = some kwd)
    (hc : WalkO q1 loose1 (PySem.W.XL q1 hlv1) (kHook K1 as1 as1_ok).says PySem.Challenge.rw_nt0210_01.row.toRowW d kwd fun f vs => PySem.call f vs) : PySem.Challenge.rw_nt0210_01.Holds := by
  w_on
  refine holds_law (by rw [PySem.W.Fast.mSaid_eq]; kernel_rfl) fun said => ?_
  refine PySem.W.holds_open (q := q1) (loose := loose1) (Xt := XtG q1 hlv1 PySem.Challenge.rw_nt0210_01.row.toRowW.records) (XP := PySem.W.XL q1 hlv1) (Yf := YfG as1) (Ya := YaG K1) (YP := (kHook K1 as1 as1_ok).says) (N := 8072) left1 (Hook.of (kHook K1 as1 as1_ok)) (Hook.keeps (kHook K1 as1 as1_ok)) (fun s e => xl_of s (Bool.and_eq_true_iff.mp e).1) PySem.W.XL.keeps h1 h2 h3 (fun s e => recFacts_of (Bool.and_eq_true_iff.mp e).2) (by rfl) said (by decide +kernel) ⟨rfl, rfl, rfl, rfl, rfl, by decide +kernel⟩ ?hw hc
  case hw => w_witness2
end Mine

end

section
open PySem PySem.W PySem.Spec PySem.Calls PyProof.Rows
set_option maxRecDepth 100000
namespace Mine

structure TbD where
  G : List (Str × Value)
  mt : List (Nat × Nat)
  meth : List (Addr × Str × Addr)
  attr : List (Addr × Str)
  able : List Addr
  bi : List String
  ty : List String
  fn : List (Addr × FnI)
  cls : List (Addr × List Str)

noncomputable def methL : List (Addr × Str × Addr) → Addr → Str → Option Addr
  | [], _, _ => none
  | (c, n, f) :: r, c', n' => if c == c' && n == n' then some f else methL r c' n'
noncomputable def TbD.cx (d : TbD) : Cx where
  G := fun x => d.G.lookup x
  mt := fun p => d.mt.any fun q => q.1 == p.line && q.2 == p.col
  meth := methL d.meth
  attr := fun c a => d.attr.any fun q => q.1 == c && q.2 == a
  able := fun v => match v with
    | .ref a => d.able.contains a
    | .builtin i => d.bi.contains i
    | .type t => d.ty.contains t
    | _ => false
noncomputable def TbD.tab (d : TbD) : Tab where
  fn := fun a => d.fn.lookup a
  cls := fun a => d.cls.lookup a

noncomputable def gB (K : Frag) (p : Str × Value) : Bool := match p.2 with
  | .ref a => (match nsIn K mainGlobals p.1 with | some (some (.ref b)) => a == b | _ => false)
  | .builtin i => (match nsIn K mainGlobals p.1 with | some none => (match bootBuiltins p.1 with | some (.builtin j) => i == j && p.1 != "__name__" | _ => false) | _ => false)
  | .type i => (match nsIn K mainGlobals p.1 with | some none => (match bootBuiltins p.1 with | some (.type j) => i == j && p.1 != "__name__" | _ => false) | _ => false)
  | _ => false
noncomputable def methB (K : Frag) (p : Addr × Str × Addr) : Bool := plainGet K p.1 p.2.1 && ((match findIn K (.ref p.1) p.2.1 with | some (some (.ref f)) => f == p.2.2 | _ => false) && (isFn K (.ref p.2.2) && keepIn K (.ref p.2.2)))
noncomputable def attrB (K : Frag) (p : Addr × Str) : Bool := plainGet K p.1 p.2 && (hasDictIn K p.1 && (match findIn K (.ref p.1) p.2 with | some a => noGet K a | none => false))

theorem lookup_mem {α β : Type} [BEq α] [LawfulBEq α] : ∀ {l : List (α × β)} {x : α} {b : β}, l.lookup x = some b → (x, b) ∈ l
  | [], _, _, h => by cases h
  | (y, b') :: r, x, b, h => by
    rw [List.lookup_cons] at h
    cases q : x == y with
    | true =>
      rw [q] at h
      cases h
      rw [beq_iff_eq.mp q]
      exact .head _
    | false =>
      rw [q] at h
      exact .tail _ (lookup_mem h)
theorem methL_mem : ∀ {l : List (Addr × Str × Addr)} {c : Addr} {n : Str} {f : Addr}, methL l c n = some f → (c, n, f) ∈ l
  | [], _, _, _, h => by cases h
  | (c', n', f') :: r, c, n, f, h => by
    unfold methL at h
    split at h
    · rename_i q
      cases h
      rw [Bool.and_eq_true, beq_iff_eq, beq_iff_eq] at q
      rw [q.1, q.2]
      exact .head _
    · exact .tail _ (methL_mem h)

theorem gB_ok {K : Frag} {x : Str} {v : Value} (h : gB K (x, v) = true) : nsIn K mainGlobals x = some (some v) ∨ (nsIn K mainGlobals x = some none ∧ bootBuiltins x = some v ∧ x ≠ "__name__") := by
  unfold gB at h
  dsimp only at h
  split at h
  · split at h
    · rename_i e
      rw [beq_iff_eq] at h
      subst h
      exact .inl e
    · cases h
  · split at h
    · rename_i e1
      split at h
      · rename_i e2
        rw [Bool.and_eq_true, beq_iff_eq, bne_iff_ne] at h
        rw [h.1]
        exact .inr ⟨e1, e2, h.2⟩
      · cases h
    · cases h
  · split at h
    · rename_i e1
      split at h
      · rename_i e2
        rw [Bool.and_eq_true, beq_iff_eq, bne_iff_ne] at h
        rw [h.1]
        exact .inr ⟨e1, e2, h.2⟩
      · cases h
    · cases h
  · cases h

theorem TbD.cxOk {W : Wd} (d : TbD) (h1 : d.G.all (gB W.K) = true) (h2 : d.meth.all (methB W.K) = true) (h3 : d.attr.all (attrB W.K) = true) (h4 : (d.able.all fun a => keepIn W.K (.ref a)) = true) : CxOk W d.cx := by
  refine ⟨fun x v e => gB_ok (List.all_eq_true.mp h1 _ (lookup_mem e)), fun v e M h X => ?_, fun c n f e => ?_, fun c n e => ?_⟩
  · cases v with
    | ref a =>
      have e : d.able.contains a = true := e
      exact keeps_K (List.all_eq_true.mp h4 a (List.contains_iff_mem.mp e)) h X
    | builtin i => exact ⟨.machine, .inr (.inl rfl), Looks.of_pure rfl⟩
    | type t => exact ⟨.machine, .inr (.inl rfl), Looks.of_pure rfl⟩
    | _ => cases e
  · have := List.all_eq_true.mp h2 _ (methL_mem e)
    unfold methB at this
    obtain ⟨q1, this⟩ := Bool.and_eq_true_iff.mp this
    obtain ⟨q2, this⟩ := Bool.and_eq_true_iff.mp this
    obtain ⟨q3, q4⟩ := Bool.and_eq_true_iff.mp this
    refine ⟨q1, ?_, q3, q4⟩
    split at q2
    · rename_i e'
      rw [beq_iff_eq] at q2
      have q2 : _ = f := q2
      rw [← q2]; exact e'
    · cases q2
  · have e : (d.attr.any fun q => q.1 == c && q.2 == n) = true := e
    obtain ⟨q, hq, e⟩ := List.any_eq_true.mp e
    rw [Bool.and_eq_true, beq_iff_eq, beq_iff_eq] at e
    have := List.all_eq_true.mp h3 q hq
    unfold attrB at this
    rw [e.1, e.2] at this
    obtain ⟨q1, this⟩ := Bool.and_eq_true_iff.mp this
    obtain ⟨q2, q3⟩ := Bool.and_eq_true_iff.mp this
    refine ⟨q1, q2, ?_⟩
    split at q3
    · rename_i a e'
      exact ⟨a, e', q3⟩
    · cases q3

noncomputable def relB2 (K : Frag) (p : Addr × List Str) (q : Addr × List Str) : Bool := p.1 == q.1 || someB false (subIn K (.ref p.1) (.ref q.1))
theorem TbD.tabOk {W : Wd} (d : TbD) (h1 : ∀ p ∈ d.fn, fnIn W.K p.1 = some p.2) (h2 : ∀ p ∈ d.cls, clsInit W.K p.1 = some p.2) (h3 : (d.cls.all fun p => clsGood W.K p.1) = true) (h4 : (d.cls.all fun p => d.cls.all (relB2 W.K p)) = true) : TabOk W d.tab := by
  refine ⟨fun a f e => h1 (a, f) (lookup_mem e), fun c ns e => ⟨h2 (c, ns) (lookup_mem e), List.all_eq_true.mp h3 (c, ns) (lookup_mem e)⟩, fun c c' e e' hne => ?_⟩
  obtain ⟨ns, e⟩ := Option.isSome_iff_exists.mp e
  obtain ⟨ns', e'⟩ := Option.isSome_iff_exists.mp e'
  have := List.all_eq_true.mp (List.all_eq_true.mp h4 _ (lookup_mem e)) _ (lookup_mem e')
  unfold relB2 at this
  rcases Bool.or_eq_true_iff.mp this with q | q
  · exact absurd (beq_iff_eq.mp q) hne
  · exact someB_eq q

/-- the heap cut behind its last object -/
theorem get?_pop {h : Heap} {k : Nat} (hk : h.objs.size = k + 1) (hd : h.get? k = none) (b : Addr) : (⟨h.objs.pop, h.life⟩ : Heap).get? b = h.get? b := by
  by_cases q : b = k
  · subst q
    rw [hd]
    unfold Heap.get?
    have : (⟨h.objs.pop, h.life⟩ : Heap).objs[b]? = none := by
      show h.objs.pop[b]? = none
      rw [Array.getElem?_eq_none_iff, Array.size_pop, hk]
      exact Nat.le_refl _
    rw [this]
  · unfold Heap.get?
    have : (⟨h.objs.pop, h.life⟩ : Heap).objs[b]? = h.objs[b]? := by
      show h.objs.pop[b]? = h.objs[b]?
      rw [Array.getElem?_pop, hk]
      split
      · rfl
      · rename_i hb
        symm
        rw [Array.getElem?_eq_none_iff, hk]
        exact Nat.lt_of_le_of_ne (Nat.not_lt.mp hb) (fun z => q z.symm)
    rw [this]
theorem trim : ∀ (k : Nat) (h : Heap), h.objs.size = k → (∃ b o, h.get? b = some o) → ∃ h' : Heap, (∀ b, h'.get? b = h.get? b) ∧ (∃ o, h'.get? (h'.objs.size - 1) = some o) ∧ h'.objs.size ≤ h.objs.size
  | 0, h, hk, ⟨b, o, e⟩ => absurd (Heap.lt_size e) (by rw [hk]; exact Nat.not_lt_zero _)
  | k + 1, h, hk, he => by
    cases hd : h.get? k with
    | some o => exact ⟨h, fun _ => rfl, ⟨o, by rw [hk]; exact hd⟩, Nat.le_refl _⟩
    | none =>
      have hs : (⟨h.objs.pop, h.life⟩ : Heap).objs.size = k := by
        show h.objs.pop.size = k
        rw [Array.size_pop, hk]; rfl
      obtain ⟨b, o, e⟩ := he
      obtain ⟨h', a1, a2, a3⟩ := trim k ⟨h.objs.pop, h.life⟩ hs ⟨b, o, by rw [get?_pop hk hd]; exact e⟩
      exact ⟨h', fun b => (a1 b).trans (get?_pop hk hd b), a2, Nat.le_trans a3 (by rw [hs, hk]; exact Nat.le_succ _)⟩
end Mine

end

section
open PySem PySem.W PySem.Spec PySem.Calls PyProof.Rows
set_option maxRecDepth 100000
set_option maxHeartbeats 8000000
namespace Mine

noncomputable def fnS (s : Stmt) : FnI := match s with
  | .FunctionDef _ a b _ _ _ sc _ _ _ => ⟨a.args.map (·.arg), sc, b⟩
  | _ => ⟨[], default, []⟩
noncomputable def fi (i : Nat) : FnI := fnS (nthS PySem.Challenge.pw_nt0210_01.main.body i)
noncomputable def mi (i j : Nat) : FnI := fnS (clsS (nthS PySem.Challenge.pw_nt0210_01.main.body i) j)

noncomputable def gR (s : String) (a : Addr) : Str × Value := (Str.ofString s, .ref a)
noncomputable def gB1 (s : String) : Str × Value := (Str.ofString s, .builtin s)
noncomputable def gT (s : String) : Str × Value := (Str.ofString s, .type s)
noncomputable def fE (a : Addr) (f : FnI) : Addr × FnI := (a, f)
noncomputable def d1 : TbD where
  G := [gB1 "isinstance", gT "int", gB1 "abs", gT "range", gB1 "min", gT "bool",
    gR "Ratio" 38, gR "top_of" 63, gR "bottom_of" 70, gR "gcd_of" 77, gR "made" 84, gR "ratio_of" 91, gR "is_whole" 49, gR "is_exact" 56, gR "sign_of_exact" 98, gR "negate_exact" 105, gR "magnitude_exact" 112, gR "add_exact" 119, gR "subtract_exact" 126, gR "reciprocal_exact" 133, gR "compare_exact" 140, gR "is_equal_exact" 147, gR "floor_exact" 154, gR "simplest_above" 161, gR "simplest_between" 168,
    gR "Tower" 665, gR "Real" 224, gR "is_inexact" 333, gR "to_exact_numkinds" 347, gR "has_inexact" 361, gR "as_of" 368, gR "_law_deck" 674, gR "_law_draw" 681, gR "_law_exact" 688, gR "_law_pair" 695, gR "_law_tops" 702, gR "_law_simplest" 709, gR "_law_is_right" 716]
  mt := [(58, 12), (314, 11)]
  meth := [(665, Str.ofString "rationalize", 662)]
  attr := [(38, "top"), (38, "bottom"), (665, "precision")]
  able := [38, 63, 70, 77, 84, 91, 49, 56, 98, 105, 112, 119, 126, 133, 140, 147, 154, 161, 168, 665, 224, 333, 347, 361, 368, 674, 681, 688, 695, 702, 709, 716]
  bi := ["isinstance", "abs", "min"]
  ty := ["range"]
  fn := [fE 49 (fi 3), fE 56 (fi 4), fE 63 (fi 5), fE 70 (fi 6), fE 77 (fi 7), fE 84 (fi 8), fE 91 (fi 9), fE 98 (fi 10), fE 105 (fi 11), fE 112 (fi 12), fE 119 (fi 13), fE 126 (fi 14), fE 133 (fi 15), fE 140 (fi 16), fE 147 (fi 17), fE 154 (fi 18), fE 161 (fi 19), fE 168 (fi 20), fE 333 (fi 42), fE 347 (fi 44), fE 361 (fi 47), fE 368 (fi 48), fE 662 (mi 52 39), fE 674 (fi 54), fE 681 (fi 55), fE 688 (fi 56), fE 695 (fi 57), fE 702 (fi 58), fE 709 (fi 59), fE 716 (fi 60)]
  cls := [(38, ["top", "bottom"]), (224, ["mantissa", "exponent"]), (665, ["precision"])]

noncomputable abbrev C1 : Cx := d1.cx
noncomputable abbrev T1 : Tab := d1.tab

theorem cxOk1 {W : Wd} {p : Params} (hK : W.K = K1 p) : CxOk W C1 := by
  refine d1.cxOk ?_ ?_ ?_ ?_ <;> rw [hK] <;> kernel_rfl
theorem tabOk1 {W : Wd} {p : Params} (hK : W.K = K1 p) : TabOk W T1 := by
  refine d1.tabOk ?_ ?_ ?_ ?_ <;> rw [hK]
  · have h : ∀ q ∈ d1.fn, fnIn (K1 p) q.1 = some q.2 := by
      unfold d1
      dsimp only
      simp only [List.forall_mem_cons, List.not_mem_nil, false_implies, implies_true, and_true]
      refine ⟨?_, ?_, ?_, ?_, ?_, ?_, ?_, ?_, ?_, ?_, ?_, ?_, ?_, ?_, ?_, ?_, ?_, ?_, ?_, ?_, ?_, ?_, ?_, ?_, ?_, ?_, ?_, ?_, ?_, ?_⟩ <;> kernel_rfl
    exact h
  · unfold d1
    dsimp only
    simp only [List.forall_mem_cons, List.not_mem_nil, false_implies, implies_true, and_true]
    refine ⟨?_, ?_, ?_⟩ <;> kernel_rfl
  · kernel_rfl
  · kernel_rfl
end Mine

end

section
open PySem PySem.W PySem.Spec PySem.Calls PyProof.Rows
set_option maxRecDepth 100000
namespace Mine

theorem ints_reps {B : Addr → Prop} {h : Heap} {vs : List Value} {ns : List Int} (x : IntsAre vs ns) : Reps B h vs (ns.map V.int) := by
  induction x with
  | nil => trivial
  | cons n t _ ih => exact ⟨⟨t, rfl⟩, ih⟩

theorem Ok.po {α β : Type} {W : Wd} {Λ : List Addr} {X : Addr → Prop} {Rel : List Addr → Heap → β → α → Prop} {E : Value → Shared → Prop} {σ : List Addr} {s : Shared} {r : Out α} {P : α → Sto → Prop} {Q : β → Shared → Prop}
    (h : Ok r P (fun _ _ => False)) (k : ∀ a st', P a st' → Po W Λ X Rel E σ s (.ok a st') Q) : Po W Λ X Rel E σ s r Q := by
  cases r with
  | ok a st => exact k a st h
  | exc x st => exact h
  | stuck => exact h

theorem key {prog : Program} {w : World} {K : Frag} {p : Program} {loose : List Str} {mg mb : Str → Option Value} {h₀ : Heap} {m : Str → Option Value} {env : Env} {sc : Scope} {body : List Stmt} {C : Cx} {T : Tab} {ns : List Int} {a : Addr} {vs : List Value} {x : Str}
    {A : Around} {E : Value → Shared → Prop} {Q : Flow → Shared → Prop} {s : Shared} {n : Nat}
    (KX : K.In h₀) (TT : TopRead p loose mg mb h₀) (F : Fr h₀ h₀.objs.size s.heap m) (hL : h₀.IsList a vs.toArray) (hI : IntsAre vs ns)
    (hC : ∀ W : Wd, W.K = K → CxOk W C) (hT : ∀ W : Wd, W.K = K → TabOk W T)
    (e1 : env.scope = sc) (e2 : sc.kind = .function) (e3 : env.globals = mainGlobals) (e4 : env.builtins = builtinsNs) (e5 : env.locals = h₀.objs.size) (e6 : env.cells = []) (e7 : (sc.names.all fun x => x.2 != .cell && x.2 != .free) = true)
    (hm : m x = some (.ref a)) (hA1 : A.handled = none) (hA2 : A.depth + 2 * n + 2 < recursionLimit) (hA3 : A.units + 8 * n + 64 < cLine)
    (hlaw : Ok (exs ((Mine.X C (R C T n) 64).st sc) body [(x, .v (.lst (ns.map V.int)))] []) (fun p _ => p.1 = .ret (.v (.bool true))) (fun _ _ => False))
    (q : ∀ h' tk, (∀ b o, h₀.get? b = some o → h'.get? b = some o) → Q (.ret (.bool true)) { s with heap := h', toks := tk }) :
    wpAny (model prog w) A (execs body env) Q E s := by
  obtain ⟨ob, hob, hcls, nn, hdat⟩ := hL
  obtain ⟨base, b1, b2, b3⟩ := trim _ h₀ rfl ⟨a, ob, hob⟩
  let W : Wd := ⟨prog, w, K, base, p, loose, mg, mb, fun b o e => (b1 b).trans (KX b o e), TT.keeps fun b o e => (b1 b).trans e, b2⟩
  obtain ⟨oL, hoL⟩ := ns_obj F.ns
  have iv : Inv W [] [h₀.objs.size] s.heap [] := by
    refine ⟨fun b o e => F.keep b o ((b1 b).symm.trans e), fun b q => ?_, ⟨rfl, List.nodup_nil, fun i a l e => (nomatch e)⟩, fun a h => (nomatch h)⟩
    rcases q with q | q
    · cases q
    · rw [List.mem_singleton.mp q]
      exact ⟨b3, oL, hoL⟩
  have noc : ∀ x k, sc.names.lookup x = some k → k ≠ .cell ∧ k ≠ .free := fun x k e => by
    have := List.all_eq_true.mp e7 _ (mem_of_lookup e)
    simpa using this
  have hE : EnvOk [h₀.objs.size] sc env := by
    refine ⟨e2, e1, e3, e4, by rw [e5]; exact .head _, fun x c e => (by rw [e6] at e; cases e), fun x q => ?_⟩
    rcases q with q | q
    · exact absurd rfl (noc x _ q).1
    · exact absurd rfl (noc x _ q).2
  have hV : Vars [h₀.objs.size] sc env [(x, .v (.lst (ns.map V.int)))] [] s.heap := by
    refine ⟨m, by rw [e5]; exact F.ns, fun y d e => ⟨fun _ => ?_, fun q => ?_⟩⟩
    · rw [List.lookup_cons] at e
      cases z : y == x with
      | false => rw [z] at e; cases e
      | true =>
        rw [z] at e
        cases e
        rw [beq_iff_eq.mp z]
        refine ⟨.ref a, hm, ?_⟩
        show Rep _ _ _ _
        unfold Rep
        refine ⟨a, ob, vs, nn, rfl, fun q => ?_, F.keep a ob hob, hcls, hdat, ints_reps hI⟩
        rcases q with q | q
        · cases q
        · rw [List.mem_singleton.mp q, get_size] at hob; cases hob
    · rcases q with q | q
      · exact absurd rfl (noc y _ q).1
      · exact absurd rfl (noc y _ q).2
  have IS0 := (X_sound (W := W) (A := A) ⟨hA1, by omega⟩ (hC W rfl) (R_sound (hC W rfl) (hT W rfl) n A hA1 hA2 hA3) 64).2.2
  refine exs_sound hE hE.cin IS0 body _ E [] s [] Q iv hV (Ok.po hlaw fun pr st' hp => ?_)
  obtain ⟨fl, ρ'⟩ := pr
  have hp : fl = .ret (.v (.bool true)) := hp
  subst hp
  intro σ' h' tk b f k i r
  obtain ⟨r, _⟩ := r
  cases b with
  | ret v =>
    have r : v = .bool true := r
    subst r
    exact q h' tk fun b o e => i.keep b o ((b1 b).trans e)
  | _ => exact r.elim
end Mine

end

section
open PySem PySem.W PySem.Spec PySem.Calls PyProof.Rows
set_option maxRecDepth 100000
set_option maxHeartbeats 8000000
namespace Mine

theorem H1 (hlaw : ∀ ns : List Int, ns.length ≤ 63 → Ok (exs ((Mine.X C1 (R C1 T1 100) 64).st (fi 61).sc) (fi 61).body [(Str.ofString "script", .v (.lst (ns.map V.int)))] []) (fun p _ => p.1 = Fl.ret (.v (.bool true))) (fun _ _ => False)) :
    PySem.Challenge.rw_nt0210_01.Holds := hd1 (by rfl) (by rfl) (by rfl) (by
  k_go0
  all_goals (try k_fold)
  rename_i KX _ _ _ T _ _ _ _ _ _ _ _ _ _ _ _ _ _ _ _ _ _ _ _ _ _ _ _ _ _ _ hL _ _ _ hI _ hc _ _ _ h₁ F N0
  refine key (n := 100) (C := C1) (T := T1) (sc := (fi 61).sc) (x := Str.ofString "script") (by assumption) (topRead_of (by assumption)) F hL hI (fun W h => cxOk1 h) (fun W h => tabOk1 h) rfl rfl rfl rfl rfl rfl (by decide +kernel) rfl rfl (show callerA.depth + 1 + 2 * 100 + 2 < recursionLimit from by decide +kernel) (show callerA.units + 3 + 8 * 100 + 64 < cLine from by decide +kernel) (hlaw _ (by omega)) (fun h' tk hk => ?_)
  refine ⟨.inl ⟨.bool true, .bool true, [], rfl, fun _ => rfl, ?_, ?_, ?_⟩, hk, rfl, by assumption⟩
  · constructor
  · kernel_rfl
  · exact fun _ => ⟨List.nodup_nil, fun a h => nomatch h⟩)
end Mine

end

section
open PySem PySem.W
set_option maxRecDepth 100000
set_option maxHeartbeats 8000000
set_option exponentiation.threshold 20000
namespace Mine

section
variable {A B : Prop} {st : Sto} {E : V → Sto → Prop}
theorem br_true {t : Bool} (h : t = true) (a : A) : (t = true → A) ∧ (t = false → B) := ⟨fun _ => a, fun e => by rw [h] at e; cases e⟩
theorem br_false {t : Bool} (h : t = false) (b : B) : (t = true → A) ∧ (t = false → B) := ⟨fun e => (by rw [h] at e; cases e), fun _ => b⟩
theorem br_true' {t : Bool} (h : t = true) (a : A) : (t = false → B) ∧ (t = true → A) := ⟨fun e => (by rw [h] at e; cases e), fun _ => a⟩
theorem br_false' {t : Bool} (h : t = false) (b : B) : (t = false → B) ∧ (t = true → A) := ⟨fun _ => b, fun e => by rw [h] at e; cases e⟩
theorem br_dec {p : Prop} [Decidable p] (a : p → A) (b : ¬p → B) : (decide p = true → A) ∧ (decide p = false → B) := ⟨fun e => a (of_decide_eq_true e), fun e => b (of_decide_eq_false e)⟩
theorem br_dec' {p : Prop} [Decidable p] (a : p → A) (b : ¬p → B) : (decide p = false → B) ∧ (decide p = true → A) := ⟨fun e => b (of_decide_eq_false e), fun e => a (of_decide_eq_true e)⟩
theorem br_beq {x y : Int} (a : x = y → A) (b : x ≠ y → B) : ((x == y) = true → A) ∧ ((x == y) = false → B) := ⟨fun e => a (by simpa using e), fun e => b (by simpa using e)⟩
theorem br_beq' {x y : Int} (a : x = y → A) (b : x ≠ y → B) : ((x == y) = false → B) ∧ ((x == y) = true → A) := ⟨fun e => b (by simpa using e), fun e => a (by simpa using e)⟩
theorem br_bne {x y : Int} (a : x ≠ y → A) (b : x = y → B) : ((x != y) = true → A) ∧ ((x != y) = false → B) := ⟨fun e => a (by simpa using e), fun e => b (by simpa using e)⟩
theorem br_not {t : Bool} (h : (t = true → B) ∧ (t = false → A)) : ((!t) = true → A) ∧ ((!t) = false → B) := by cases t <;> simpa using h

theorem lf_mul {x y : Int} {Q : V → Prop} (h : mulOk x y = true) (q : Q (.int (x * y))) : ∃ v, binop .Mult (.v (.int x)) (.v (.int y)) = some v ∧ Q v := ⟨.int (x * y), by show (if mulOk x y = true then some (x * y) else none).map V.int = _; rw [if_pos h]; rfl, q⟩
theorem lf_div {x y : Int} {Q : V → Prop} (h : dvOk y = true) (q : Q (.int (x.fdiv y))) : ∃ v, binop .FloorDiv (.v (.int x)) (.v (.int y)) = some v ∧ Q v := ⟨.int (x.fdiv y), by show (if dvOk y = true then some (x.fdiv y) else none).map V.int = _; rw [if_pos h]; rfl, q⟩
theorem lf_mod {x y : Int} {Q : V → Prop} (h : y ≠ 0) (q : Q (.int (x.fmod y))) : ∃ v, binop .Mod (.v (.int x)) (.v (.int y)) = some v ∧ Q v := ⟨.int (x.fmod y), by show (if y = 0 then none else some (x.fmod y)).map V.int = _; rw [if_neg h]; rfl, q⟩
theorem lf_sub {x y : Int} {Q : V → Prop} (q : Q (.int (x - y))) : ∃ v, binop .Sub (.v (.int x)) (.v (.int y)) = some v ∧ Q v := ⟨_, rfl, q⟩
theorem lf_add {x y : Int} {Q : V → Prop} (q : Q (.int (x + y))) : ∃ v, binop .Add (.v (.int x)) (.v (.int y)) = some v ∧ Q v := ⟨_, rfl, q⟩

theorem c_abs {C : Cx} {T : Tab} {n : Nat} {i : Int} {Q : D → Sto → Prop} (q : Q (.v (.int (if i < 0 then -i else i))) st) : Ok (R C T (n + 1) (.v (.val (.builtin "abs"))) [.v (.int i)] st) Q E := q
theorem c_min {C : Cx} {T : Tab} {n : Nat} {i j : Int} {Q : D → Sto → Prop} (q : Q (.v (.int (if j < i then j else i))) st) : Ok (R C T (n + 1) (.v (.val (.builtin "min"))) [.v (.int i), .v (.int j)] st) Q E := q
theorem c_isint {C : Cx} {T : Tab} {n : Nat} {i : Int} {Q : D → Sto → Prop} (q : Q (.v (.bool true)) st) : Ok (R C T (n + 1) (.v (.val (.builtin "isinstance"))) [.v (.int i), .v (.val (.type "int"))] st) Q E := q
theorem c_isboolN {C : Cx} {T : Tab} {n : Nat} {i : Int} {Q : D → Sto → Prop} (q : Q (.v (.bool false)) st) : Ok (R C T (n + 1) (.v (.val (.builtin "isinstance"))) [.v (.int i), .v (.val (.type "bool"))] st) Q E := q
theorem c_iscN {C : Cx} {T : Tab} {n : Nat} {i : Int} {c : Addr} {Q : D → Sto → Prop} (h : (T.cls c).isSome = true) (q : Q (.v (.bool false)) st) : Ok (R C T (n + 1) (.v (.val (.builtin "isinstance"))) [.v (.int i), .v (.val (.ref c))] st) Q E := by
  show Ok (if (T.cls c).isSome then _ else _) Q E
  rw [if_pos h]; exact q
theorem c_isc {C : Cx} {T : Tab} {n : Nat} {c c' : Addr} {ns vs} {Q : D → Sto → Prop} (h : ((T.cls c).isSome && (T.cls c').isSome) = true) (q : Q (.v (.bool (c == c'))) st) : Ok (R C T (n + 1) (.v (.val (.builtin "isinstance"))) [.v (.inst c' ns vs), .v (.val (.ref c))] st) Q E := by
  show Ok (if (T.cls c).isSome && (T.cls c').isSome then _ else _) Q E
  rw [if_pos h]; exact q
theorem c_isiN {C : Cx} {T : Tab} {n : Nat} {c' : Addr} {ns vs} {Q : D → Sto → Prop} (h : (T.cls c').isSome = true) (q : Q (.v (.bool false)) st) : Ok (R C T (n + 1) (.v (.val (.builtin "isinstance"))) [.v (.inst c' ns vs), .v (.val (.type "int"))] st) Q E := by
  show Ok (if (T.cls c').isSome then _ else _) Q E
  rw [if_pos h]; exact q
theorem c_range1 {C : Cx} {T : Tab} {n : Nat} {b : Int} {Q : D → Sto → Prop} (h : b.natAbs < 2 ^ 20) (q : Q (.v (.rng 0 b)) st) : Ok (R C T (n + 1) (.v (.val (.type "range"))) [.v (.int b)] st) Q E := by
  show Ok (if b.natAbs < 2 ^ 20 then _ else _) Q E
  rw [if_pos h]; exact q
theorem c_range2 {C : Cx} {T : Tab} {n : Nat} {a b : Int} {Q : D → Sto → Prop} (h : a.natAbs < 2 ^ 20 ∧ b.natAbs < 2 ^ 20) (q : Q (.v (.rng a b)) st) : Ok (R C T (n + 1) (.v (.val (.type "range"))) [.v (.int a), .v (.int b)] st) Q E := by
  show Ok (if a.natAbs < 2 ^ 20 ∧ b.natAbs < 2 ^ 20 then _ else _) Q E
  rw [if_pos h]; exact q
end

theorem ends_v0 {Q : D → Sto → Prop} {ρ : En} {st : Sto} {x : V} (q : Q (.v x) st) : ends st.length Q (.ret (.v x), ρ) st := ends_v (by rw [List.take_length]; exact q)
theorem ends_va {Q : D → Sto → Prop} {ρ : En} {st e : Sto} {x : V} (q : Q (.v x) st) : ends st.length Q (.ret (.v x), ρ) (st ++ e) := ends_v (by rw [List.take_left]; exact q)

section
theorem lv1 {α : Type} {f : Option α} {Q : α → Prop} {v : α} (h : f = some v) (q : Q v) : ∃ v, f = some v ∧ Q v := ⟨v, h, q⟩
theorem lv2 {d : D} {able : Value → Bool} {Q : Value → Prop} {v : Value} (h : d = .v (.val v)) (h2 : able v = true) (q : Q v) : ∃ v, d = .v (.val v) ∧ able v = true ∧ Q v := ⟨v, h, h2, q⟩
theorem lv3 {d : D} {f : List V → Option En} {Q : En → Prop} {l : List V} {ρ : En} (h : d = .v (.tup l)) (h2 : f l = some ρ) (q : Q ρ) : ∃ l ρ', d = .v (.tup l) ∧ f l = some ρ' ∧ Q ρ' := ⟨l, ρ, h, h2, q⟩
theorem lv4 {d : D} {at_ : Addr → Bool} {lk : List Str → List V → Option V} {Q : V → Prop} {c : Addr} {ns : List Str} {vs : List V} {x : V} (h1 : d = .v (.inst c ns vs)) (h2 : at_ c = true) (h3 : lk ns vs = some x) (h4 : isVal x = false) (q : Q x) :
    ∃ c ns vs x, d = .v (.inst c ns vs) ∧ at_ c = true ∧ lk ns vs = some x ∧ isVal x = false ∧ Q x := ⟨c, ns, vs, x, h1, h2, h3, h4, q⟩
end

local macro_rules | `(tactic| walk_at "ev") => `(tactic| first
  | with_reducible refine ok_exs_cons ?_ | with_reducible refine ok_exs_nil ?_ | with_reducible refine after_next ?_ | with_reducible refine after_ret ?_ | with_reducible refine after_brk ?_ | with_reducible refine after_cont ?_
  | with_reducible refine again_next ?_ | with_reducible refine again_ret ?_ | with_reducible refine again_cont ?_ | with_reducible refine again_brk ?_
  | with_reducible refine ends_v0 ?_ | with_reducible refine ends_va ?_
  | ((with_reducible apply ex_name); · exact rfl) | with_reducible refine ex_int ?_ | ((with_reducible apply ex_call); · exact rfl) | with_reducible refine ex_bin ?_ | ((with_reducible apply ex_cmp); · exact rfl)
  | ((with_reducible apply ex_tuple); · exact rfl) | with_reducible refine ex_if ?_ | with_reducible refine ex_not ?_ | with_reducible refine ex_boolop ?_ | ((with_reducible apply ex_attr); · exact rfl) | ((with_reducible apply ex_sub); · exact rfl)
  | with_reducible refine ex_bool ?_ | with_reducible refine ex_none ?_ | with_reducible refine ex_str ?_
  | ((with_reducible apply ex_listF); (· exact rfl); · exact rfl) | ((with_reducible apply ex_listM); (· exact rfl); · exact rfl) | ((with_reducible apply ex_slice); (· exact rfl); · exact rfl)
  | with_reducible refine ok_evs_cons ?_ | with_reducible refine ok_evs_nil ?_ | with_reducible refine ok_chain_one ?_ | with_reducible refine ok_chain_more ?_ | with_reducible refine ok_boolV_and ?_ | with_reducible refine ok_boolV_or ?_ | with_reducible refine ok_boolV_one ?_
  | ((with_reducible apply tt_cmp); · exact rfl) | with_reducible refine tt_not ?_ | with_reducible refine tt_boolop ?_ | with_reducible refine tt_call ?_ | with_reducible refine tt_name ?_ | with_reducible refine tt_if ?_ | with_reducible refine tt_const ?_ | with_reducible refine tt_attr ?_
  | with_reducible refine ok_allT_and ?_ | with_reducible refine ok_allT_andN ?_ | with_reducible refine ok_allT_or ?_ | with_reducible refine ok_allT_orN ?_
  | with_reducible refine st_ret ?_ | ((with_reducible apply st_asg); (· exact rfl); · exact rfl) | ((with_reducible apply st_asgT); (· exact rfl); (· exact rfl); · exact rfl) | with_reducible refine st_if ?_ | ((with_reducible apply st_expr); · exact rfl) | with_reducible refine st_pass ?_ | with_reducible refine st_brk ?_ | with_reducible refine st_cont ?_ | ((with_reducible apply st_asgS); · exact rfl)
  | with_reducible refine c_abs ?_ | with_reducible refine c_min ?_ | with_reducible refine c_isint ?_ | with_reducible refine c_isboolN ?_ | ((with_reducible apply c_iscN); · exact rfl) | ((with_reducible apply c_isc); · exact rfl) | ((with_reducible apply c_isiN); · exact rfl)
  | with_reducible refine lf_sub ?_ | with_reducible refine lf_add ?_ | with_reducible refine lf_mul ?_ ?_ | with_reducible refine lf_div ?_ ?_ | with_reducible refine lf_mod ?_ ?_
  | ((with_reducible apply br_true); · exact rfl) | ((with_reducible apply br_false); · exact rfl) | ((with_reducible refine br_true' ?_ ?_); · exact rfl) | ((with_reducible refine br_false' ?_ ?_); · exact rfl)
  | with_reducible refine br_not ?_ | with_reducible refine br_dec (fun _ => ?_) (fun _ => ?_) | with_reducible refine br_beq (fun _ => ?_) (fun _ => ?_) | with_reducible refine br_bne (fun _ => ?_) (fun _ => ?_) | with_reducible refine br_dec' (fun _ => ?_) (fun _ => ?_) | with_reducible refine br_beq' (fun _ => ?_) (fun _ => ?_)
  | ((with_reducible apply lv1); · exact rfl) | ((with_reducible apply lv2); (· exact rfl); · exact rfl) | ((with_reducible apply lv3); (· exact rfl); · exact rfl) | ((with_reducible apply lv4); (· exact rfl); (· exact rfl); (· exact rfl); · exact rfl))

theorem c_made {n : Nat} {t b : Int} {st : Sto} {E : V → Sto → Prop} {Q : D → Sto → Prop} (q : Q (.v (if b = 1 then .int t else .inst 38 ["top", "bottom"] [.int t, .int b])) st) : Ok (R C1 T1 (n + 2) (.v (.val (.ref 84))) [.v (.int t), .v (.int b)] st) Q E := by
  refine ok_fn rfl (ok_run rfl (ok_exs_cons ?_))
  repeat' (walk_at "ev")
  · rename_i h; rw [if_pos h] at q; exact q
  · rename_i h
    rw [if_neg h] at q
    refine ok_cls rfl rfl rfl rfl ?_
    repeat' (walk_at "ev")
    exact q

noncomputable def mu (x y : Nat) : Nat := if y = 0 then 0 else Nat.log2 (x * y) + 2 + (if x < y then 1 else 0)
theorem log2_dbl {n m : Nat} (hn : 0 < n) (h : 2 * n ≤ m) : Nat.log2 n + 1 ≤ Nat.log2 m := by
  have h1 : 2 ^ (Nat.log2 n) ≤ n := Nat.log2_self_le (by omega)
  have h2 : m < 2 ^ (Nat.log2 m + 1) := Nat.lt_log2_self
  have h3 : 2 ^ (Nat.log2 n + 1) ≤ m := by rw [Nat.pow_succ]; omega
  exact (Nat.le_log2 (by omega)).mpr h3
theorem mu_step {x y : Nat} (hy : y ≠ 0) : mu y (x % y) < mu x y := by
  unfold mu
  rw [if_neg hy]
  by_cases hr : x % y = 0
  · rw [if_pos hr]; omega
  · rw [if_neg hr]
    have hlt : x % y < y := Nat.mod_lt _ (by omega)
    rw [if_neg (by omega)]
    by_cases hxy : x < y
    · rw [if_pos hxy, Nat.mod_eq_of_lt hxy, Nat.mul_comm y x]; omega
    · rw [if_neg hxy]
      have e := Nat.div_add_mod x y
      have q : 1 ≤ x / y := (Nat.one_le_div_iff (by omega)).mpr (by omega)
      have h2 : y + x % y ≤ x := by
        have : y * 1 ≤ y * (x / y) := Nat.mul_le_mul_left y q
        omega
      have h3 : 2 * (y * (x % y)) ≤ x * y := by
        have : (2 * (x % y)) * y ≤ x * y := Nat.mul_le_mul_right y (by omega)
        calc 2 * (y * (x % y)) = (2 * (x % y)) * y := by rw [Nat.mul_comm y, Nat.mul_assoc]
          _ ≤ x * y := this
      have h4 := log2_dbl (n := y * (x % y)) (Nat.mul_pos (by omega) (by omega)) h3
      omega

theorem iabs {a : Int} : (if a < 0 then -a else a) = (a.natAbs : Int) := by split <;> omega
theorem small_mu {x y : Nat} (hx : x < 2 ^ 10000) (hy : y < 2 ^ 10000) : mu x y < 20010 := by
  unfold mu
  split
  · omega
  · have h : x * y < 2 ^ 20000 := by
      calc x * y < 2 ^ 10000 * 2 ^ 10000 := Nat.mul_lt_mul'' hx hy
        _ = 2 ^ 20000 := by rw [← Nat.pow_add]
    have : Nat.log2 (x * y) < 20000 ∨ x * y = 0 := by
      by_cases z : x * y = 0
      · exact .inr z
      · exact .inl ((Nat.log2_lt z).mpr h)
    rcases this with h | h
    · split <;> omega
    · rw [h]
      have : Nat.log2 0 = 0 := by decide
      rw [this]
      split <;> omega

noncomputable def Bg (x : Int) : Prop := x.natAbs < 2 ^ 10000
theorem c_gcd {n : Nat} {a b : Int} {st : Sto} {E : V → Sto → Prop} {Q : D → Sto → Prop} (ha : Bg a) (hb : Bg b) (q : Q (.v (.int (Int.gcd a b))) st) : Ok (R C1 T1 (n + 2) (.v (.val (.ref 77))) [.v (.int a), .v (.int b)] st) Q E := by
  refine ok_fn rfl (ok_run rfl (ok_exs_cons ?_))
  repeat' (walk_at "ev")
  refine st_while (ok_while (fun k ρ st' => st' = st ∧ ∃ x y : Nat, k = mu x y ∧ Nat.gcd x y = Int.gcd a b ∧ ρ = [(Str.ofString "one", .v (.int x)), (Str.ofString "other", .v (.int y))]) (fun k ρ st' hI => ?_) (mu a.natAbs b.natAbs) _ _ _ ?_ ⟨rfl, a.natAbs, b.natAbs, rfl, rfl, ?_⟩)
  · obtain ⟨rfl, x, y, rfl, hg, rfl⟩ := hI
    repeat' (walk_at "ev")
    · assumption
    · rename_i hy
      have hy' : y ≠ 0 := fun z => hy (by rw [z]; rfl)
      refine ⟨_, mu_step hy', rfl, y, x % y, rfl, ?_, ?_⟩
      · rw [← hg, Nat.gcd_comm x y, Nat.gcd_rec y x, Nat.gcd_comm]
      · rw [Int.fmod_eq_emod_of_nonneg _ (Int.natCast_nonneg y)]; rfl
    · rename_i hy
      have hy' : y = 0 := Int.ofNat_eq_zero.mp hy
      subst hy'
      rw [Nat.gcd_zero_right] at hg
      rw [← hg] at q
      exact q
  · have := small_mu ha hb
    show _ < 1000000000
    omega
  · rw [← iabs, ← iabs]; rfl



noncomputable def nV (t b : Int) : V := if b = 1 then .int t else .inst 38 ["top", "bottom"] [.int t, .int b]

section
variable {n : Nat} {t b u c : Int} {st : Sto} {E : V → Sto → Prop} {Q : D → Sto → Prop}
theorem c_made' (q : Q (.v (nV t b)) st) : Ok (R C1 T1 (n + 2) (.v (.val (.ref 84))) [.v (.int t), .v (.int b)] st) Q E := c_made q
theorem c_top (q : Q (.v (.int t)) st) : Ok (R C1 T1 (n + 2) (.v (.val (.ref 63))) [.v (nV t b)] st) Q E := by
  unfold nV
  split
  all_goals
    refine ok_fn rfl (ok_run rfl (ok_exs_cons ?_))
    repeat' (walk_at "ev")
    exact q
theorem c_bot (q : Q (.v (.int b)) st) : Ok (R C1 T1 (n + 2) (.v (.val (.ref 70))) [.v (nV t b)] st) Q E := by
  unfold nV
  split
  all_goals
    refine ok_fn rfl (ok_run rfl (ok_exs_cons ?_))
    repeat' (walk_at "ev")
    first | exact q | (rename_i h; rw [h] at q; exact q)
theorem c_whole (q : Q (.v (.bool (decide (b = 1)))) st) : Ok (R C1 T1 (n + 2) (.v (.val (.ref 49))) [.v (nV t b)] st) Q E := by
  unfold nV
  split
  all_goals
    rename_i h
    refine ok_fn rfl (ok_run rfl (ok_exs_cons ?_))
    repeat' (walk_at "ev")
    simpa [h] using q
theorem c_exact (q : Q (.v (.bool true)) st) : Ok (R C1 T1 (n + 3) (.v (.val (.ref 56))) [.v (nV t b)] st) Q E := by
  refine ok_fn rfl (ok_run rfl (ok_exs_cons ?_))
  repeat' (walk_at "ev")
  refine c_whole ?_
  repeat' (walk_at "ev")
  · rename_i h
    rw [decide_eq_true h]
    exact q
  · rename_i h
    have e : nV t b = .inst 38 ["top", "bottom"] [.int t, .int b] := if_neg h
    rw [e]
    repeat' (walk_at "ev")
    exact q
end

local macro_rules | `(tactic| walk_at "ev") => `(tactic| first | with_reducible refine c_made' ?_ | with_reducible refine c_top ?_ | with_reducible refine c_bot ?_ | with_reducible refine c_whole ?_ | with_reducible refine c_exact ?_)

noncomputable def Sm (x : Int) : Prop := x.natAbs < 2 ^ 4000
theorem log_lt {x k : Nat} (h : x < 2 ^ k) (hk : 0 < k) : x.log2 < k := by
  by_cases z : x = 0
  · subst z
    have : Nat.log2 0 = 0 := by decide
    omega
  · exact (Nat.log2_lt z).mpr h
theorem small_of {x : Int} {k : Nat} (h : x.natAbs < 2 ^ k) (hk : 0 < k) (hk' : k ≤ 9000) : small x = true := by
  unfold small
  exact decide_eq_true (Nat.lt_of_lt_of_le (log_lt h hk) hk')
theorem mul_of {x y : Int} (hx : Sm x) (hy : Sm y) : mulOk x y = true := by
  unfold mulOk
  rw [small_of hx (by decide) (by decide), small_of hy (by decide) (by decide)]; rfl
theorem dv_of {x : Int} (h0 : x ≠ 0) (hx : Sm x) : dvOk x = true := by
  unfold dvOk
  rw [small_of hx (by decide) (by decide), decide_eq_true h0]; rfl
theorem Sm.of_le {x y : Int} (hy : Sm y) (h : x.natAbs ≤ y.natAbs) : Sm x := Nat.lt_of_le_of_lt h hy
theorem gcd_le {a b : Int} (hb : b ≠ 0) : Int.gcd a b ≤ b.natAbs := Nat.le_of_dvd (by omega) (Int.gcd_dvd_natAbs_right a b)
theorem gcd_pos' {a b : Int} (hb : b ≠ 0) : 0 < Int.gcd a b := Nat.pos_of_ne_zero fun h => hb (Int.gcd_eq_zero_iff.mp h).2
theorem Sm.big {x : Int} (h : Sm x) : Bg x := Nat.lt_trans h (Nat.pow_lt_pow_right (by decide) (by decide))
theorem fdiv_nat {a : Int} {g : Nat} : a.fdiv (g : Int) = a / (g : Int) := Int.fdiv_eq_ediv_of_nonneg _ (by omega)

section
variable {n : Nat} {t b u c : Int} {st : Sto} {E : V → Sto → Prop} {Q : D → Sto → Prop}
theorem c_ratio (ht : Sm t) (hb : Sm b) (h0 : 0 < b) (q : Q (.v (nV (t / Int.gcd t b) (b / Int.gcd t b))) st) : Ok (R C1 T1 (n + 3) (.v (.val (.ref 91))) [.v (.int t), .v (.int b)] st) Q E := by
  refine ok_fn rfl (ok_run rfl (ok_exs_cons ?_))
  repeat' (walk_at "ev")
  · omega
  · refine c_gcd ht.big hb.big ?_
    have hg := gcd_pos' (a := t) (b := b) (by omega)
    have hS : Sm (Int.gcd t b : Int) := hb.of_le (by have := gcd_le (a := t) (b := b) (by omega); omega)
    repeat' (walk_at "ev")
    · exact dv_of (by omega) hS
    · exact dv_of (by omega) hS
    · rw [fdiv_nat, fdiv_nat]; exact q
theorem sgn (x : Int) : b2i (decide (0 < x)) - b2i (decide (x < 0)) = x.sign := by
  rcases Int.lt_trichotomy x 0 with h | h | h
  · rw [Int.sign_eq_neg_one_of_neg h, decide_eq_true h, decide_eq_false (by omega)]; rfl
  · subst h; rfl
  · rw [Int.sign_eq_one_of_pos h, decide_eq_true h, decide_eq_false (by omega)]; rfl
theorem c_sign (q : Q (.v (.int t.sign)) st) : Ok (R C1 T1 (n + 3) (.v (.val (.ref 98))) [.v (nV t b)] st) Q E := by
  refine ok_fn rfl (ok_run rfl (ok_exs_cons ?_))
  repeat' (walk_at "ev")
  rw [sgn]; exact q
theorem c_neg (q : Q (.v (nV (-t) b)) st) : Ok (R C1 T1 (n + 3) (.v (.val (.ref 105))) [.v (nV t b)] st) Q E := by
  refine ok_fn rfl (ok_run rfl (ok_exs_cons ?_))
  repeat' (walk_at "ev")
  rw [Int.zero_sub]; exact q
theorem c_mag (q : Q (.v (nV t.natAbs b)) st) : Ok (R C1 T1 (n + 3) (.v (.val (.ref 112))) [.v (nV t b)] st) Q E := by
  refine ok_fn rfl (ok_run rfl (ok_exs_cons ?_))
  repeat' (walk_at "ev")
  rw [iabs]; exact q
theorem c_recip (h0 : 0 < t) (q : Q (.v (nV b t)) st) : Ok (R C1 T1 (n + 3) (.v (.val (.ref 133))) [.v (nV t b)] st) Q E := by
  refine ok_fn rfl (ok_run rfl (ok_exs_cons ?_))
  repeat' (walk_at "ev")
  · omega
  · exact q
theorem c_cmp (ht : Sm t) (hb : Sm b) (hu : Sm u) (hc : Sm c) (q : Q (.v (.int (t * c - u * b).sign)) st) : Ok (R C1 T1 (n + 3) (.v (.val (.ref 140))) [.v (nV t b), .v (nV u c)] st) Q E := by
  refine ok_fn rfl (ok_run rfl (ok_exs_cons ?_))
  repeat' (walk_at "ev")
  · exact mul_of ht hc
  · exact mul_of hu hb
  · have e : b2i (decide (u * b < t * c)) - b2i (decide (t * c < u * b)) = (t * c - u * b).sign := by
      rw [← sgn]
      congr 2 <;> rw [decide_eq_decide] <;> omega
    rw [e]; exact q
theorem c_eq (q : Q (.v (.bool (t == u && b == c))) st) : Ok (R C1 T1 (n + 3) (.v (.val (.ref 147))) [.v (nV t b), .v (nV u c)] st) Q E := by
  refine ok_fn rfl (ok_run rfl (ok_exs_cons ?_))
  repeat' (walk_at "ev")
  · rename_i h
    rw [h, beq_self_eq_true, Bool.true_and] at q; exact q
  · rename_i h
    rw [beq_false_of_ne h, Bool.false_and] at q; rw [beq_false_of_ne h]; exact q
theorem c_floor (h0 : b ≠ 0) (hb : Sm b) (q : Q (.v (.int (t.fdiv b))) st) : Ok (R C1 T1 (n + 3) (.v (.val (.ref 154))) [.v (nV t b)] st) Q E := by
  refine ok_fn rfl (ok_run rfl (ok_exs_cons ?_))
  repeat' (walk_at "ev")
  · exact dv_of h0 hb
  · exact q
noncomputable def addG (b c : Int) : Int := Int.gcd b c
noncomputable def addT (t b u c : Int) : Int := t * (c / addG b c) + u * (b / addG b c)
noncomputable def addS (t b u c : Int) : Int := Int.gcd (addT t b u c) (addG b c)
theorem div_le_nat {b : Int} {g : Nat} (h : 0 ≤ b) : (b / (g : Int)).natAbs ≤ b.natAbs := by
  have h1 := Int.ediv_le_self (g : Int) h
  have h2 := Int.ediv_nonneg h (Int.natCast_nonneg g)
  omega
theorem Sm.mul_lt {x y : Int} (hx : Sm x) (hy : Sm y) : (x * y).natAbs < 2 ^ 8000 := by
  unfold Sm at hx hy
  rw [Int.natAbs_mul]
  calc x.natAbs * y.natAbs < 2 ^ 4000 * 2 ^ 4000 := Nat.mul_lt_mul'' hx hy
    _ = 2 ^ 8000 := by rw [← Nat.pow_add]
theorem bg_add {x y : Int} (hx : x.natAbs < 2 ^ 8000) (hy : y.natAbs < 2 ^ 8000) : Bg (x + y) := by
  unfold Bg
  have h1 : (x + y).natAbs ≤ x.natAbs + y.natAbs := Int.natAbs_add_le x y
  have h2 : x.natAbs + y.natAbs < 2 ^ 8000 + 2 ^ 8000 := Nat.add_lt_add hx hy
  have h3 : (2 : Nat) ^ 8000 + 2 ^ 8000 ≤ 2 ^ 10000 := by
    rw [← Nat.two_mul, ← Nat.pow_succ']
    exact Nat.pow_le_pow_right (by decide) (by decide)
  exact Nat.lt_of_le_of_lt h1 (Nat.lt_of_lt_of_le h2 h3)
theorem c_add (ht : Sm t) (hb : Sm b) (hu : Sm u) (hc : Sm c) (h0 : 0 < b) (h1 : 0 < c) (q : Q (.v (nV (addT t b u c / addS t b u c) (b / addG b c * (c / addS t b u c)))) st) :
    Ok (R C1 T1 (n + 4) (.v (.val (.ref 119))) [.v (nV t b), .v (nV u c)] st) Q E := by
  have hg : 0 < Int.gcd b c := gcd_pos' (by omega)
  have Sg : Sm (Int.gcd b c : Int) := hc.of_le (by have := gcd_le (a := b) (b := c) (by omega); omega)
  have Sc : Sm (c.fdiv (Int.gcd b c : Int)) := hc.of_le (by rw [fdiv_nat]; exact div_le_nat (by omega))
  have Sb : Sm (b.fdiv (Int.gcd b c : Int)) := hb.of_le (by rw [fdiv_nat]; exact div_le_nat (by omega))
  have B1 : Bg (t * c.fdiv (Int.gcd b c : Int) + u * b.fdiv (Int.gcd b c : Int)) := bg_add (ht.mul_lt Sc) (hu.mul_lt Sb)
  have hs : 0 < Int.gcd (t * c.fdiv (Int.gcd b c : Int) + u * b.fdiv (Int.gcd b c : Int)) (Int.gcd b c : Int) := gcd_pos' (by omega)
  have Ss : Sm (Int.gcd (t * c.fdiv (Int.gcd b c : Int) + u * b.fdiv (Int.gcd b c : Int)) (Int.gcd b c : Int) : Int) := Sg.of_le (by have := gcd_le (a := t * c.fdiv (Int.gcd b c : Int) + u * b.fdiv (Int.gcd b c : Int)) (b := (Int.gcd b c : Int)) (by omega); omega)
  have Sc2 : Sm (c.fdiv (Int.gcd (t * c.fdiv (Int.gcd b c : Int) + u * b.fdiv (Int.gcd b c : Int)) (Int.gcd b c : Int) : Int)) := hc.of_le (by rw [fdiv_nat]; exact div_le_nat (by omega))
  have q' : Q (.v (nV ((t * c.fdiv (Int.gcd b c : Int) + u * b.fdiv (Int.gcd b c : Int)).fdiv (Int.gcd (t * c.fdiv (Int.gcd b c : Int) + u * b.fdiv (Int.gcd b c : Int)) (Int.gcd b c : Int) : Int)) (b.fdiv (Int.gcd b c : Int) * c.fdiv (Int.gcd (t * c.fdiv (Int.gcd b c : Int) + u * b.fdiv (Int.gcd b c : Int)) (Int.gcd b c : Int) : Int)))) st := by
    have e : addS t b u c = (Int.gcd (addT t b u c) (Int.gcd b c : Int) : Int) := rfl
    rw [e] at q
    unfold addT addG at q
    simp only [fdiv_nat]
    exact q
  have hgi : (Int.gcd b c : Int) ≠ 0 := by omega
  have hsi : (Int.gcd (t * c.fdiv (Int.gcd b c : Int) + u * b.fdiv (Int.gcd b c : Int)) (Int.gcd b c : Int) : Int) ≠ 0 := by omega
  refine ok_fn rfl (ok_run rfl (ok_exs_cons ?_))
  repeat' (walk_at "ev")
  · rename_i hb1 hc1
    subst hb1 hc1
    refine ⟨.int (t + u), rfl, ?_⟩
    repeat' (walk_at "ev")
    have e : nV (addT t 1 u 1 / addS t 1 u 1) (1 / addG 1 1 * (1 / addS t 1 u 1)) = .int (t + u) := by
      have e1 : addG 1 1 = 1 := by decide
      have e2 : addT t 1 u 1 = t + u := by unfold addT; rw [e1]; simp
      have e3 : addS t 1 u 1 = 1 := by unfold addS; rw [e1, Int.gcd_one]; rfl
      rw [e1, e2, e3]; simp [nV]
    rw [e] at q
    exact q
  all_goals
    refine c_gcd hb.big hc.big ?_
    repeat' (walk_at "ev")
    any_goals exact dv_of hgi Sg
    · exact mul_of ht Sc
    · exact mul_of hu Sb
    · refine c_gcd B1 Sg.big ?_
      repeat' (walk_at "ev")
      any_goals (first | exact dv_of hsi Ss | exact dv_of hgi Sg)
      · exact mul_of Sb Sc2
      · exact q'
theorem c_sub (ht : Sm t) (hb : Sm b) (hu : Sm u) (hc : Sm c) (h0 : 0 < b) (h1 : 0 < c) (q : Q (.v (nV (addT t b (-u) c / addS t b (-u) c) (b / addG b c * (c / addS t b (-u) c)))) st) :
    Ok (R C1 T1 (n + 5) (.v (.val (.ref 126))) [.v (nV t b), .v (nV u c)] st) Q E := by
  refine ok_fn rfl (ok_run rfl (ok_exs_cons ?_))
  repeat' (walk_at "ev")
  refine c_neg ?_
  repeat' (walk_at "ev")
  refine c_add ht hb (by unfold Sm at hu ⊢; rw [Int.natAbs_neg]; exact hu) hc h0 h1 ?_
  repeat' (walk_at "ev")
  exact q
end



local macro_rules | `(tactic| walk_at "ev") => `(tactic| first
  | with_reducible refine c_made' ?_ | with_reducible refine c_top ?_ | with_reducible refine c_bot ?_ | with_reducible refine c_whole ?_ | with_reducible refine c_exact ?_
  | with_reducible refine c_sign ?_ | with_reducible refine c_neg ?_ | with_reducible refine c_mag ?_ | with_reducible refine c_eq ?_)


theorem dats_ints : ∀ l : List Int, V.dats (l.map V.int) = some (l.map PyData.int)
  | [] => rfl
  | x :: r => by
    rw [List.map_cons, List.map_cons, V.dats, dats_ints r]
    rfl
theorem can_ints : ∀ l : List Int, PyData.canLayAll0 (l.map PyData.int) = true
  | [] => rfl
  | x :: r => by
    rw [List.map_cons, PyData.canLayAll0, can_ints r]; rfl
theorem depth_ints : ∀ l : List Int, PyData.depthAll (l.map PyData.int) = 0
  | [] => rfl
  | x :: r => by
    rw [List.map_cons, PyData.depthAll, depth_ints r]; rfl
theorem shaped_ints (l : List Int) : SeqAt.shaped (.list (l.map PyData.int)) = true := by
  unfold SeqAt.shaped
  rw [PyData.canLay0, can_ints, PyData.depth, depth_ints]; rfl
theorem eqv_nil (l : List Int) : PyData.eqv (.list (l.map PyData.int)) (.list []) = l.isEmpty := by
  cases l <;> rfl
theorem dat_m {st : Sto} {i : Nat} {l : List Int} (h : st[i]? = some (l.map V.int)) : D.dat st (.m i) = some (.list (l.map PyData.int)) := by
  show (match st[i]? with | some l => (V.dats l).map PyData.list | Option.none => Option.none) = _
  rw [h]
  show (V.dats (l.map V.int)).map PyData.list = _
  rw [dats_ints]; rfl
theorem eqD_nil {st : Sto} {i : Nat} {l : List Int} (h : st[i]? = some (l.map V.int)) : eqD (.m i) (.v (.lst [])) st = some l.isEmpty := by
  unfold eqD
  rw [dat_m h]
  show (if SeqAt.shaped (.list (l.map PyData.int)) && SeqAt.shaped (.list []) then some (PyData.eqv (.list (l.map PyData.int)) (.list [])) else none) = _
  rw [shaped_ints, eqv_nil]; rfl
theorem lv_ne {st : Sto} {i : Nat} {l : List Int} {Q : Bool → Prop} (h : st[i]? = some (l.map V.int)) (q : Q (!l.isEmpty)) : ∃ c, cmp .NotEq (.m i) (.v (.lst [])) st = some c ∧ Q c :=
  ⟨_, by show (eqD (.m i) (.v (.lst [])) st).map not = _; rw [eqD_nil h]; rfl, q⟩
theorem lv_eq {st : Sto} {i : Nat} {l : List Int} {Q : Bool → Prop} (h : st[i]? = some (l.map V.int)) (q : Q l.isEmpty) : ∃ c, cmp .Eq (.m i) (.v (.lst [])) st = some c ∧ Q c :=
  ⟨_, by show eqD (.m i) (.v (.lst [])) st = _; rw [eqD_nil h], q⟩
theorem at_end {st : Sto} {l : List V} : (st ++ [l])[st.length]? = some l := by rw [List.getElem?_append_right (Nat.le_refl _), Nat.sub_self]; rfl
theorem set_end {st : Sto} {l l' : List V} : (st ++ [l]).set st.length l' = st ++ [l'] := by rw [List.set_append_right _ _ (Nat.le_refl _), Nat.sub_self]; rfl
theorem lm_append {st : Sto} {l : List V} {x : V} {Q : D → Sto → Prop} {E : V → Sto → Prop} (h : szOk l.length = true) (q : Q (.v .none) (st ++ [l ++ [x]])) : Ok (listM (Str.ofString "append") st.length [.v x] (st ++ [l])) Q E := by
  unfold listM
  rw [at_end]
  show Ok (if szOk l.length then Out.ok (.v .none) ((st ++ [l]).set st.length (l ++ [x])) else .stuck) Q E
  rw [if_pos h, set_end]
  exact q
theorem lm_pop {st : Sto} {l : List V} {x : V} {Q : D → Sto → Prop} {E : V → Sto → Prop} (q : Q (.v x) (st ++ [l])) : Ok (listM (Str.ofString "pop") st.length [] (st ++ [l ++ [x]])) Q E := by
  unfold listM
  rw [at_end]
  show Ok (match (l ++ [x]).getLast? with
        | some y => Out.ok (.v y) ((st ++ [l ++ [x]]).set st.length (l ++ [x]).dropLast)
        | Option.none => .stuck) Q E
  rw [List.getLast?_append, set_end, List.dropLast_concat]
  exact q
theorem lm_pop0 {st : Sto} {i : Nat} {l : List V} {x : V} {Q : D → Sto → Prop} {E : V → Sto → Prop} (h : st[i]? = some (x :: l)) (q : Q (.v x) (st.set i l)) : Ok (listM (Str.ofString "pop") i [.v (.int 0)] st) Q E := by
  unfold listM
  rw [h]
  exact q

/-- the simplest number of an interval of positive ones -/
structure IsSimp (tl bl th bh p q : Int) : Prop where
  p0 : 0 < p
  q0 : 0 < q
  low : tl * q ≤ p * bl
  high : p * bh ≤ th * q
  least : ∀ a b, 0 < a → 0 < b → tl * b ≤ a * bl → a * bh ≤ th * b → p ≤ a ∧ q ≤ b

theorem simp_int {tl th bh : Int} (h0 : 0 < tl) (hb : 0 < bh) (hle : tl * bh ≤ th) : IsSimp tl 1 th bh tl 1 := by
  refine ⟨h0, by decide, by omega, by omega, fun a b ha hb' h1 h2 => ⟨?_, by omega⟩⟩
  have : tl * 1 ≤ tl * b := Int.mul_le_mul_of_nonneg_left (by omega) (by omega)
  omega
theorem simp_up {tl bl th bh : Int} (h0 : 0 < tl) (hbl : 0 < bl) (hbh : 0 < bh) (hni : tl % bl ≠ 0) (hle : tl * bh ≤ th * bl) (hw : tl / bl ≠ th / bh) : IsSimp tl bl th bh (tl / bl + 1) 1 := by
  have e1 := Int.mul_ediv_add_emod tl bl
  have m1 := Int.emod_nonneg tl (show bl ≠ 0 by omega)
  have m2 := Int.emod_lt_of_pos tl hbl
  have e2 := Int.mul_ediv_add_emod th bh
  have m3 := Int.emod_nonneg th (show bh ≠ 0 by omega)
  have m4 := Int.emod_lt_of_pos th hbh
  have w0 : 0 ≤ tl / bl := Int.ediv_nonneg (by omega) (by omega)
  generalize hwl : tl / bl = w at *
  generalize hwh : th / bh = v at *
  generalize tl % bl = r at *
  generalize th % bh = s at *
  have hwv : w < v := by
    rcases Int.lt_or_gt_of_ne hw with h | h
    · exact h
    · exfalso
      have a1 : (v + 1) * (bh * bl) ≤ w * (bh * bl) := Int.mul_le_mul_of_nonneg_right (by omega) (Int.mul_nonneg (by omega) (by omega))
      have a2 : tl * bh = w * (bh * bl) + r * bh := by rw [← e1]; grind
      have a3 : th * bl = v * (bh * bl) + s * bl := by rw [← e2]; grind
      have a4 : s * bl < bh * bl := Int.mul_lt_mul_of_pos_right (by omega) hbl
      have a5 : 0 ≤ r * bh := Int.mul_nonneg (by omega) (by omega)
      have a6 : (v + 1) * (bh * bl) = v * (bh * bl) + bh * bl := by grind
      omega
  refine ⟨by omega, by decide, ?_, ?_, fun a b ha hb h1 h2 => ⟨?_, by omega⟩⟩
  · have : (w + 1) * bl = bl * w + bl := by grind
    omega
  · have a1 : (w + 1) * bh ≤ v * bh := Int.mul_le_mul_of_nonneg_right (by omega) (by omega)
    have a2 : v * bh = bh * v := Int.mul_comm _ _
    omega
  · -- a/b ≥ tl/bl > w
    have r0 : 0 < r := by omega
    have a1 : (bl * w + r) * b ≤ a * bl := by rw [e1]; exact h1
    have a2 : 0 < r * b := Int.mul_pos r0 hb
    have a3 : w * b * bl < a * bl := by
      have : (bl * w + r) * b = w * b * bl + r * b := by grind
      omega
    have a4 : w * b < a := Int.lt_of_mul_lt_mul_right a3 (by omega)
    have a5 : w * 1 ≤ w * b := Int.mul_le_mul_of_nonneg_left (by omega) (by omega)
    omega
theorem simp_step {tl bl th bh p q w : Int} (h0 : 0 < tl) (hbl : 0 < bl) (hbh : 0 < bh) (hw : 0 ≤ w) (hl : w * bl < tl) (hl2 : tl < (w + 1) * bl) (hh : w * bh < th) (hh2 : th < (w + 1) * bh)
    (S : IsSimp bh (th - w * bh) bl (tl - w * bl) p q) : IsSimp tl bl th bh (w * p + q) p := by
  have wp : 0 ≤ w * p := Int.mul_nonneg hw (by have := S.p0; omega)
  refine ⟨by have := S.q0; omega, S.p0, ?_, ?_, fun a b ha hb h1 h2 => ?_⟩
  · have := S.high
    have e : (w * p + q) * bl = w * bl * p + bl * q := by grind
    have e2 : p * (tl - w * bl) = tl * p - w * bl * p := by grind
    omega
  · have := S.low
    have e : (w * p + q) * bh = w * bh * p + bh * q := by grind
    have e2 : p * (th - w * bh) = th * p - w * bh * p := by grind
    omega
  · have a1 : 0 < a - w * b := by
      have x1 : w * bl * b < tl * b := Int.mul_lt_mul_of_pos_right hl hb
      have x2 : w * b * bl < a * bl := by
        have : w * bl * b = w * b * bl := by grind
        omega
      have := Int.lt_of_mul_lt_mul_right x2 (by omega)
      omega
    obtain ⟨y1, y2⟩ := S.least b (a - w * b) hb a1 (by
      have e : b * (th - w * bh) = th * b - w * b * bh := by grind
      have e2 : bh * (a - w * b) = a * bh - w * b * bh := by grind
      omega) (by
      have e : b * (tl - w * bl) = tl * b - w * b * bl := by grind
      have e2 : bl * (a - w * b) = a * bl - w * b * bl := by grind
      omega)
    refine ⟨?_, y1⟩
    have : w * p ≤ w * b := Int.mul_le_mul_of_nonneg_left y1 hw
    omega

noncomputable def unw (ws : List Int) (x : Int × Int) : Int × Int := ws.foldr (fun w x => (w * x.1 + x.2, x.1)) x
theorem unw_snoc {ws : List Int} {w : Int} {x : Int × Int} : unw (ws ++ [w]) x = unw ws (w * x.1 + x.2, x.1) := by
  unfold unw
  rw [List.foldr_append]; rfl





section
variable {n : Nat} {t b u c : Int} {st : Sto} {E : V → Sto → Prop} {Q : D → Sto → Prop}
noncomputable def Lo (x : Int) : Prop := -10000000000000 ≤ x ∧ x ≤ 10000000000000
theorem Lo.sm {x : Int} (h : Lo x) : Sm x := by
  unfold Lo at h
  unfold Sm
  have h1 : x.natAbs < 2 ^ 60 := by
    have : (2 : Nat) ^ 60 = 1152921504606846976 := by decide
    omega
  exact Nat.lt_of_lt_of_le h1 (Nat.pow_le_pow_right (by decide) (by decide))
theorem c_eqI (q : Q (.v (.bool (u == t && 1 == b))) st) : Ok (R C1 T1 (n + 3) (.v (.val (.ref 147))) [.v (.int u), .v (nV t b)] st) Q E := by
  have : V.int u = nV u 1 := rfl
  rw [this]
  exact c_eq q
theorem gcd_one_l (b : Int) : Int.gcd 1 b = 1 := Int.one_gcd
theorem c_addI (hu : Sm u) (ht : Sm t) (hb : Sm b) (h0 : 0 < b) (q : Q (.v (nV (u * b + t) b)) st) : Ok (R C1 T1 (n + 4) (.v (.val (.ref 119))) [.v (.int u), .v (nV t b)] st) Q E := by
  have : V.int u = nV u 1 := rfl
  rw [this]
  refine c_add hu (Lo.sm (by unfold Lo; omega)) ht hb (by decide) h0 ?_
  have e1 : addG 1 b = 1 := by unfold addG; rw [Int.one_gcd]; rfl
  have e2 : addT u 1 t b = u * b + t := by unfold addT; rw [e1]; simp
  have e3 : addS u 1 t b = 1 := by unfold addS; rw [e1, Int.gcd_one]; rfl
  rw [e1, e2, e3]
  simpa using q
theorem c_subI (ht : Sm t) (hb : Sm b) (hu : Sm u) (h0 : 0 < b) (q : Q (.v (nV (t - u * b) b)) st) : Ok (R C1 T1 (n + 5) (.v (.val (.ref 126))) [.v (nV t b), .v (.int u)] st) Q E := by
  have : V.int u = nV u 1 := rfl
  rw [this]
  refine c_sub ht hb hu (Lo.sm (by unfold Lo; omega)) h0 (by decide) ?_
  have e1 : addG b 1 = 1 := by unfold addG; rw [Int.gcd_one]; rfl
  have e2 : addT t b (-u) 1 = t - u * b := by unfold addT; rw [e1]; simp [Int.sub_eq_add_neg, Int.neg_mul]
  have e3 : addS t b (-u) 1 = 1 := by unfold addS; rw [e1, Int.gcd_one]; rfl
  rw [e1, e2, e3]
  simpa using q

theorem unw_sum : ∀ {ws : List Int} {x : Int × Int}, (∀ w ∈ ws, 0 ≤ w) → 0 < x.1 → 0 < x.2 → 0 < (unw ws x).1 ∧ 0 < (unw ws x).2 ∧ x.1 + x.2 ≤ (unw ws x).1 + (unw ws x).2
  | [], x, _, h1, h2 => ⟨h1, h2, Int.le_refl _⟩
  | w :: ws, x, h, h1, h2 => by
    obtain ⟨a, b, c⟩ := unw_sum (ws := ws) (x := x) (fun w hw => h w (.tail _ hw)) h1 h2
    have hw := h w (.head _)
    have e : unw (w :: ws) x = (w * (unw ws x).1 + (unw ws x).2, (unw ws x).1) := rfl
    rw [e]
    have : 0 ≤ w * (unw ws x).1 := Int.mul_nonneg hw (by omega)
    dsimp only
    omega

structure Iv (tl bl th bh : Int) : Prop where
  t0 : 0 < tl
  l0 : 0 < bl
  h0 : 0 < bh
  th0 : 0 < th
  le : tl * bh ≤ th * bl
  g1 : Int.gcd tl bl = 1
  g2 : Int.gcd th bh = 1
  m1 : tl ≤ 1000000000000
  m2 : bl ≤ 1000000000000
  m3 : th ≤ 1000000000000
  m4 : bh ≤ 1000000000000

theorem Iv.next {tl bl th bh w : Int} (I : Iv tl bl th bh) (hw : w = tl / bl) (hw2 : w = th / bh) (hne : ¬ (w = tl ∧ 1 = bl)) :
    Iv bh (th - w * bh) bl (tl - w * bl) ∧ 0 ≤ w ∧ w ≤ 1000000000000 ∧ w * bl < tl ∧ tl < (w + 1) * bl ∧ w * bh < th ∧ th < (w + 1) * bh ∧ th - w * bh < bh ∧ tl - w * bl < bl := by
  have e1 := Int.mul_ediv_add_emod tl bl
  have m1 := Int.emod_nonneg tl (show bl ≠ 0 by have := I.l0; omega)
  have m2 := Int.emod_lt_of_pos tl I.l0
  have e2 := Int.mul_ediv_add_emod th bh
  have m3 := Int.emod_nonneg th (show bh ≠ 0 by have := I.h0; omega)
  have m4 := Int.emod_lt_of_pos th I.h0
  have w0 : 0 ≤ w := by rw [hw]; exact Int.ediv_nonneg (by have := I.t0; omega) (by have := I.l0; omega)
  have wm : w ≤ tl := by rw [hw]; exact Int.ediv_le_self _ (by have := I.t0; omega)
  rw [← hw] at e1
  rw [← hw2] at e2
  have hr : tl % bl ≠ 0 := fun hz => by
    rw [hz, Int.add_zero] at e1
    have hd : bl ∣ tl := ⟨w, e1.symm⟩
    have : Int.gcd tl bl = bl.natAbs := Int.gcd_eq_natAbs_right hd
    have hbl : bl = 1 := by have := I.g1; have := I.l0; omega
    exact hne ⟨by rw [hbl, Int.one_mul] at e1; exact e1, hbl.symm⟩
  have c1 : bl * w = w * bl := Int.mul_comm _ _
  have c2 : bh * w = w * bh := Int.mul_comm _ _
  have x1 : (w + 1) * bl = w * bl + bl := by grind
  have x2 : (w + 1) * bh = w * bh + bh := by grind
  have l1 : w * bl < tl := by omega
  have l2 : w * bh < th := by
    -- low > w, so high > w
    have y1 : w * bl * bh < tl * bh := Int.mul_lt_mul_of_pos_right l1 I.h0
    have y2 : w * bh * bl < th * bl := by
      have : w * bl * bh = w * bh * bl := by grind
      have := I.le
      omega
    exact Int.lt_of_mul_lt_mul_right y2 (by have := I.l0; omega)
  refine ⟨⟨I.h0, by omega, by omega, I.l0, ?_, ?_, ?_, I.m4, by have := I.m4; omega, I.m2, by have := I.m2; omega⟩, w0, by have := I.m1; omega, l1, by omega, l2, by omega, by omega, by omega⟩
  · have z1 : bh * (tl - w * bl) = tl * bh - w * bl * bh := by grind
    have z2 : bl * (th - w * bh) = th * bl - w * bl * bh := by grind
    have := I.le
    omega
  · rw [Int.gcd_comm, Int.gcd_sub_mul_right_left]
    exact I.g2
  · rw [Int.gcd_comm, Int.gcd_sub_mul_right_left]
    exact I.g1

theorem Iv.exit {tl bl th bh : Int} (I : Iv tl bl th bh) (hne : ¬ (tl / bl = tl ∧ 1 = bl)) (hw : tl / bl ≠ th / bh) : IsSimp tl bl th bh (tl / bl + 1) 1 := by
  refine simp_up I.t0 I.l0 I.h0 (fun hz => ?_) I.le hw
  have e1 := Int.mul_ediv_add_emod tl bl
  rw [hz, Int.add_zero] at e1
  have hd : bl ∣ tl := ⟨tl / bl, e1.symm⟩
  have : Int.gcd tl bl = bl.natAbs := Int.gcd_eq_natAbs_right hd
  have hbl : bl = 1 := by have := I.g1; have := I.l0; omega
  exact hne ⟨by rw [hbl, Int.ediv_one], hbl.symm⟩

noncomputable def ρA (tl bl th bh w : Int) (i : Nat) : En := [(Str.ofString "low", .v (nV tl bl)), (Str.ofString "high", .v (nV th bh)), (Str.ofString "ahead", .m i), (Str.ofString "whole", .v (.int w))]


noncomputable def JA (tl bl th bh : Int) (st : Sto) (ws : List Int) (tl' bl' th' bh' : Int) (ρ : En) (st' : Sto) : Prop :=
  ρ = ρA tl' bl' th' bh' (tl' / bl') st.length ∧ st' = st ++ [ws.map V.int] ∧ Iv tl' bl' th' bh' ∧ (ws.length : Int) + bl' + bh' ≤ 1000000 ∧ (∀ w ∈ ws, 0 ≤ w ∧ w ≤ 1000000000000) ∧
      (∀ p r, IsSimp tl' bl' th' bh' p r → IsSimp tl bl th bh (unw ws (p, r)).1 (unw ws (p, r)).2)
noncomputable def IA (tl bl th bh : Int) (st : Sto) (k : Nat) (ρ : En) (st' : Sto) : Prop := ∃ ws tl' bl' th' bh', k = (bl' + bh').toNat ∧ JA tl bl th bh st ws tl' bl' th' bh' ρ st'
noncomputable def QA (tl bl th bh : Int) (st : Sto) (p : Fl × En) (st' : Sto) : Prop := p.1 = .next ∧ ∃ ws tl' bl' th' bh', JA tl bl th bh st ws tl' bl' th' bh' p.2 st' ∧ ((tl' / bl' = tl' ∧ 1 = bl') ∨ (¬ (tl' / bl' = tl' ∧ 1 = bl') ∧ tl' / bl' ≠ th' / bh'))
theorem br_any {A B : Prop} {t : Bool} (a : t = true → A) (b : t = false → B) : (t = true → A) ∧ (t = false → B) := ⟨a, b⟩


noncomputable def ρB (lo hi : V) (i : Nat) (w f : V) : En := [(Str.ofString "low", .v lo), (Str.ofString "high", .v hi), (Str.ofString "ahead", .m i), (Str.ofString "whole", .v w), (Str.ofString "found", .v f)]
noncomputable def IB (lo hi w0 : V) (st : Sto) (P R : Int) (k : Nat) (ρ : En) (st' : Sto) : Prop :=
  ∃ ws p r, k = ws.length ∧ ρ = ρB lo hi st.length w0 (nV p r) ∧ st' = st ++ [ws.map V.int] ∧ 0 < p ∧ 0 < r ∧ (∀ w ∈ ws, 0 ≤ w ∧ w ≤ 1000000000000) ∧ unw ws (p, r) = (P, R)
theorem c_loop2 {lo hi w0 : V} {P R p r : Int} {ws : List Int} (hp : 0 < p) (hr : 0 < r) (hws : ∀ w ∈ ws, 0 ≤ w ∧ w ≤ 1000000000000) (hlen : ws.length ≤ 1000000) (hu : unw ws (p, r) = (P, R)) (hPR : P + R ≤ 2000000000000) {Q : Fl × En → Sto → Prop}
    (q : Q (.next, ρB lo hi st.length w0 (nV P R)) (st ++ [[]])) : Ok ((Mine.X C1 (Mine.R C1 T1 (n + 7)) 64).st (fi 19).sc (ρB lo hi st.length w0 (nV p r)) (nthS (fi 19).body 4) (st ++ [ws.map V.int])) Q E := by
  refine st_while ?_
  refine Ok.mono (Q := fun x st' => x.1 = .next ∧ x.2 = ρB lo hi st.length w0 (nV P R) ∧ st' = st ++ [[]]) ?_ ?_
  · refine ok_while (IB lo hi w0 st P R) ?_ ws.length _ _ _ ?_ ⟨ws, p, r, rfl, rfl, rfl, hp, hr, hws, hu⟩
    · intro k ρ st' hI
      obtain ⟨ws, p, r, rfl, rfl, rfl, hp, hr, hws, hu⟩ := hI
      obtain ⟨s1, s2, s3⟩ := unw_sum (ws := ws) (x := (p, r)) (fun w hw => (hws w hw).1) hp hr
      rw [hu] at s3
      have s3 : p + r ≤ P + R := s3
      repeat' (walk_at "ev")
      refine lv_ne at_end ?_
      refine br_any (fun hb => ?_) (fun hb => ?_)
      · obtain ⟨ws', w, rfl⟩ : ∃ ws' w, ws = ws' ++ [w] := by
          rcases List.eq_nil_or_concat ws with h | ⟨a, b, h⟩
          · rw [h] at hb; cases hb
          · exact ⟨a, b, by rw [h, List.concat_eq_append]⟩
        obtain ⟨w0', w1'⟩ := hws w (by simp)
        have wp : 0 ≤ w * p := Int.mul_nonneg w0' (by omega)
        rw [List.map_append]
        repeat' (walk_at "ev")
        with_reducible apply ex_methL
        · exact rfl
        repeat' (walk_at "ev")
        refine ⟨_, rfl, ?_⟩
        repeat' (walk_at "ev")
        refine lm_pop ?_
        repeat' (walk_at "ev")
        with_reducible refine c_recip hp ?_
        repeat' (walk_at "ev")
        refine c_addI (Lo.sm (by unfold Lo; omega)) (Lo.sm (by unfold Lo; omega)) (Lo.sm (by unfold Lo; omega)) hp ?_
        repeat' (walk_at "ev")
        refine ⟨ws'.length, by simp, ws', w * p + r, p, rfl, rfl, rfl, by omega, hp, fun x hx => hws x (by simp [hx]), ?_⟩
        rw [unw_snoc] at hu
        exact hu
      · have : ws = [] := by simpa using hb
        subst this
        have hu : (p, r) = (P, R) := hu
        cases hu
        exact ⟨rfl, rfl, rfl⟩
    · unfold LIM
      omega
  · intro x st' hx
    obtain ⟨fl, ρ'⟩ := x
    obtain ⟨h1, h2, h3⟩ := hx
    dsimp only at h1 h2 h3
    subst h1 h2 h3
    exact q

theorem c_above {tl bl th bh : Int} (I0 : Iv tl bl th bh) (hB : bl + bh ≤ 1000000) (q : ∀ P R, IsSimp tl bl th bh P R → Q (.v (nV P R)) st) : Ok (R C1 T1 (n + 8) (.v (.val (.ref 161))) [.v (nV tl bl), .v (nV th bh)] st) Q E := by
  refine ok_fn rfl (ok_run rfl (ok_exs_cons ?_))
  repeat' (walk_at "ev")
  refine c_floor (by have := I0.l0; omega) (Lo.sm (by have := I0.l0; have := I0.m2; unfold Lo; omega)) ?_
  repeat' (walk_at "ev")
  with_reducible refine st_while ?_
  refine Ok.mono (Q := QA tl bl th bh st) ?_ ?_
  · refine ok_while (IA tl bl th bh st) ?_ (bl + bh).toNat _ _ _ ?_ ⟨[], tl, bl, th, bh, rfl, ?_, rfl, I0, ?_, fun w hw => (nomatch hw), fun p r h => h⟩
    · intro k ρ st' hI
      obtain ⟨ws, tl', bl', th', bh', rfl, rfl, rfl, I, hlen, hws, hun⟩ := hI
      have St : Sm tl' := Lo.sm (by have := I.t0; have := I.m1; unfold Lo; omega)
      have Sbl : Sm bl' := Lo.sm (by have := I.l0; have := I.m2; unfold Lo; omega)
      have Sth : Sm th' := Lo.sm (by have := I.th0; have := I.m3; unfold Lo; omega)
      have Sbh : Sm bh' := Lo.sm (by have := I.h0; have := I.m4; unfold Lo; omega)
      have hbl : bl' ≠ 0 := by have := I.l0; omega
      have hbh : bh' ≠ 0 := by have := I.h0; omega
      repeat' (walk_at "ev")
      with_reducible refine c_eqI ?_
      repeat' (walk_at "ev")
      refine br_any (fun hb => ?_) (fun hb => ?_)
      · repeat' (walk_at "ev")
        exact ⟨rfl, ws, tl', bl', th', bh', ⟨rfl, rfl, I, hlen, hws, hun⟩, .inl (by simpa using hb)⟩
      · have hne : ¬ (tl' / bl' = tl' ∧ 1 = bl') := by simpa using hb
        repeat' (walk_at "ev")
        with_reducible refine c_floor hbh Sbh ?_
        repeat' (walk_at "ev")
        · rename_i hw
          rw [Int.fdiv_eq_ediv_of_nonneg _ (by have := I.h0; omega)] at hw
          obtain ⟨I', w0, wm, l1, l2, l3, l4, l5, l6⟩ := I.next rfl hw hne
          generalize hwg : tl' / bl' = w at *
          have Sw : Sm w := Lo.sm (by unfold Lo; omega)
          with_reducible apply ex_methL
          · exact rfl
          repeat' (walk_at "ev")
          refine ⟨_, rfl, ?_⟩
          repeat' (walk_at "ev")
          refine lm_append (decide_eq_true (by rw [List.length_map]; have := I.l0; have := I.h0; omega)) ?_
          repeat' (walk_at "ev")
          with_reducible refine c_subI Sth Sbh Sw I.h0 ?_
          repeat' (walk_at "ev")
          with_reducible refine c_recip I'.l0 ?_
          repeat' (walk_at "ev")
          with_reducible refine c_subI St Sbl Sw I.l0 ?_
          repeat' (walk_at "ev")
          with_reducible refine c_recip I'.h0 ?_
          repeat' (walk_at "ev")
          refine c_floor (by have := I'.l0; omega) (Lo.sm (by have := I'.l0; have := I'.m2; unfold Lo; omega)) ?_
          repeat' (walk_at "ev")
          refine ⟨(th' - w * bh' + (tl' - w * bl')).toNat, by have := I'.l0; have := I'.h0; omega, ws ++ [w], bh', th' - w * bh', bl', tl' - w * bl', rfl, ?_, by rw [List.map_append]; rfl, I', ?_, fun x hx => ?_, fun p r S => ?_⟩
          · rw [Int.fdiv_eq_ediv_of_nonneg _ (by have := I'.l0; omega)]; rfl
          · rw [List.length_append, List.length_singleton]
            push_cast
            omega
          · rcases List.mem_append.mp hx with hx | hx
            · exact hws x hx
            · rw [List.mem_singleton.mp hx]; exact ⟨w0, wm⟩
          · rw [unw_snoc]
            exact hun _ _ (simp_step I.t0 I.l0 I.h0 w0 l1 l2 l3 l4 S)
        · rename_i hw
          rw [Int.fdiv_eq_ediv_of_nonneg _ (by have := I.h0; omega)] at hw
          exact ⟨rfl, ws, tl', bl', th', bh', ⟨rfl, rfl, I, hlen, hws, hun⟩, .inr ⟨hne, hw⟩⟩
    · have := I0.l0
      have := I0.h0
      unfold LIM
      omega
    · rw [Int.fdiv_eq_ediv_of_nonneg _ (by have := I0.l0; omega)]; rfl
    · simpa using hB
  · intro x st' hx
    obtain ⟨fl, ρ'⟩ := x
    obtain ⟨h1, ws, tl', bl', th', bh', ⟨h2, h3, I, hlen, hws, hun⟩, hcase⟩ := hx
    dsimp only at h1 h2 h3
    subst h1 h2 h3
    have hlen' : ws.length ≤ 1000000 := by have := I.l0; have := I.h0; omega
    have PR : ∀ p r, IsSimp tl bl th bh p r → p + r ≤ 2000000000000 := fun p r S => by
      obtain ⟨a, b⟩ := S.least tl bl I0.t0 I0.l0 (Int.le_refl _) I0.le
      have := I0.m1; have := I0.m2; omega
    repeat' (walk_at "ev")
    with_reducible refine c_eqI ?_
    repeat' (walk_at "ev")
    refine br_any (fun hb => ?_) (fun hb => ?_)
    · have hb' : tl' / bl' = tl' ∧ 1 = bl' := by simpa using hb
      obtain ⟨_, rfl⟩ := hb'
      repeat' (walk_at "ev")
      have S := hun tl' 1 (simp_int I.t0 I.h0 (by have := I.le; omega))
      refine c_loop2 (p := tl') (r := 1) I.t0 (by decide) hws hlen' rfl (PR _ _ S) ?_
      repeat' (walk_at "ev")
      exact q _ _ S
    · have hb' : ¬ (tl' / bl' = tl' ∧ 1 = bl') := by simpa using hb
      have hw := (hcase.resolve_left hb').2
      repeat' (walk_at "ev")
      have S0 := I.exit hb' hw
      have S := hun _ 1 S0
      refine c_loop2 (p := tl' / bl' + 1) (r := 1) S0.p0 (by decide) hws hlen' rfl (PR _ _ S) ?_
      repeat' (walk_at "ev")
      exact q _ _ S
end





noncomputable def dropS : Nat → List Stmt → List Stmt
  | 0, l => l
  | n + 1, _ :: r => dropS n r
  | _ + 1, [] => []

structure Num (t b : Int) : Prop where
  b0 : 0 < b
  g : Int.gcd t b = 1
  lo : -1000000000000 ≤ t
  hi : t ≤ 1000000000000
  bm : b ≤ 500000
theorem Num.st {t b : Int} (N : Num t b) : Sm t := Lo.sm (by have := N.lo; have := N.hi; unfold Lo; omega)
theorem Num.sb {t b : Int} (N : Num t b) : Sm b := Lo.sm (by have := N.b0; have := N.bm; unfold Lo; omega)
theorem Num.neg {t b : Int} (N : Num t b) : Num (-t) b := ⟨N.b0, by rw [Int.neg_gcd]; exact N.g, by have := N.hi; omega, by have := N.lo; omega, N.bm⟩
theorem Num.iv {t b u c : Int} (N : Num t b) (M : Num u c) (h : 0 < t) (hle : t * c ≤ u * b) : Iv t b u c := by
  have hu : 0 < u := by
    have h1 : 0 < t * c := Int.mul_pos h M.b0
    have h2 : 0 * b < u * b := by omega
    exact Int.lt_of_mul_lt_mul_right h2 (by have := N.b0; omega)
  exact ⟨h, N.b0, M.b0, hu, hle, N.g, M.g, N.hi, by have := N.bm; omega, M.hi, by have := M.bm; omega⟩

noncomputable def Res (tl bl th bh P R : Int) : Prop := (0 < tl ∧ IsSimp tl bl th bh P R) ∨ (tl ≤ 0 ∧ th < 0 ∧ IsSimp (-th) bh (-tl) bl (-P) R) ∨ (tl ≤ 0 ∧ 0 ≤ th ∧ P = 0 ∧ R = 1)
noncomputable def Res' (t b u c P R : Int) : Prop := if u * b < t * c then Res u c t b P R else Res t b u c P R

section
variable {n : Nat} {t b u c : Int} {st : Sto} {E : V → Sto → Prop} {Q : D → Sto → Prop}
theorem c_betw_rest {tl bl th bh : Int} (N : Num tl bl) (M : Num th bh) (hle : tl * bh ≤ th * bl) (q : ∀ P R, Res tl bl th bh P R → Q (.v (nV P R)) st) :
    Ok (exs ((Mine.X C1 (Mine.R C1 T1 (n + 9)) 64).st (fi 20).sc) (dropS 1 (fi 20).body) [(Str.ofString "low", .v (nV tl bl)), (Str.ofString "high", .v (nV th bh))] st) (ends st.length Q) E := by
  refine ok_exs_cons ?_
  repeat' (walk_at "ev")
  · rename_i h
    have h : 0 < tl := Int.sign_pos_iff.mp h
    refine c_above (N.iv M h hle) (by have := N.bm; have := M.bm; omega) fun P R S => ?_
    repeat' (walk_at "ev")
    exact q P R (.inl ⟨h, S⟩)
  · rename_i h h2
    have h : ¬ 0 < tl := fun z => h (Int.sign_pos_iff.mpr z)
    have h2 : th < 0 := Int.sign_neg_iff.mp h2
    refine c_above (M.neg.iv N.neg (by omega) (by rw [Int.neg_mul, Int.neg_mul]; omega)) (by have := N.bm; have := M.bm; omega) fun P R S => ?_
    repeat' (walk_at "ev")
    exact q (-P) R (.inr (.inl ⟨by omega, h2, by rw [Int.neg_neg]; exact S⟩))
  · rename_i h h2
    have h : ¬ 0 < tl := fun z => h (Int.sign_pos_iff.mpr z)
    have h2 : ¬ th < 0 := fun z => h2 (Int.sign_neg_iff.mpr z)
    exact q 0 1 (.inr (.inr ⟨by omega, by omega, rfl, rfl⟩))
theorem c_between (N : Num t b) (M : Num u c) (q : ∀ P R, Res' t b u c P R → Q (.v (nV P R)) st) : Ok (R C1 T1 (n + 10) (.v (.val (.ref 168))) [.v (nV t b), .v (nV u c)] st) Q E := by
  refine ok_fn rfl (ok_run rfl (ok_exs_cons ?_))
  repeat' (walk_at "ev")
  refine c_cmp N.st N.sb M.st M.sb ?_
  with_reducible refine ok_chain_one ?_
  with_reducible refine ex_int ?_
  with_reducible apply lv1
  · exact rfl
  refine br_dec (fun h => ?_) (fun h => ?_)
  · have h : u * b < t * c := by have := Int.sign_pos_iff.mp h; omega
    refine Ok.mono (Q := fun p s => p = (.next, [(Str.ofString "low", .v (nV u c)), (Str.ofString "high", .v (nV t b))]) ∧ s = st) ?_ ?_
    · repeat' (walk_at "ev")
      exact ⟨rfl, rfl⟩
    · intro p s hp
      obtain ⟨rfl, rfl⟩ := hp
      refine after_next ?_
      exact c_betw_rest (n := n) M N (by omega) fun P R S => q P R (by unfold Res'; rw [if_pos h]; exact S)
  · have h : ¬ u * b < t * c := fun z => h (Int.sign_pos_iff.mpr (by omega))
    with_reducible refine ok_exs_nil ?_
    refine after_next ?_
    exact c_betw_rest (n := n) N M (by omega) fun P R S => q P R (by unfold Res'; rw [if_neg h]; exact S)
end

theorem simp_exists : ∀ (k : Nat) {tl bl th bh : Int}, (bl + bh).toNat ≤ k → Iv tl bl th bh → ∃ P R, IsSimp tl bl th bh P R
  | k, tl, bl, th, bh, hk, I => by
    by_cases h1 : tl / bl = tl ∧ 1 = bl
    · obtain ⟨_, rfl⟩ := h1
      exact ⟨_, _, simp_int I.t0 I.h0 (by have := I.le; omega)⟩
    · by_cases h2 : tl / bl = th / bh
      · obtain ⟨I', w0, wm, l1, l2, l3, l4, l5, l6⟩ := I.next rfl h2 h1
        cases k with
        | zero => have := I.l0; have := I.h0; omega
        | succ k =>
          obtain ⟨P, R, S⟩ := simp_exists k (by have := I'.l0; have := I'.h0; omega) I'
          exact ⟨_, _, simp_step I.t0 I.l0 I.h0 w0 l1 l2 l3 l4 S⟩
      · exact ⟨_, _, I.exit h1 h2⟩
theorem simp_unique {tl bl th bh p r p' r' : Int} (S : IsSimp tl bl th bh p r) (S' : IsSimp tl bl th bh p' r') : p = p' ∧ r = r' := by
  obtain ⟨a, b⟩ := S.least p' r' S'.p0 S'.q0 S'.low S'.high
  obtain ⟨a', b'⟩ := S'.least p r S.p0 S.q0 S.low S.high
  omega
theorem res_exists {t b u c : Int} (N : Num t b) (M : Num u c) (hle : t * c ≤ u * b) : ∃ P R, Res t b u c P R := by
  by_cases h : 0 < t
  · obtain ⟨P, R, S⟩ := simp_exists _ (Nat.le_refl _) (N.iv M h hle)
    exact ⟨P, R, .inl ⟨h, S⟩⟩
  · by_cases h2 : u < 0
    · obtain ⟨P, R, S⟩ := simp_exists _ (Nat.le_refl _) (M.neg.iv N.neg (by omega) (by rw [Int.neg_mul, Int.neg_mul]; omega))
      exact ⟨-P, R, .inr (.inl ⟨by omega, h2, by rw [Int.neg_neg]; exact S⟩)⟩
    · exact ⟨0, 1, .inr (.inr ⟨by omega, by omega, rfl, rfl⟩)⟩
theorem res_unique {t b u c P R P' R' : Int} (S : Res t b u c P R) (S' : Res t b u c P' R') : P = P' ∧ R = R' := by
  rcases S with ⟨h, S⟩ | ⟨h, h2, S⟩ | ⟨h, h2, rfl, rfl⟩ <;> rcases S' with ⟨k, S'⟩ | ⟨k, k2, S'⟩ | ⟨k, k2, rfl, rfl⟩
  all_goals try omega
  · exact simp_unique S S'
  · obtain ⟨a, b⟩ := simp_unique S S'
    omega





noncomputable def fC (tl bl k : Int) : Int := 0 - (0 - tl * k).fdiv bl
noncomputable def fF (th bh k : Int) : Int := (th * k).fdiv bh
theorem fC_le {tl bl k x : Int} (h : 0 < bl) : fC tl bl k ≤ x ↔ tl * k ≤ x * bl := by
  unfold fC
  rw [Int.fdiv_eq_ediv_of_nonneg _ (by omega)]
  have := @Int.le_ediv_iff_mul_le (-x) (0 - tl * k) bl h
  rw [Int.neg_mul] at this
  omega
theorem le_fF {th bh k x : Int} (h : 0 < bh) : x ≤ fF th bh k ↔ x * bh ≤ th * k := by
  unfold fF
  rw [Int.fdiv_eq_ediv_of_nonneg _ (by omega)]
  exact Int.le_ediv_iff_mul_le h

structure Scan (tl bl th bh P R : Int) : Prop where
  r1 : 1 ≤ R
  rl : R ≤ bl
  rh : R ≤ bh
  hit : ∀ k, 1 ≤ k → k ≤ R → (fC tl bl k ≤ fF th bh k ↔ k = R)
  mid : fC tl bl R ≤ 0 → 0 ≤ fF th bh R → P = 0 ∧ R = 1
  up : ¬ (fC tl bl R ≤ 0 ∧ 0 ≤ fF th bh R) → 0 < fC tl bl R → P = fC tl bl R
  down : ¬ (fC tl bl R ≤ 0 ∧ 0 ≤ fF th bh R) → ¬ 0 < fC tl bl R → P = fF th bh R
theorem pos_of_mul {a b : Int} (hb : 0 < b) (h : 0 < a * b) : 0 < a := by
  rcases Int.lt_or_le 0 a with h1 | h1
  · exact h1
  · have : a * b ≤ 0 * b := Int.mul_le_mul_of_nonneg_right h1 (by omega)
    omega
theorem neg_of_mul {a b : Int} (hb : 0 < b) (h : a * b < 0) : a < 0 := by
  rcases Int.lt_or_le a 0 with h1 | h1
  · exact h1
  · have := Int.mul_nonneg h1 (by omega : 0 ≤ b)
    omega
theorem scan_of {tl bl th bh P R : Int} (hl : 0 < bl) (hh : 0 < bh) (hle : tl * bh ≤ th * bl) (S : Res tl bl th bh P R) : Scan tl bl th bh P R := by
  rcases S with ⟨h, S⟩ | ⟨h, h2, S⟩ | ⟨h, h2, rfl, rfl⟩
  · have th0 : 0 < th := by
      refine pos_of_mul hl ?_
      have := Int.mul_pos h hh
      omega
    have cpos : ∀ k, 1 ≤ k → 0 < fC tl bl k := fun k hk => by
      have h1 : fC tl bl k ≤ fC tl bl k := Int.le_refl _
      rw [fC_le hl] at h1
      have := Int.mul_pos h (show 0 < k by omega)
      exact pos_of_mul hl (by omega)
    have r0 := S.q0
    have c1 : fC tl bl R ≤ P := (fC_le hl).mpr S.low
    have c2 : P ≤ fF th bh R := (le_fF hh).mpr S.high
    refine ⟨by omega, (S.least tl bl h hl (Int.le_refl _) hle).2, (S.least th bh th0 hh hle (Int.le_refl _)).2, fun k h1 h2 => ⟨fun h3 => ?_, fun h3 => by rw [h3]; omega⟩, fun h1 _ => ?_, fun _ _ => ?_, fun _ h1 => ?_⟩
    · have := (S.least (fC tl bl k) k (cpos k h1) (by omega) ((fC_le hl).mp (Int.le_refl _)) ((le_fF hh).mp h3)).2
      omega
    · have := cpos R (by omega); omega
    · have := (S.least (fC tl bl R) R (cpos R (by omega)) r0 ((fC_le hl).mp (Int.le_refl _)) ((le_fF hh).mp (by omega))).1
      omega
    · exact absurd (cpos R (by omega)) h1
  · have r0 := S.q0
    have tl0 : tl < 0 := by
      refine neg_of_mul hh ?_
      have : th * bl < 0 := by
        have := Int.mul_pos (show 0 < -th by omega) hl
        rw [Int.neg_mul] at this
        omega
      omega
    have fneg : ∀ k, 1 ≤ k → fF th bh k < 0 := fun k hk => by
      have h1 : fF th bh k ≤ fF th bh k := Int.le_refl _
      rw [le_fF hh] at h1
      have := Int.mul_pos (show 0 < -th by omega) (show 0 < k by omega)
      rw [Int.neg_mul] at this
      exact neg_of_mul hh (by omega)
    have sl := S.low
    have sh := S.high
    rw [Int.neg_mul, Int.neg_mul] at sl sh
    have c1 : fC tl bl R ≤ P := (fC_le hl).mpr (by omega)
    have c2 : P ≤ fF th bh R := (le_fF hh).mpr (by omega)
    have cand : ∀ k, 1 ≤ k → fC tl bl k ≤ fF th bh k → -P ≤ -fF th bh k ∧ R ≤ k := fun k hk h3 => by
      have x1 := (fC_le hl).mp h3
      have x2 := (le_fF (k := k) hh).mp (Int.le_refl (fF th bh k))
      exact S.least (-fF th bh k) k (by have := fneg k hk; omega) (by omega) (by rw [Int.neg_mul, Int.neg_mul]; omega) (by rw [Int.neg_mul, Int.neg_mul]; omega)
    refine ⟨by omega, (S.least (-tl) bl (by omega) hl (by rw [Int.neg_mul, Int.neg_mul]; omega) (Int.le_refl _)).2, (S.least (-th) bh (by omega) hh (Int.le_refl _) (by rw [Int.neg_mul, Int.neg_mul]; omega)).2, fun k h1 h2 => ⟨fun h3 => ?_, fun h3 => by rw [h3]; omega⟩, fun _ h1 => ?_, fun _ h1 => ?_, fun _ _ => ?_⟩
    · have := (cand k h1 h3).2
      omega
    · have := fneg R (by omega); omega
    · have := fneg R (by omega); omega
    · have := (cand R (by omega) (by omega)).1
      omega
  · have c1 : fC tl bl 1 ≤ 0 := (fC_le hl).mpr (by omega)
    have c2 : 0 ≤ fF th bh 1 := (le_fF hh).mpr (by omega)
    exact ⟨by omega, by omega, by omega, fun k h1 h2 => ⟨fun _ => by omega, fun h3 => by rw [h3]; omega⟩, fun _ _ => ⟨rfl, rfl⟩, fun h1 _ => absurd ⟨c1, c2⟩ h1, fun h1 _ => absurd ⟨c1, c2⟩ h1⟩

theorem rng_cons {a b : Int} (h : a < b) : rngL a b = .int a :: rngL (a + 1) b := by
  unfold rngL
  obtain ⟨n, hn⟩ : ∃ n, (b - a).toNat = n + 1 := ⟨(b - a).toNat - 1, by omega⟩
  have e : (b - (a + 1)).toNat = n := by omega
  rw [hn, e, List.range_succ_eq_map, List.map_cons, List.map_map]
  congr 1
  · simp
  · apply List.map_congr_left
    intro i _
    simp only [Function.comp]
    congr 1
    push_cast
    omega

section
variable {n : Nat} {t b u c : Int} {st : Sto} {E : V → Sto → Prop} {Q : D → Sto → Prop}
noncomputable abbrev pV (t b : Int) : V := .tup [.int t, .int b]
theorem c_pair (q : Q (.v (pV t b)) st) : Ok (R C1 T1 (n + 3) (.v (.val (.ref 695))) [.v (nV t b)] st) Q E := by
  refine ok_fn rfl (ok_run rfl (ok_exs_cons ?_))
  repeat' (walk_at "ev")
  exact q
theorem c_tops {tl bl th bh k : Int} (s1 : Sm tl) (s2 : Sm bl) (s3 : Sm th) (s4 : Sm bh) (s5 : Sm k) (h1 : 0 < bl) (h2 : 0 < bh) (q : Q (.v (.tup [.int (fC tl bl k), .int (fF th bh k)])) st) :
    Ok (R C1 T1 (n + 1) (.v (.val (.ref 702))) [.v (pV tl bl), .v (pV th bh), .v (.int k)] st) Q E := by
  refine ok_fn rfl (ok_run rfl (ok_exs_cons ?_))
  unfold pV
  repeat' (walk_at "ev")
  · exact mul_of s1 s5
  · exact dv_of (by omega) s2
  · exact mul_of s3 s5
  · exact dv_of (by omega) s4
  · exact q

theorem lv_rng {a b : Int} {Q : List V → Prop} (h1 : a.natAbs ≤ 2 ^ 20) (h2 : b.natAbs ≤ 2 ^ 20) (q : Q (rngL a b)) : ∃ l, itemsOf (.v (.rng a b)) = some l ∧ Q l :=
  ⟨rngL a b, by show (if a.natAbs ≤ 2 ^ 20 ∧ b.natAbs ≤ 2 ^ 20 then some (rngL a b) else none) = _; rw [if_pos ⟨h1, h2⟩], q⟩

noncomputable def ρS (o1 o2 : V) (tl bl th bh : Int) : En := [(Str.ofString "one", .v o1), (Str.ofString "other", .v o2), (Str.ofString "low", .v (pV tl bl)), (Str.ofString "high", .v (pV th bh))]
noncomputable def ρS1 (o1 o2 : V) (tl bl th bh : Int) (x y z : D) : En := [(Str.ofString "one", .v o1), (Str.ofString "other", .v o2), (Str.ofString "low", .v (pV tl bl)), (Str.ofString "high", .v (pV th bh)), (Str.ofString "bottom", x), (Str.ofString "first", y), (Str.ofString "last", z)]
noncomputable def IS1 (o1 o2 : V) (tl bl th bh R m : Int) (st : Sto) (l : List V) (ρ : En) (st' : Sto) : Prop :=
  st' = st ∧ ∃ k : Int, 1 ≤ k ∧ k ≤ R ∧ l = rngL k (m + 1) ∧ (ρ = ρS o1 o2 tl bl th bh ∨ ∃ x y z, ρ = ρS1 o1 o2 tl bl th bh x y z)

theorem c_simp_rest {o1 o2 : V} {tl bl th bh : Int} (N : Num tl bl) (M : Num th bh) (hle : tl * bh ≤ th * bl) (q : ∀ P R, Res tl bl th bh P R → Q (.v (pV P R)) st) :
    Ok (exs ((Mine.X C1 (Mine.R C1 T1 (n + 9)) 64).st (fi 59).sc) (dropS 1 (fi 59).body) (ρS o1 o2 tl bl th bh) st) (ends st.length Q) E := by
  obtain ⟨P, R, S⟩ := res_exists N M hle
  have q := q P R S
  have SC := scan_of N.b0 M.b0 hle S
  have r1 := SC.r1
  have rl := SC.rl
  have rh := SC.rh
  have bm1 := N.bm
  have bm2 := M.bm
  refine ok_exs_cons ?_
  with_reducible apply st_for
  · exact rfl
  repeat' (walk_at "ev")
  refine c_range2 ⟨by decide, by split <;> omega⟩ ?_
  refine lv_rng (by decide) (by split <;> omega) ?_
  generalize hm : (if bh < bl then bh else bl) = m
  have hRm : R ≤ m := by rw [← hm]; split <;> omega
  have hmm : m ≤ 500000 := by rw [← hm]; split <;> omega
  refine ok_for (IS1 o1 o2 tl bl th bh R m st) ?_ ?_ _ _ _ ⟨rfl, 1, by omega, r1, rfl, .inl rfl⟩
  · intro ρ st' hI
    obtain ⟨rfl, k, h1, h2, h3, _⟩ := hI
    rw [rng_cons (by omega)] at h3
    cases h3
  · intro x r ρ st' hI
    obtain ⟨rfl, k, h1, h2, h3, hρ⟩ := hI
    rw [rng_cons (by omega)] at h3
    injection h3 with h4 h5
    subst h4 h5
    have Sk : Sm k := Lo.sm (by unfold Lo; omega)
    have hit := SC.hit k h1 h2
    rcases hρ with rfl | ⟨x, y, z, rfl⟩
    all_goals
      refine ⟨_, rfl, ?_⟩
      repeat' (walk_at "ev")
      refine c_tops N.st N.sb M.st M.sb Sk N.b0 M.b0 ?_
      repeat' (walk_at "ev")
    all_goals first
      | (have hk := hit.mp (by assumption)
         subst hk
         first
           | (exfalso; omega)
           | (obtain ⟨e1, e2⟩ := SC.mid (by assumption) (by assumption)
              rw [e1, e2] at q
              exact q)
           | (have e := SC.up (fun z => by omega) (by assumption)
              rw [e] at q
              exact q)
           | (have e := SC.down (fun z => by omega) (by assumption)
              rw [e] at q
              exact q))
      | (have hk : k ≠ R := fun z => (by assumption : ¬ fC tl bl k ≤ fF th bh k) (hit.mpr z)
         exact ⟨rfl, k + 1, by omega, by omega, rfl, .inr ⟨_, _, _, rfl⟩⟩)

theorem c_simplest (N : Num t b) (M : Num u c) (q : ∀ P R, Res' t b u c P R → Q (.v (pV P R)) st) : Ok (R C1 T1 (n + 10) (.v (.val (.ref 709))) [.v (pV t b), .v (pV u c)] st) Q E := by
  refine ok_fn rfl (ok_run rfl (ok_exs_cons ?_))
  by_cases h : u * b < t * c
  · refine Ok.mono (Q := fun p s => p = (.next, ρS (pV t b) (pV u c) u c t b) ∧ s = st) ?_ ?_
    · repeat' (walk_at "ev")
      · exact mul_of N.st M.sb
      · exact mul_of M.st N.sb
      · rename_i h2
        exfalso; omega
      · exact ⟨rfl, rfl⟩
    · intro p s hp
      obtain ⟨rfl, rfl⟩ := hp
      refine after_next ?_
      exact c_simp_rest M N (by omega) fun P R S => q P R (by unfold Res'; rw [if_pos h]; exact S)
  · refine Ok.mono (Q := fun p s => p = (.next, ρS (pV t b) (pV u c) t b u c) ∧ s = st) ?_ ?_
    · repeat' (walk_at "ev")
      · exact mul_of N.st M.sb
      · exact mul_of M.st N.sb
      · exact ⟨rfl, rfl⟩
      · rename_i h2
        exfalso; omega
    · intro p s hp
      obtain ⟨rfl, rfl⟩ := hp
      refine after_next ?_
      exact c_simp_rest N M (by omega) fun P R S => q P R (by unfold Res'; rw [if_neg h]; exact S)
end


theorem eqD_pair {a b c d : Int} {st : Sto} : eqD (.v (pV a b)) (.v (pV c d)) st = some (a == c && b == d) := by
  show (if SeqAt.shaped (.tuple [.int a, .int b]) && SeqAt.shaped (.tuple [.int c, .int d]) then some (PyData.eqv (.tuple [.int a, .int b]) (.tuple [.int c, .int d])) else none) = _
  have h : ∀ x y : Int, SeqAt.shaped (.tuple [.int x, .int y]) = true := fun x y => rfl
  rw [h, h]
  show some ((a == c) && ((b == d) && true)) = _
  rw [Bool.and_true]
theorem lv_pne {a b c d : Int} {st : Sto} {Q : Bool → Prop} (q : Q (!(a == c && b == d))) : ∃ x, cmp .NotEq (.v (pV a b)) (.v (pV c d)) st = some x ∧ Q x :=
  ⟨_, by show (eqD (.v (pV a b)) (.v (pV c d)) st).map not = _; rw [eqD_pair]; rfl, q⟩
theorem lv_peq {a b c d : Int} {st : Sto} {Q : Bool → Prop} (q : Q (a == c && b == d)) : ∃ x, cmp .Eq (.v (pV a b)) (.v (pV c d)) st = some x ∧ Q x :=
  ⟨_, by show eqD (.v (pV a b)) (.v (pV c d)) st = _; rw [eqD_pair], q⟩



local macro_rules | `(tactic| walk_at "ev") => `(tactic| first
  | with_reducible refine c_pair ?_ | with_reducible refine lv_pne ?_ | with_reducible refine lv_peq ?_)


theorem dvd_co {a b c : Int} (h : a ∣ b * c) (g : Int.gcd a b = 1) : a ∣ c := by
  have h1 : a.natAbs ∣ b.natAbs * c.natAbs := by rw [← Int.natAbs_mul]; exact Int.natAbs_dvd_natAbs.mpr h
  exact Int.natAbs_dvd_natAbs.mp (Nat.Coprime.dvd_of_dvd_mul_left g h1)
theorem frac_eq {t b u c : Int} (N : Num t b) (M : Num u c) (h : t * c = u * b) : t = u ∧ b = c := by
  have h1 : b ∣ c := by
    have : b ∣ t * c := ⟨u, by rw [h, Int.mul_comm]⟩
    exact dvd_co this (by rw [Int.gcd_comm]; exact N.g)
  have h2 : c ∣ b := by
    have : c ∣ u * b := ⟨t, by rw [← h, Int.mul_comm]⟩
    exact dvd_co this (by rw [Int.gcd_comm]; exact M.g)
  have hbc : b = c := Int.dvd_antisymm (by have := N.b0; omega) (by have := M.b0; omega) h1 h2
  subst hbc
  exact ⟨Int.eq_of_mul_eq_mul_right (by have := N.b0; omega) h, rfl⟩
theorem res_unique' {t b u c P R P' R' : Int} (S : Res' t b u c P R) (S' : Res' t b u c P' R') : P = P' ∧ R = R' := by
  unfold Res' at S S'
  split at S
  · rename_i h
    rw [if_pos h] at S'
    exact res_unique S S'
  · rename_i h
    rw [if_neg h] at S'
    exact res_unique S S'
theorem res_swap {t b u c P R P' R' : Int} (N : Num t b) (M : Num u c) (S : Res' t b u c P R) (S' : Res' u c t b P' R') : P = P' ∧ R = R' := by
  unfold Res' at S S'
  by_cases h : u * b < t * c
  · rw [if_pos h] at S
    rw [if_neg (by omega)] at S'
    exact res_unique S S'
  · rw [if_neg h] at S
    by_cases h2 : t * c < u * b
    · rw [if_pos h2] at S'
      exact res_unique S S'
    · rw [if_neg h2] at S'
      obtain ⟨rfl, rfl⟩ := frac_eq N M (by omega)
      exact res_unique S S'
theorem res_neg1 {t b u c P R P' R' : Int} (hb : 0 < b) (hc : 0 < c) (hle : t * c ≤ u * b) (S : Res t b u c P R) (S' : Res (-u) c (-t) b P' R') : P' = -P ∧ R' = R := by
  rcases S with ⟨h, S⟩ | ⟨h, h2, S⟩ | ⟨h, h2, rfl, rfl⟩ <;> rcases S' with ⟨k, S'⟩ | ⟨k, k2, S'⟩ | ⟨k, k2, rfl, rfl⟩
  all_goals try omega
  · have hu : 0 < u := by
      refine pos_of_mul hb ?_
      have := Int.mul_pos h hc
      omega
    omega
  · rw [Int.neg_neg, Int.neg_neg] at S'
    obtain ⟨e1, e2⟩ := simp_unique S S'
    omega
  · obtain ⟨e1, e2⟩ := simp_unique S S'
    omega
theorem res_neg {t b u c P R P' R' : Int} (N : Num t b) (M : Num u c) (S : Res' t b u c P R) (S' : Res' (-t) b (-u) c P' R') : P' = -P ∧ R' = R := by
  unfold Res' at S S'
  rw [Int.neg_mul, Int.neg_mul] at S'
  by_cases h : u * b < t * c
  · rw [if_pos h] at S
    rw [if_neg (by omega)] at S'
    exact res_neg1 M.b0 N.b0 (by omega) S S'
  · rw [if_neg h] at S
    by_cases h2 : t * c < u * b
    · rw [if_pos (by omega)] at S'
      exact res_neg1 N.b0 M.b0 (by omega) S S'
    · rw [if_neg (by omega)] at S'
      obtain ⟨rfl, rfl⟩ := frac_eq N M (by omega)
      exact res_neg1 N.b0 N.b0 (by omega) S S'

section
variable {n : Nat} {t b u c : Int} {st : Sto} {E : V → Sto → Prop} {Q : D → Sto → Prop}
theorem c_ratioN (N : Num t b) (q : Q (.v (nV t b)) st) : Ok (R C1 T1 (n + 3) (.v (.val (.ref 91))) [.v (.int t), .v (.int b)] st) Q E := by
  refine c_ratio N.st N.sb N.b0 ?_
  rw [N.g]
  simpa using q
theorem c_ratioN0 (N : Num t b) (q : Q (.v (nV (-t) b)) st) : Ok (R C1 T1 (n + 3) (.v (.val (.ref 91))) [.v (.int (0 - t)), .v (.int b)] st) Q E := by
  have : (0 - t) = -t := by omega
  rw [this]
  exact c_ratioN N.neg q
theorem c_right (N : Num t b) (M : Num u c) (q : Q (.v (.bool true)) st) : Ok (R C1 T1 (n + 12) (.v (.val (.ref 716))) [.v (nV t b), .v (nV u c)] st) Q E := by
  refine ok_fn rfl (ok_run rfl (ok_exs_cons ?_))
  repeat' (walk_at "ev")
  with_reducible refine c_simplest N M fun P R S => ?_
  repeat' (walk_at "ev")
  with_reducible refine c_between N M fun P2 R2 S2 => ?_
  obtain ⟨rfl, rfl⟩ := res_unique' S S2
  repeat' (walk_at "ev")
  refine br_true (by simp) ?_
  repeat' (walk_at "ev")
  with_reducible refine c_between M N fun P3 R3 S3 => ?_
  obtain ⟨rfl, rfl⟩ := res_swap N M S S3
  repeat' (walk_at "ev")
  refine br_true (by simp) ?_
  repeat' (walk_at "ev")
  with_reducible refine c_ratioN0 N ?_
  repeat' (walk_at "ev")
  with_reducible refine c_ratioN0 M ?_
  repeat' (walk_at "ev")
  with_reducible refine c_between N.neg M.neg fun P4 R4 S4 => ?_
  obtain ⟨rfl, rfl⟩ := res_neg N M S S4
  repeat' (walk_at "ev")
  have e : (-P == 0 - P && R4 == R4) = true := by simp
  rw [e]
  exact q
end


theorem co_mul {a b c : Int} (h1 : Int.gcd a c = 1) (h2 : Int.gcd b c = 1) : Int.gcd (a * b) c = 1 := by
  show Nat.gcd (a * b).natAbs c.natAbs = 1
  rw [Int.natAbs_mul]
  exact Nat.Coprime.mul_left h1 h2
theorem co_dvd {a k c : Int} (h : a ∣ k) (h1 : Int.gcd k c = 1) : Int.gcd a c = 1 :=
  Nat.Coprime.coprime_dvd_left (Int.natAbs_dvd_natAbs.mpr h) h1
structure AddR (t b u c p q : Int) : Prop where
  q0 : 0 < q
  g : Int.gcd p q = 1
  v : p * (b * c) = (t * c + u * b) * q
  qm : q ≤ b * c
  pm : p.natAbs ≤ t.natAbs * c.natAbs + u.natAbs * b.natAbs
theorem add_ok {t b u c : Int} (hb : 0 < b) (hc : 0 < c) (g1 : Int.gcd t b = 1) (g2 : Int.gcd u c = 1) : AddR t b u c (addT t b u c / addS t b u c) (b / addG b c * (c / addS t b u c)) := by
  have hg : 0 < Int.gcd b c := Nat.pos_of_ne_zero fun h => by have := (Int.gcd_eq_zero_iff.mp h).1; omega
  have hs : 0 < Int.gcd (addT t b u c) (addG b c) := Nat.pos_of_ne_zero fun h => by
    have := (Int.gcd_eq_zero_iff.mp h).2
    unfold addG at this
    omega
  have eb := Int.ediv_mul_cancel (Int.gcd_dvd_left b c)
  have ec := Int.ediv_mul_cancel (Int.gcd_dvd_right b c)
  have bc := Int.gcd_ediv_gcd_ediv_gcd hg
  have eT := Int.ediv_mul_cancel (Int.gcd_dvd_left (addT t b u c) (addG b c))
  have eg := Int.ediv_mul_cancel (Int.gcd_dvd_right (addT t b u c) (addG b c))
  have pg := Int.gcd_ediv_gcd_ediv_gcd hs
  have hT : addT t b u c = t * (c / (Int.gcd b c : Int)) + u * (b / (Int.gcd b c : Int)) := rfl
  have hS : addS t b u c = (Int.gcd (addT t b u c) (addG b c) : Int) := rfl
  have hG : addG b c = (Int.gcd b c : Int) := rfl
  rw [← hS] at eT eg pg
  have hs : 0 < addS t b u c := by rw [hS]; omega
  rw [hG] at eg pg ⊢
  generalize hg' : (Int.gcd b c : Int) = g at *
  have hg : 0 < g := by omega
  generalize addT t b u c = T at *
  generalize addS t b u c = s at *
  generalize hb' : b / g = b' at *
  generalize hc' : c / g = c' at *
  generalize hp : T / s = p at *
  generalize hk : g / s = k at *
  -- c / s = c' * k
  have hcs : c / s = c' * k := by
    have : c = (c' * k) * s := by rw [← ec, ← eg, Int.mul_assoc]
    rw [this, Int.mul_ediv_cancel _ (by omega)]
  rw [hcs]
  have hb0 : 0 < b' := Int.pos_of_mul_pos_left (a := b') (b := g) (by omega) hg
  have hc0 : 0 < c' := Int.pos_of_mul_pos_left (a := c') (b := g) (by omega) hg
  have hk0 : 0 < k := Int.pos_of_mul_pos_left (a := k) (b := s) (by omega) hs
  have pT : p ∣ T := ⟨s, eT.symm⟩
  have b'b : b' ∣ b := ⟨g, eb.symm⟩
  have c'c : c' ∣ c := ⟨g, ec.symm⟩
  have t1 : Int.gcd t b' = 1 := by rw [Int.gcd_comm]; exact co_dvd b'b (by rw [Int.gcd_comm]; exact g1)
  have u1 : Int.gcd u c' = 1 := by rw [Int.gcd_comm]; exact co_dvd c'c (by rw [Int.gcd_comm]; exact g2)
  have pb : Int.gcd p b' = 1 := by
    refine co_dvd pT ?_
    rw [hT, Int.gcd_add_mul_right_left]
    exact co_mul t1 (by rw [Int.gcd_comm]; exact bc)
  have pc : Int.gcd p c' = 1 := by
    refine co_dvd pT ?_
    rw [hT, Int.gcd_mul_right_add_left]
    exact co_mul u1 bc
  have hT2 : T * g = t * c + u * b := by
    rw [hT, Int.add_mul, Int.mul_assoc, Int.mul_assoc, ec, eb]
  refine ⟨Int.mul_pos hb0 (Int.mul_pos hc0 hk0), ?_, ?_, ?_, ?_⟩
  · rw [Int.gcd_comm]
    refine co_mul (by rw [Int.gcd_comm]; exact pb) (co_mul (by rw [Int.gcd_comm]; exact pc) (by rw [Int.gcd_comm]; exact pg))
  · rw [← hT2, ← eT]
    have : b * c = b' * (c' * k) * s * g := by
      have h : b * c = (b' * g) * (c' * (k * s)) := by rw [eb, eg, ec]
      rw [h]; simp only [Int.mul_assoc, Int.mul_comm, Int.mul_left_comm]
    rw [this]; simp only [Int.mul_assoc, Int.mul_comm, Int.mul_left_comm]
  · have : b * c = b' * (c' * k) * (s * g) := by
      have h : b * c = (b' * g) * (c' * (k * s)) := by rw [eb, eg, ec]
      rw [h]; simp only [Int.mul_assoc, Int.mul_comm, Int.mul_left_comm]
    rw [this]
    have h1 : 0 < b' * (c' * k) := Int.mul_pos hb0 (Int.mul_pos hc0 hk0)
    have h2 : 0 < s * g := Int.mul_pos hs hg
    have := Int.mul_le_mul_of_nonneg_left (show (1 : Int) ≤ s * g by omega) (show 0 ≤ b' * (c' * k) by omega)
    omega
  · have h1 : p.natAbs ≤ T.natAbs := by
      rw [← eT, Int.natAbs_mul]
      exact Nat.le_mul_of_pos_right _ (by omega)
    have h2 : T.natAbs ≤ t.natAbs * c'.natAbs + u.natAbs * b'.natAbs := by
      rw [hT, ← Int.natAbs_mul, ← Int.natAbs_mul]
      exact Int.natAbs_add_le _ _
    have h3 : c'.natAbs ≤ c.natAbs := by
      rw [← ec, Int.natAbs_mul]
      exact Nat.le_mul_of_pos_right _ (by omega)
    have h4 : b'.natAbs ≤ b.natAbs := by
      rw [← eb, Int.natAbs_mul]
      exact Nat.le_mul_of_pos_right _ (by omega)
    exact Nat.le_trans h1 (Nat.le_trans h2 (Nat.add_le_add (Nat.mul_le_mul_left _ h3) (Nat.mul_le_mul_left _ h4)))






section
variable {n : Nat} {t b u c : Int} {st : Sto} {E : V → Sto → Prop} {Q : D → Sto → Prop}
theorem ok_forL_nil {put : V → En → Option En} {body : En → Sto → Out (Fl × En)} {ρ : En} {Q : Fl × En → Sto → Prop} (q : Q (.next, ρ) st) : Ok (forL put body [] ρ st) Q E := q
theorem ok_forL_cons {put : V → En → Option En} {body : En → Sto → Out (Fl × En)} {x : V} {r : List V} {ρ ρ₁ : En} {Q : Fl × En → Sto → Prop} (hp : put x ρ = some ρ₁)
    (h : Ok (body ρ₁ st) (again (fun ρ st => Ok (forL put body r ρ st) Q E) Q) E) : Ok (forL put body (x :: r) ρ st) Q E := by
  unfold forL
  rw [hp]
  refine Ok.bind (h.mono fun p st₂ h' => ?_)
  obtain ⟨fl, ρ₂⟩ := p
  cases fl <;> exact h'
theorem c_inex (q : Q (.v (.bool false)) st) : Ok (R C1 T1 (n + 2) (.v (.val (.ref 333))) [.v (nV t b)] st) Q E := by
  unfold nV
  split
  all_goals
    refine ok_fn rfl (ok_run rfl (ok_exs_cons ?_))
    repeat' (walk_at "ev")
    exact q
theorem c_toex (q : Q (.v (nV t b)) st) : Ok (R C1 T1 (n + 4) (.v (.val (.ref 347))) [.v (nV t b)] st) Q E := by
  refine ok_fn rfl (ok_run rfl (ok_exs_cons ?_))
  repeat' (walk_at "ev")
  exact q
theorem c_hasin (q : Q (.v (.bool false)) st) : Ok (R C1 T1 (n + 3) (.v (.val (.ref 361))) [.v (.lst [nV t b, nV u c])] st) Q E := by
  refine ok_fn rfl (ok_run rfl (ok_exs_cons ?_))
  with_reducible apply st_for
  · exact rfl
  repeat' (walk_at "ev")
  refine ok_forL_cons rfl ?_
  repeat' (walk_at "ev")
  with_reducible refine c_inex ?_
  repeat' (walk_at "ev")
  refine ok_forL_cons rfl ?_
  repeat' (walk_at "ev")
  with_reducible refine c_inex ?_
  repeat' (walk_at "ev")
  refine ok_forL_nil ?_
  repeat' (walk_at "ev")
  exact q
theorem c_asof {x y : V} (q : Q (.v x) st) : Ok (R C1 T1 (n + 4) (.v (.val (.ref 368))) [.v y, .v x, .v (.lst [nV t b, nV u c])] st) Q E := by
  refine ok_fn rfl (ok_run rfl (ok_exs_cons ?_))
  repeat' (walk_at "ev")
  with_reducible refine c_hasin ?_
  repeat' (walk_at "ev")
  exact q
end







section
variable {n : Nat} {t b u c : Int} {st : Sto} {E : V → Sto → Prop} {Q : D → Sto → Prop}
theorem ok_compL {put : V → En → Option En} {test : En → Sto → Out Bool} {elt : En → Sto → Out D} {Q : List V → Sto → Prop} (I : List V → En → List V → Sto → Prop)
    (h0 : ∀ ρ acc st, I [] ρ acc st → Q acc st)
    (h : ∀ x r ρ acc st, I (x :: r) ρ acc st → ∃ ρ₁, put x ρ = some ρ₁ ∧ Ok (test ρ₁ st) (fun b st₁ => (b = true → Ok (elt ρ₁ st₁) (fun d st₂ => ∃ y, d = .v y ∧ szOk acc.length = true ∧ I r ρ₁ (acc ++ [y]) st₂) E) ∧ (b = false → I r ρ₁ acc st₁)) E) :
    ∀ (l : List V) (ρ : En) (acc : List V) (st : Sto), I l ρ acc st → Ok (compL put test elt l ρ acc st) Q E
  | [], ρ, acc, st, hI => h0 ρ acc st hI
  | x :: r, ρ, acc, st, hI => by
    obtain ⟨ρ₁, h1, h2⟩ := h x r ρ acc st hI
    refine ok_compL_cons h1 (h2.mono fun b st₁ h3 => ⟨fun e => (h3.1 e).mono fun d st₂ h4 => ?_, fun e => ok_compL I h0 h r ρ₁ acc st₁ (h3.2 e)⟩)
    obtain ⟨y, h5, h6, h7⟩ := h4
    exact ⟨y, h5, h6, ok_compL I h0 h r ρ₁ (acc ++ [y]) st₂ h7⟩
theorem ends_m {Q : D → Sto → Prop} {ρ : En} {st e : Sto} (q : Q (.m st.length) (st ++ e)) : ends st.length Q (.ret (.m st.length), ρ) (st ++ e) := by
  show if st.length < st.length then _ else _
  rw [if_neg (Nat.lt_irrefl _)]
  exact q
theorem lf_pow {x y : Int} {Q : V → Prop} (h : 0 ≤ y ∧ (Builtin.Int.intBits x : Int) * y ≤ 2 ^ 27) (q : Q (.int (x ^ y.toNat))) : ∃ v, binop .Pow (.v (.int x)) (.v (.int y)) = some v ∧ Q v := ⟨.int (x ^ y.toNat), by show (if 0 ≤ y ∧ (Builtin.Int.intBits x : Int) * y ≤ 2 ^ 27 then some (x ^ y.toNat) else none).map V.int = _; rw [if_pos h]; rfl, q⟩
theorem lv_sl {d : D} {l : List V} {a b : Option Nat} {m : List V} {Q : List V → Prop} (h1 : d = .v (.lst l)) (h2 : szOk l.length = true) (h3 : cutL l a b = some m) (q : Q m) : ∃ l m, d = .v (.lst l) ∧ szOk l.length = true ∧ cutL l a b = some m ∧ Q m := ⟨l, m, h1, h2, h3, q⟩

noncomputable def Gd (ds : List Int) : Prop := (∀ x ∈ ds, 0 ≤ x)
noncomputable def IC (st : Sto) (l : List V) (ρ : En) (acc : List V) (st' : Sto) : Prop :=
  st' = st ∧ (ρ = [] ∨ ∃ x, ρ = [(Str.ofString "cell", x)]) ∧ ∃ ms ds : List Int, l = ms.map V.int ∧ acc = ds.map V.int ∧ Gd ds ∧ ms.length + ds.length ≤ 100
theorem c_deck {ns : List Int} (hn : ns.length ≤ 63) (q : ∀ ds, Gd ds → ds.length ≤ 100 → Q (.m st.length) (st ++ [ds.map V.int])) : Ok (R C1 T1 (n + 2) (.v (.val (.ref 674))) [.v (.lst (ns.map V.int))] st) Q E := by
  refine ok_fn rfl (ok_run rfl (ok_exs_cons ?_))
  with_reducible refine st_ret ?_
  with_reducible apply ex_comp
  · exact rfl
  · exact rfl
  repeat' (walk_at "ev")
  refine lv_sl rfl (decide_eq_true (by rw [List.length_map]; omega)) rfl ?_
  refine lv1 rfl ?_
  refine ok_compL (IC st) ?_ ?_ _ _ _ _ ⟨rfl, .inl rfl, ns.take 12, [], by rw [List.map_take]; rfl, rfl, fun x h => absurd h List.not_mem_nil, ?_⟩
  · intro ρ acc st' hI
    obtain ⟨rfl, _, ms, ds, _, rfl, hg, hz⟩ := hI
    refine ⟨fun _ => ?_, fun h => nomatch h⟩
    refine after_ret ?_
    exact ends_m (q ds hg (by omega))
  · intro x r ρ acc st' hI
    obtain ⟨rfl, hρ, ms, ds, hl, rfl, hg, hz⟩ := hI
    cases ms with
    | nil => cases hl
    | cons m ms =>
      injection hl with h1 h2
      subst h1 h2
      have e10 : (10 : Int) ^ (30 : Int).toNat ≠ 0 := by decide
      have p10 : 0 < (10 : Int) ^ (30 : Int).toNat := by decide
      rcases hρ with rfl | ⟨x, rfl⟩
      all_goals
        refine ⟨_, rfl, ?_⟩
        refine Ok.mono (Q := fun b s => b = true ∧ s = st') ⟨rfl, rfl⟩ ?_
        intro b s hb
        obtain ⟨rfl, rfl⟩ := hb
        refine br_true rfl ?_
        repeat' (walk_at "ev")
        · exact e10
        refine ⟨_, rfl, decide_eq_true (by rw [List.length_map]; simp only [List.length_cons] at hz; omega), rfl, .inr ⟨_, rfl⟩, ms, ds ++ [_], rfl, by rw [List.map_append]; rfl, ?_, by simp only [List.length_cons, List.length_append, List.length_nil] at hz ⊢; omega⟩
        intro y hy
        rcases List.mem_append.mp hy with hy | hy
        · exact hg y hy
        · rw [List.mem_singleton.mp hy]
          exact Int.fmod_nonneg_of_pos _ p10
  · simp only [List.length_take, List.length_nil]; omega

theorem lv_at0 {st : Sto} {i : Nat} {l : List V} {x : V} {Q : V → Prop} (h : st[i]? = some (x :: l)) (q : Q x) : ∃ v, sub1 (.m i) (.v (.int 0)) st = some v ∧ Q v :=
  ⟨x, by
    show (match st[i]? with | some l => itemAt l 0 | none => none) = _
    rw [h]
    show itemAt (x :: l) 0 = _
    unfold itemAt seqIndex?
    simp, q⟩
end







local macro_rules | `(tactic| walk_at "ev") => `(tactic| first
  | with_reducible refine c_inex ?_ | with_reducible refine c_toex ?_ | with_reducible refine c_asof ?_)
section
variable {n : Nat} {t b u c : Int} {st : Sto} {E : V → Sto → Prop} {Q : D → Sto → Prop}
noncomputable abbrev sI (ds : List Int) : Sto := [ds.map V.int]
noncomputable def ID (m : Int) (k : Nat) (ρ : En) (st : Sto) : Prop := ρ = [(Str.ofString "deck", .m 0), (Str.ofString "many", .v (.int m))] ∧ ∃ ds, st = sI ds ∧ Gd ds ∧ k = ds.length
theorem at0 {ds : List Int} : (sI ds)[0]? = some (ds.map V.int) := rfl
theorem allInt_ints : ∀ l : List Int, allInt (l.map V.int) = true
  | [] => rfl
  | _ :: r => allInt_ints r
theorem c_draw {m : Int} {ds : List Int} (hd : Gd ds) (hl : ds.length ≤ 100) (m0 : 0 < m) (mm : m ≤ 1000) (q : ∀ r ds', 0 ≤ r → r < m → Gd ds' → ds'.length ≤ 100 → Q (.v (.int r)) (sI ds')) :
    Ok (R C1 T1 (n + 2) (.v (.val (.ref 681))) [.m 0, .v (.int m)] (sI ds)) Q E := by
  refine ok_fn rfl (ok_run rfl (ok_exs_cons ?_))
  with_reducible refine st_while ?_
  refine Ok.mono (Q := fun p st => p.1 = .next ∧ ∃ ds', p.2 = [(Str.ofString "deck", .m 0), (Str.ofString "many", .v (.int m))] ∧ st = sI ds' ∧ Gd ds' ∧ ds'.length ≤ 100) ?_ ?_
  · refine ok_while (fun k ρ st => k ≤ 100 ∧ ID m k ρ st) ?_ ds.length _ _ _ (by unfold LIM; omega) ⟨hl, rfl, ds, rfl, hd, rfl⟩
    intro k ρ st hI
    obtain ⟨hk, rfl, ds, rfl, hg, rfl⟩ := hI
    cases ds with
    | nil =>
      repeat' (walk_at "ev")
      exact ⟨rfl, [], rfl, rfl, hg, by decide⟩
    | cons d ds =>
      have hg' : Gd ds := fun x h => hg x (.tail _ h)
      repeat' (walk_at "ev")
      refine lv_ne at0 ?_
      refine br_true rfl ?_
      repeat' (walk_at "ev")
      refine lv_at0 at0 ?_
      repeat' (walk_at "ev")
      · with_reducible apply ex_methL
        · exact rfl
        repeat' (walk_at "ev")
        refine ⟨_, rfl, ?_⟩
        repeat' (walk_at "ev")
        refine lm_pop0 at0 ?_
        repeat' (walk_at "ev")
        exact ⟨ds.length, by simp, by simp only [List.length_cons] at hk; omega, rfl, ds, rfl, hg', rfl⟩
      · exact ⟨rfl, d :: ds, rfl, rfl, hg, hk⟩
  · intro p st hp
    obtain ⟨fl, ρ'⟩ := p
    obtain ⟨h1, ds', h2, h3, hg, hz⟩ := hp
    dsimp only at h1 h2
    subst h1 h2 h3
    refine after_next ?_
    cases ds' with
    | nil =>
      repeat' (walk_at "ev")
      refine ends_v ?_
      exact q 0 [] (by decide) m0 hg (by decide)
    | cons d ds =>
      have hg' : Gd ds := fun x h => hg x (.tail _ h)
      have hd0 := hg d (.head _)
      repeat' (walk_at "ev")
      refine lv_eq at0 ?_
      refine br_false rfl ?_
      repeat' (walk_at "ev")
      refine lv_at0 at0 ?_
      repeat' (walk_at "ev")
      · omega
      refine lv_at0 at0 ?_
      repeat' (walk_at "ev")
      · exact dv_of (by omega) (Lo.sm (by unfold Lo; omega))
      refine ⟨_, _, _, _, rfl, rfl, rfl, at0, ⟨allInt_ints _, by decide, by rw [List.length_map, List.length_cons]; omega, by decide⟩, ?_⟩
      repeat' (walk_at "ev")
      refine q _ ((d.fdiv m) :: ds) (Int.fmod_nonneg_of_pos _ m0) (Int.fmod_lt_of_pos _ m0) ?_ hz
      intro x hx
      rcases List.mem_cons.mp hx with rfl | hx
      · rw [Int.fdiv_eq_ediv_of_nonneg _ (by omega)]; exact Int.ediv_nonneg hd0 (by omega)
      · exact hg' x hx
end







section
variable {n : Nat} {t b u c : Int} {st : Sto} {E : V → Sto → Prop} {Q : D → Sto → Prop}
structure Sz (A B : Nat) (t b : Int) : Prop where
  b0 : 0 < b
  g : Int.gcd t b = 1
  am : t.natAbs ≤ A
  bm : b ≤ B
noncomputable def aP (t b u c : Int) : Int := addT t b u c / addS t b u c
noncomputable def aR (t b u c : Int) : Int := b / addG b c * (c / addS t b u c)
theorem Sz.num {A B : Nat} {t b : Int} (S : Sz A B t b) (h1 : A ≤ 1000000000000) (h2 : B ≤ 500000) : Num t b :=
  ⟨S.b0, S.g, by have := S.am; omega, by have := S.am; omega, by have := S.bm; omega⟩
theorem Sz.neg {A B : Nat} {t b : Int} (S : Sz A B t b) : Sz A B (-t) b := ⟨S.b0, by rw [Int.neg_gcd]; exact S.g, by rw [Int.natAbs_neg]; exact S.am, S.bm⟩
theorem Sz.abs {A B : Nat} {t b : Int} (S : Sz A B t b) : Sz A B t.natAbs b := ⟨S.b0, S.g, by have := S.am; omega, S.bm⟩
theorem Sz.mono {A B A' B' : Nat} {t b : Int} (S : Sz A B t b) (h1 : A ≤ A') (h2 : B ≤ B') : Sz A' B' t b := ⟨S.b0, S.g, Nat.le_trans S.am h1, by have := S.bm; omega⟩
theorem Sz.add {A B A' B' : Nat} {t b u c : Int} (S : Sz A B t b) (S' : Sz A' B' u c) : Sz (A * B' + A' * B) (B * B') (aP t b u c) (aR t b u c) := by
  have H := add_ok S.b0 S'.b0 S.g S'.g
  have c1 : c.natAbs ≤ B' := by have := S'.bm; have := S'.b0; omega
  have b1 : b.natAbs ≤ B := by have := S.bm; have := S.b0; omega
  refine ⟨H.q0, H.g, Nat.le_trans H.pm (Nat.add_le_add (Nat.mul_le_mul S.am c1) (Nat.mul_le_mul S'.am b1)), Int.le_trans H.qm ?_⟩
  push_cast
  exact Int.mul_le_mul S.bm S'.bm (by have := S'.b0; omega) (by omega)
theorem gcd_sz {t b : Int} {A B : Nat} (hb : 0 < b) (ha : t.natAbs ≤ A) (hm : b ≤ B) : Sz A B (t / Int.gcd t b) (b / Int.gcd t b) := by
  have hg : 0 < Int.gcd t b := gcd_pos' (by omega)
  refine ⟨?_, Int.gcd_ediv_gcd_ediv_gcd hg, ?_, ?_⟩
  · exact Int.pos_of_mul_pos_left (b := (Int.gcd t b : Int)) (by rw [Int.ediv_mul_cancel (Int.gcd_dvd_right t b)]; exact hb) (by omega)
  · refine Nat.le_trans ?_ ha
    rw [Int.natAbs_ediv_of_dvd (Int.gcd_dvd_left t b)]
    exact Nat.div_le_self _ _
  · have := Int.ediv_le_self (Int.gcd t b : Int) (show 0 ≤ b by omega)
    omega
theorem c_addS {A B A' B' : Nat} (S : Sz A B t b) (S' : Sz A' B' u c) (h1 : A ≤ 1000000000000) (h2 : B ≤ 500000) (h3 : A' ≤ 1000000000000) (h4 : B' ≤ 500000) (q : Q (.v (nV (aP t b u c) (aR t b u c))) st) :
    Ok (R C1 T1 (n + 4) (.v (.val (.ref 119))) [.v (nV t b), .v (nV u c)] st) Q E :=
  c_add (S.num h1 h2).st (S.num h1 h2).sb (S'.num h3 h4).st (S'.num h3 h4).sb S.b0 S'.b0 q
theorem c_subS {A B A' B' : Nat} (S : Sz A B t b) (S' : Sz A' B' u c) (h1 : A ≤ 1000000000000) (h2 : B ≤ 500000) (h3 : A' ≤ 1000000000000) (h4 : B' ≤ 500000) (q : Q (.v (nV (aP t b (-u) c) (aR t b (-u) c))) st) :
    Ok (R C1 T1 (n + 5) (.v (.val (.ref 126))) [.v (nV t b), .v (nV u c)] st) Q E :=
  c_sub (S.num h1 h2).st (S.num h1 h2).sb (S'.num h3 h4).st (S'.num h3 h4).sb S.b0 S'.b0 q
noncomputable abbrev tow : V := .inst 665 ["precision"] [.int 5]
theorem c_rat {A B A' B' : Nat} (S : Sz A B t b) (S' : Sz A' B' u c) (h1 : A ≤ 1000000000000) (h2 : B ≤ 500000) (h3 : A' ≤ 1000000000000) (h4 : B' ≤ 500000) (h5 : A * B' + A' * B ≤ 1000000000000) (h6 : B * B' ≤ 500000)
    (q : ∀ P R, Res' (aP t b (-(u.natAbs : Int)) c) (aR t b (-(u.natAbs : Int)) c) (aP t b u.natAbs c) (aR t b u.natAbs c) P R → Q (.v (nV P R)) st) :
    Ok (R C1 T1 (n + 11) (.v (.val (.ref 662))) [.v tow, .v (nV t b), .v (nV u c)] st) Q E := by
  refine ok_fn rfl (ok_run rfl (ok_exs_cons ?_))
  repeat' (walk_at "ev")
  with_reducible refine c_subS S S'.abs h1 h2 h3 h4 ?_
  repeat' (walk_at "ev")
  with_reducible refine c_addS S S'.abs h1 h2 h3 h4 ?_
  repeat' (walk_at "ev")
  with_reducible refine c_between ((S.add S'.abs.neg).num h5 h6) ((S.add S'.abs).num h5 h6) fun P R H => ?_
  repeat' (walk_at "ev")
  exact q P R H
theorem c_lexact {ds : List Int} (hd : Gd ds) (hl : ds.length ≤ 100) (q : ∀ t b ds', Sz 60 12 t b → Gd ds' → ds'.length ≤ 100 → Q (.v (nV t b)) (sI ds')) :
    Ok (R C1 T1 (n + 4) (.v (.val (.ref 688))) [.m 0] (sI ds)) Q E := by
  refine ok_fn rfl (ok_run rfl (ok_exs_cons ?_))
  repeat' (walk_at "ev")
  refine c_draw hd hl (by decide) (by decide) fun r ds1 r0 r1 hd1 hl1 => ?_
  repeat' (walk_at "ev")
  refine c_draw hd1 hl1 (by decide) (by decide) fun s ds2 s0 s1 hd2 hl2 => ?_
  repeat' (walk_at "ev")
  refine c_ratio (Lo.sm (by unfold Lo; omega)) (Lo.sm (by unfold Lo; omega)) (by omega) ?_
  repeat' (walk_at "ev")
  refine ends_v ?_
  exact q _ _ ds2 (gcd_sz (by omega) (by omega) (by omega)) hd2 hl2
end







section
variable {n : Nat} {t b u c : Int} {st : Sto} {E : V → Sto → Prop} {Q : D → Sto → Prop}
theorem c_isintV (q : Q (.v (.bool (decide (b = 1)))) st) : Ok (R C1 T1 (n + 1) (.v (.val (.builtin "isinstance"))) [.v (nV t b), .v (.val (.type "int"))] st) Q E := by
  unfold nV
  split
  all_goals
    rename_i h
    repeat' (walk_at "ev")
    simpa [h] using q
theorem c_ratV {A B : Nat} {k : Int} (h1 : t.natAbs ≤ A) (h2 : A ≤ 1000000) (k0 : 0 < k) (hk : k ≤ B) (h3 : B ≤ 1000000) (q : ∀ t' b', Sz A B t' b' → Q (.v (nV t' b')) st) : Ok (R C1 T1 (n + 3) (.v (.val (.ref 91))) [.v (.int t), .v (.int k)] st) Q E :=
  c_ratio (Lo.sm (by unfold Lo; omega)) (Lo.sm (by unfold Lo; omega)) k0 (q _ _ (gcd_sz k0 h1 hk))
noncomputable def forB : Stmt → List Stmt
  | .For _ _ b _ _ => b
  | _ => []
noncomputable def ρL (ns : List Int) : En := [(Str.ofString "script", .v (.lst (ns.map V.int))), (Str.ofString "deck", .m 0), (Str.ofString "tower", .v tow)]
noncomputable def ρL1 (ns : List Int) (a b c d : D) : En := [(Str.ofString "script", .v (.lst (ns.map V.int))), (Str.ofString "deck", .m 0), (Str.ofString "tower", .v tow), (Str.ofString "turn", a), (Str.ofString "one", b), (Str.ofString "other", c), (Str.ofString "due", d)]
noncomputable def IL (ns : List Int) (_l : List V) (ρ : En) (st : Sto) : Prop := (ρ = ρL ns ∨ ∃ a b c d, ρ = ρL1 ns a b c d) ∧ ∃ ds, st = sI ds ∧ Gd ds ∧ ds.length ≤ 100

noncomputable def QL (ns : List Int) (p : Fl × En) (st : Sto) : Prop := p.1 = .next ∧ IL ns [] p.2 st
theorem c_lrest {ns : List Int} {t1 b1 t2 b2 : Int} {ρ : En} {ds : List Int} {x : D} (S1 : Sz 60 12 t1 b1) (S2 : Sz 24720 4800 t2 b2) (hd : Gd ds) (hl : ds.length ≤ 100)
    (hρ : ρ = ρL ns ++ [(Str.ofString "turn", x), (Str.ofString "one", .v (nV t1 b1)), (Str.ofString "other", .v (nV t2 b2))] ∨ ∃ d, ρ = ρL1 ns x (.v (nV t1 b1)) (.v (nV t2 b2)) d) :
    Ok (exs ((Mine.X C1 (R C1 T1 100) 63).st (fi 61).sc) (dropS 3 (forB (nthS (fi 61).body 2))) ρ (sI ds)) (QL ns) (fun _ _ => False) := by
  rcases hρ with rfl | ⟨d, rfl⟩
  all_goals
    refine ok_exs_cons ?_
    repeat' (walk_at "ev")
    refine c_right (S1.num (by decide) (by decide)) (S2.num (by decide) (by decide)) ?_
    repeat' (walk_at "ev")
    refine c_subS S1 S2.abs (by decide) (by decide) (by decide) (by decide) ?_
    repeat' (walk_at "ev")
    refine c_addS S1 S2.abs (by decide) (by decide) (by decide) (by decide) ?_
    repeat' (walk_at "ev")
    refine c_simplest ((S1.add S2.abs.neg).num (by decide) (by decide)) ((S1.add S2.abs).num (by decide) (by decide)) fun P R H => ?_
    repeat' (walk_at "ev")
    with_reducible apply ex_meth
    · exact rfl
    repeat' (walk_at "ev")
    refine ⟨_, _, _, _, rfl, rfl, rfl, ?_⟩
    repeat' (walk_at "ev")
    refine c_rat S1 S2 (by decide) (by decide) (by decide) (by decide) (by decide) (by decide) fun P2 R2 H2 => ?_
    obtain ⟨rfl, rfl⟩ := res_unique' H H2
    repeat' (walk_at "ev")
    refine br_true (by simp) ?_
    repeat' (walk_at "ev")
    exact ⟨rfl, .inr ⟨_, _, _, _, rfl⟩, ds, rfl, hd, hl⟩

noncomputable def QO (ns : List Int) (x : D) (t1 b1 : Int) (p : Fl × En) (st : Sto) : Prop :=
  p.1 = .next ∧ ∃ ds t2 b2, st = sI ds ∧ Gd ds ∧ ds.length ≤ 100 ∧ Sz 24720 4800 t2 b2 ∧ (p.2 = ρL ns ++ [(Str.ofString "turn", x), (Str.ofString "one", .v (nV t1 b1)), (Str.ofString "other", .v (nV t2 b2))] ∨ ∃ d, p.2 = ρL1 ns x (.v (nV t1 b1)) (.v (nV t2 b2)) d)
theorem law1 {ns : List Int} (hn : ns.length ≤ 63) : Ok (exs ((Mine.X C1 (R C1 T1 100) 64).st (fi 61).sc) (fi 61).body [(Str.ofString "script", .v (.lst (ns.map V.int)))] []) (fun p _ => p.1 = Fl.ret (.v (.bool true))) (fun _ _ => False) := by
  refine ok_exs_cons ?_
  repeat' (walk_at "ev")
  refine c_deck hn fun ds hd hl => ?_
  repeat' (walk_at "ev")
  refine ok_cls rfl rfl rfl rfl ?_
  repeat' (walk_at "ev")
  with_reducible apply st_for
  · exact rfl
  repeat' (walk_at "ev")
  refine c_range1 (by decide) ?_
  refine lv_rng (by decide) (by decide) ?_
  refine ok_for (IL ns) ?_ ?_ _ _ _ ⟨.inl rfl, ds, rfl, hd, hl⟩
  · intro ρ st hI
    obtain ⟨hρ, ds, rfl, hd, hl⟩ := hI
    rcases hρ with rfl | ⟨a, b, c, d, rfl⟩
    all_goals
      repeat' (walk_at "ev")
      exact rfl
  · intro x r ρ st hI
    obtain ⟨hρ, ds, rfl, hd, hl⟩ := hI
    rcases hρ with rfl | ⟨a, b, c, d, rfl⟩
    all_goals
      refine ⟨_, rfl, ?_⟩
      repeat' (walk_at "ev")
      refine c_lexact hd hl fun t1 b1 ds1 S1 hd1 hl1 => ?_
      repeat' (walk_at "ev")
      refine c_lexact hd1 hl1 fun t2 b2 ds2 S2 hd2 hl2 => ?_
      refine after_next (ok_exs_cons (Ok.mono (Q := QO ns (.v x) t1 b1) ?_ ?_))
      · repeat' (walk_at "ev")
        refine c_draw hd2 hl2 (by decide) (by decide) fun r ds3 r0 r1 hd3 hl3 => ?_
        repeat' (walk_at "ev")
        · refine c_isintV ?_
          repeat' (walk_at "ev")
          all_goals
            first | (rename_i hb; subst hb) | skip
            refine c_ratV (A := 60) (B := 400) S2.am (by decide) (by decide) (by decide) (by decide) fun t3 b3 S3 => ?_
            repeat' (walk_at "ev")
            refine c_addS S1 S3 (by decide) (by decide) (by decide) (by decide) ?_
            refine after_next (ok_exs_nil ?_)
            refine ⟨rfl, ds3, _, _, rfl, hd3, hl3, S1.add S3, ?_⟩
            first | exact .inl rfl | exact .inr ⟨_, rfl⟩
        · refine ⟨rfl, ds3, _, _, rfl, hd3, hl3, S2.mono (by decide) (by decide), ?_⟩
          first | exact .inl rfl | exact .inr ⟨_, rfl⟩
      · intro p st hp
        obtain ⟨fl, ρ'⟩ := p
        obtain ⟨h1, ds3, t3, b3, h2, hd3, hl3, S3, hρ⟩ := hp
        dsimp only at h1 h2 hρ
        subst h1 h2
        refine after_next ?_
        refine (c_lrest (ns := ns) (x := .v x) S1 S3 hd3 hl3 hρ).mono ?_
        intro p st hp
        obtain ⟨fl, ρ'⟩ := p
        obtain ⟨h1, h2⟩ := hp
        dsimp only at h1 h2
        subst h1
        exact h2
end

end Mine
end

set_option maxRecDepth 100000 in
set_option maxHeartbeats 8000000 in
theorem PySem.Challenge.cw_nt0210_01_holds : PySem.Challenge.rw_nt0210_01.Holds := by
  exact Mine.H1 fun _ hn => Mine.law1 hn
