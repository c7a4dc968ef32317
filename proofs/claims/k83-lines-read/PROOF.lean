import PyProof.Rows.All
import HandS.ForMost
import HandS.ForExc
import HandS.Wide
import HandS.IsInst
import HandS.Star
import HandS.NoneIn
import HandS.TupAny
import HandS.StrMore
import HandS.FStr
import HandS.ReplaceLit
import PyProof.StrOps2
import HandS.RaiseMore
import PyProof.Draws
import HandS.Zip
import HandS.Defaults
import HandS.HeadEnd
import HandS.HeadHook4
import HandS.Head0
import HandS.Head1
import HandS.Head2
import HandS.HeadHook1
import HandS.HeadHook2
import HandS.HeadHook3
import HandS.Words
import PyProof.StrLawsOcc
import PyProof.P3Eq
import PyProof.StrLawsReplace
import PySem.Challenge.RW_diesnon_k83_lines_read
set_option Elab.async false
set_option linter.all false
section
set_option Elab.async false
set_option linter.all false
set_option maxRecDepth 100000
/-! Mn: a small Python of values. D: frozen data; Sl: what a local name holds; Cell: an object; E, S: the compiled text; ev, ex: what it does. -/
namespace Mn
open PySem

/-! ### data -/
inductive D where
  | non | bl (b : Bool) | int (i : Int) | str (s : Str)
  | tup (xs : List D) | lst (xs : List D)
  | dic (kvs : List (L2.Key × D))
  | al (r : Nat)
  deriving Inhabited
/-- what a local name or an attribute holds: nothing; data; a list of its own, that may change; a dict of its own -/
inductive Sl where
  | un | d (x : D) | ml (xs : List D) | md (kvs : List (L2.Key × D))
  deriving Inhabited
/-- an object of a class -/
structure Cell where
  cls : Str
  fs : List (Str × Sl)
abbrev Store := List Cell
abbrev Slots := List Sl
structure Exc where
  cls : Str
  fs : List (Str × D)

inductive Res (α : Type) where
  | ok (a : α) (st : Store)
  | ex (x : Exc) (st : Store)
  | bad
def Res.bind {α β : Type} (r : Res α) (f : α → Store → Res β) : Res β := match r with
  | .ok a st => f a st
  | .ex x st => .ex x st
  | .bad => .bad
def asB (r : Res D) : Res Bool := r.bind fun d st => match d with
  | .bl b => .ok b st
  | _ => .bad
def asI (r : Res D) : Res Int := r.bind fun d st => match d with
  | .int i => .ok i st
  | _ => .bad
def lift {α : Type} (o : Option α) (st : Store) : Res α := match o with
  | some a => .ok a st
  | none => .bad
theorem bind_ok {α β : Type} (a : α) (st : Store) (f : α → Store → Res β) : (Res.ok a st).bind f = f a st := rfl
theorem bind_bad {α β : Type} (f : α → Store → Res β) : (Res.bad : Res α).bind f = .bad := rfl
theorem bind_ex {α β : Type} (x : Exc) (st : Store) (f : α → Store → Res β) : (Res.ex x st : Res α).bind f = .ex x st := rfl
theorem lift_some {α : Type} (a : α) (st : Store) : lift (some a) st = .ok a st := rfl
theorem lift_none {α : Type} (st : Store) : lift (none : Option α) st = .bad := rfl

/-- the largest length of a list, of a text -/
abbrev LIM : Nat := 1000000

/-! ### equality of data -/
mutual
def py : D → Option PyData
  | .non => some .none
  | .bl b => some (.bool b)
  | .int i => some (.int i)
  | .str s => some (.str s)
  | .tup xs => (pyL xs).map .tuple
  | .lst xs => (pyL xs).map .list
  | .dic _ => none
  | .al _ => none
def pyL : List D → Option (List PyData)
  | [] => some []
  | x :: xs => (py x).bind fun y => (pyL xs).map fun ys => y :: ys
end
/-- data that == may be asked of -/
def pyOk (d : D) : Option PyData := (py d).bind fun y => if SeqAt.shaped y = true then some y else none
def eqD (a b : D) : Option Bool := (pyOk a).bind fun x => (pyOk b).map fun y => PyData.eqv x y

/-! ### operators -/
def bin (op : Operator) (a b : D) : Option D := match op, a, b with
  | .Add, .int i, .int j => some (.int (i + j))
  | .Add, .str x, .str y => if x.length + y.length ≤ LIM then some (.str (x ++ y)) else none
  | .Add, .lst xs, .lst ys => if xs.length + ys.length ≤ LIM then some (.lst (xs ++ ys)) else none
  | .Add, .tup xs, .tup ys => if xs.length + ys.length ≤ LIM then some (.tup (xs ++ ys)) else none
  | .Sub, .int i, .int j => some (.int (i - j))
  | .Mult, .int i, .int j => if i.natAbs < 2 ^ 64 ∨ j.natAbs < 2 ^ 64 then some (.int (i * j)) else none
  | .Mult, .str x, .int n => if 2 ≤ n ∧ n ≤ 1000 ∧ 1 ≤ x.length ∧ x.length ≤ 1000 then some (.str ⟨(List.replicate n.toNat x.cps).foldl (· ++ ·) #[]⟩) else none
  | .FloorDiv, .int i, .int j => if j ≠ 0 ∧ j.natAbs < 1073741824 then some (.int (i.fdiv j)) else none
  | .Mod, .int i, .int j => if j ≠ 0 then some (.int (i.fmod j)) else none
  | .Pow, .int i, .int j => if 0 ≤ j ∧ j ≤ 1000000 ∧ i.natAbs < 2 ^ 64 then some (.int (i ^ j.toNat)) else none
  | _, _, _ => none
/-- is x among these -/
def inList (x : D) (ys : List D) : Option Bool := (pyOk x).bind fun d => (pyOk (.tup ys)).bind fun e => match e with
  | .tuple zs => some (zs.any fun z => PyData.eqv z d)
  | _ => none
def inD (x y : D) : Option Bool := match x, y with
  | .str a, .str b => some (!(Builtin.Str.occurrences b a 0 b.length 1).isEmpty)
  | x, .tup ys => inList x ys
  | x, .lst ys => inList x ys
  | _, _ => none
def isN : D → Bool
  | .non => true
  | _ => false
def cmp (op : CmpOp) (a b : D) : Option D := match op, a, b with
  | .Eq, a, b => (eqD a b).map .bl
  | .NotEq, a, b => (eqD a b).map fun r => .bl (!r)
  | .Lt, .int i, .int j => some (.bl (decide (i < j)))
  | .LtE, .int i, .int j => some (.bl (decide (i ≤ j)))
  | .Gt, .int i, .int j => some (.bl (decide (j < i)))
  | .GtE, .int i, .int j => some (.bl (decide (j ≤ i)))
  | .Lt, .str i, .str j => some (.bl (decide (i.cps.toList < j.cps.toList)))
  | .LtE, .str i, .str j => some (.bl (!decide (j.cps.toList < i.cps.toList)))
  | .Is, a, .non => some (.bl (isN a))
  | .IsNot, a, .non => some (.bl (!isN a))
  | .In, a, b => (inD a b).map .bl
  | .NotIn, a, b => (inD a b).map fun r => .bl (!r)
  | _, _, _ => none
/-- truth, where it is plain -/
def truth : D → Option Bool
  | .bl b => some b
  | _ => none
def kget (kvs : List (L2.Key × D)) (k : L2.Key) : Option D := match kvs with
  | [] => none
  | (k', d) :: r => if k' = k then some d else kget r k
def ix (a i : D) : Option D := match a, i with
  | .tup xs, .int i => L2.atI xs i
  | .lst xs, .int i => L2.atI xs i
  | .str z, .int i => if z.length ≤ LIM then (L2.atI z.cps.toList i).map fun c => .str ⟨#[c]⟩ else none
  | .dic kvs, .str k => kget kvs (.inr k)
  | .dic kvs, .int k => kget kvs (.inl k)
  | _, _ => none
def cutD (xs : List D) (lo hi : Option Int) : List D := (xs.drop (HT.sIx xs.length 0 lo)).take (HT.sIx xs.length xs.length hi - HT.sIx xs.length 0 lo)
def slc (a : D) (lo hi : Option Int) : Option D := match a with
  | .tup xs => some (.tup (cutD xs lo hi))
  | .lst xs => some (.lst (cutD xs lo hi))
  | .str z => if z.length ≤ LIM then some (.str (L2.cutS z lo hi)) else none
  | _ => none

/-! ### built-in functions, methods of texts -/
def allB : List D → Option Bool
  | [] => some true
  | .bl b :: r => (allB r).map fun c => b && c
  | _ => none
def anyB : List D → Option Bool
  | [] => some false
  | .bl b :: r => (anyB r).map fun c => b || c
  | _ => none
def txts : List D → Option (List Str)
  | [] => some []
  | .str z :: r => (txts r).map fun zs => z :: zs
  | _ => none
def isT : D → Option Bool
  | .tup _ => some true
  | .al _ => none
  | _ => some false
def isI : D → Option Bool
  | .int _ => some true
  | .bl _ => some true
  | .al _ => none
  | _ => some false
def isS : D → Option Bool
  | .str _ => some true
  | .al _ => none
  | _ => some false
inductive Bt where
  | len | int | abs | str | tuple | list | all | any | max2 | min2 | isT | isI | isS
  deriving DecidableEq, Repr
def bfun (f : Bt) (xs : List D) : Option D := match f, xs with
  | .len, [.str z] => if z.length ≤ LIM then some (.int z.length) else none
  | .len, [.tup ys] => some (.int ys.length)
  | .len, [.lst ys] => some (.int ys.length)
  | .int, [.int i] => some (.int i)
  | .int, [.bl b] => some (.int (if b then 1 else 0))
  | .int, [.str a] => if a.length ≤ 640 then (PySem.intText? a).map .int else none
  | .abs, [.int i] => some (.int (if i < 0 then -i else i))
  | .str, [.int i] => if i.natAbs.log2 < 1920 then some (.str (toString i)) else none
  | .str, [.str a] => some (.str a)
  | .tuple, [.lst ys] => some (.tup ys)
  | .tuple, [.tup ys] => some (.tup ys)
  | .list, [.lst ys] => some (.lst ys)
  | .list, [.tup ys] => some (.lst ys)
  | .all, [.lst ys] => (allB ys).map .bl
  | .any, [.lst ys] => (anyB ys).map .bl
  | .max2, [.int i, .int j] => some (.int (if j > i then j else i))
  | .min2, [.int i, .int j] => some (.int (if j < i then j else i))
  | .isT, [x] => (isT x).map .bl
  | .isI, [x] => (isI x).map .bl
  | .isS, [x] => (isS x).map .bl
  | _, _ => none
inductive Sm where
  | split | partition | join | upper | endswith | replace | replace3
  deriving DecidableEq, Repr
/-- text.replace(y, z, 1) -/
def rep1 (a y z : Str) : Str := if ((Builtin.Str.occurrences a y 0 a.length 1).isEmpty || (y.length == 0 && z.length == 0)) = true then a else Builtin.Str.glued z (Builtin.Str.partsBetween a (Builtin.Str.occurrences a y 0 a.length 1) y.length)
def smeth (m : Sm) (x : D) (xs : List D) : Option D := match m, x, xs with
  | .split, .str a, [.str b] => if b.length ≠ 0 ∧ a.length ≤ LIM then some (.lst ((PySem.Txt.split a b).map .str)) else none
  | .partition, .str a, [.str b] => if b.length ≠ 0 ∧ a.length ≤ LIM then some (.tup [.str (PySem.Txt.partition a b).1, .str (PySem.Txt.partition a b).2.1, .str (PySem.Txt.partition a b).2.2]) else none
  | .join, .str a, [.lst ys] => (txts ys).bind fun zs => if (zs.map (·.length)).sum + zs.length * a.length ≤ LIM then some (.str (PySem.Txt.join a zs)) else none
  | .upper, .str a, [] => if a.length ≤ LIM then some (.str (PySem.Txt.upper a)) else none
  | .endswith, .str a, [.str b] => some (.bl (PySem.Txt.endswith a b))
  | .replace, .str a, [.str y, .str z] => if (y == z) = false ∧ a.length + (a.length + 1) * z.length ≤ LIM then some (.str (PySem.Txt.replace a y z)) else none
  | .replace3, .str a, [.str y, .str z, .int i] => if i = 1 ∧ (y == z) = false ∧ a.length + (Builtin.Str.occurrences a y 0 a.length 1).length * z.length ≤ LIM ∧ (rep1 a y z).length ≤ LIM then some (.str (rep1 a y z)) else none
  | _, _, _ => none

/-! ### the compiled text -/
inductive E where
  | k (d : D) | var (i : Nat) | glo (x : Str)
  | bin (op : Operator) (a b : E) | neg (a : E)
  | cmp (op : CmpOp) (a b : E) | chn (o p : CmpOp) (a b c : E)
  | and (a b : E) | or (a b : E) | not (a : E) | ite (c a b : E)
  | tup (es : List E) | lst (es : List E) | tupS (es : List E) (e : E)
  | ix (a b : E) | slcL (a lo : E) | slcH (a hi : E) | slcB (a lo hi : E)
  | call (f : Str) (es : List E)
  | blt (f : Bt) (es : List E) | sm (m : Sm) (a : E) (es : List E)
  | rng1 (a : E) | rng2 (a b : E) | zip (a b : E)
  | lc (tg : List Nat) (it c el : E) (own : List Nat)
  | ixv (i : Nat) (e : E) | bltv (f : Bt) (i : Nat)
  | cdin (neg : Bool) (x : Str) (e : E) | cdix (x : Str) (e : E)
  deriving Inhabited
inductive S where
  | asg (tg : List Nat) (e : E)
  | newl (i : Nat) (e : E)
  | app (i : Nat) (e : E)
  | aug (i : Nat) (op : Operator) (e : E)
  | exp (e : E) | ret (e : E) | retN
  | ite (c : E) (a b : List S)
  | loop (tg : List Nat) (it : E) (b : List S)
  | whl (c : E) (b : List S)
  | brk | cont | pass
  | frz (is : List Nat) (s : S)
  deriving Inhabited

/-! ### what it does -/
/-- a target's store: a name, or names for the items of a tuple -/
def putAll : List Nat → List D → Slots → Option Slots
  | [], [], ρ => some ρ
  | i :: is, x :: xs, ρ => putAll is xs (ρ.set i (.d x))
  | _, _, _ => none
def put (tg : List Nat) (x : D) (ρ : Slots) : Option Slots := match tg with
  | [i] => some (ρ.set i (.d x))
  | is => match x with
    | .tup xs => putAll is xs ρ
    | _ => none
def wipe (ρ : Slots) : List Nat → Slots
  | [] => ρ
  | v :: vs => (wipe ρ vs).set v .un
def items : D → Option (List D)
  | .lst xs => some xs
  | .tup xs => some xs
  | _ => none
def asL (r : Res D) : Res (List D) := r.bind fun d st => lift (items d) st
def chars (z : Str) : List D := z.cps.toList.map fun c => .str ⟨#[c]⟩
/-- what a loop may walk -/
def itemsI : D → Option (List D)
  | .lst xs => some xs
  | .tup xs => some xs
  | .str z => some (chars z)
  | _ => none
def asIt (r : Res D) : Res (List D) := r.bind fun d st => lift (itemsI d) st
/-- no error may leave (within a comprehension) -/
def noex {α : Type} (r : Res α) : Res α := match r with
  | .ok a st => .ok a st
  | _ => .bad
def lcGo (step : D → Store → Res (Option D)) : List D → List D → Store → Res (List D)
  | [], acc, st => .ok acc st
  | x :: xs, acc, st => (step x st).bind fun o st => match o with
    | some y => if acc.length < LIM then lcGo step xs (acc ++ [y]) st else .bad
    | none => lcGo step xs acc st
def lcTurn (o : Option Slots) (fc fe : Slots → Store → Res D) (st : Store) : Res (Option D) := match o with
  | some ρ' => (noex (asB (fc ρ' st))).bind fun t st => match t with
    | true => (noex (fe ρ' st)).bind fun y st => .ok (some y) st
    | false => .ok none st
  | none => .bad
def zipD : List D → List D → List D
  | x :: xs, y :: ys => .tup [x, y] :: zipD xs ys
  | _, _ => []
def zipQ : D → D → Option (List D)
  | .lst xs, .lst ys => some (zipD xs ys)
  | .tup xs, .tup ys => some (zipD xs ys)
  | .str z, .lst ys => some (zipD (chars z) ys)
  | _, _ => none
/-- a dict of the module with text keys -/
def cdIn (o : Option (List (Str × D))) (neg : Bool) (d : D) : Option D := match o, d with
  | some kvs, .str z => some (.bl (if neg then !(kvs.lookup z).isSome else (kvs.lookup z).isSome))
  | _, _ => none
def cdIx (o : Option (List (Str × D))) (d : D) : Option D := match o, d with
  | some kvs, .str z => kvs.lookup z
  | _, _ => none
structure Ctx where
  call : Str → Store → List D → Res D
  glo : Str → Option D
  cd : Str → Option (List (Str × D))
def andB (r : Res D) (f : Store → Res D) : Res D := (asB r).bind fun x st => match x with
  | true => f st
  | false => .ok (.bl false) st
def orB (r : Res D) (f : Store → Res D) : Res D := (asB r).bind fun x st => match x with
  | true => .ok (.bl true) st
  | false => f st
def iteB (r : Res D) (f g : Store → Res D) : Res D := (asB r).bind fun x st => match x with
  | true => f st
  | false => g st
def varD (s : Option Sl) (st : Store) : Res D := match s with
  | some (.d x) => .ok x st
  | _ => .bad
def strR (x : D) (f : Str → Res D) : Res D := match x with
  | .str z => f z
  | _ => .bad
def rngOk (i : Int) : Bool := decide (-(2 ^ 62) ≤ i ∧ i < 2 ^ 62)
mutual
def ev (Γ : Ctx) : E → Slots → Store → Res D
  | .k d, _, st => .ok d st
  | .var i, ρ, st => varD ρ[i]? st
  | .glo x, _, st => lift (Γ.glo x) st
  | .bin op a b, ρ, st => (ev Γ a ρ st).bind fun x st => (ev Γ b ρ st).bind fun y st => lift (bin op x y) st
  | .neg a, ρ, st => (ev Γ a ρ st).bind fun x st => match x with
    | .int i => .ok (.int (-i)) st
    | _ => .bad
  | .cmp op a b, ρ, st => (ev Γ a ρ st).bind fun x st => (ev Γ b ρ st).bind fun y st => lift (cmp op x y) st
  | .chn o p a b c, ρ, st => (ev Γ a ρ st).bind fun x st => (ev Γ b ρ st).bind fun y st => (asB (lift (cmp o x y) st)).bind fun r st => match r with
    | true => (ev Γ c ρ st).bind fun z st => lift (cmp p y z) st
    | false => .ok (.bl false) st
  | .and a b, ρ, st => andB (ev Γ a ρ st) fun st => ev Γ b ρ st
  | .or a b, ρ, st => orB (ev Γ a ρ st) fun st => ev Γ b ρ st
  | .not a, ρ, st => (asB (ev Γ a ρ st)).bind fun x st => .ok (.bl (!x)) st
  | .ite c a b, ρ, st => iteB (ev Γ c ρ st) (fun st => ev Γ a ρ st) fun st => ev Γ b ρ st
  | .tup es, ρ, st => (evL Γ es ρ st).bind fun xs st => if xs.length ≤ LIM then .ok (.tup xs) st else .bad
  | .lst es, ρ, st => (evL Γ es ρ st).bind fun xs st => if xs.length ≤ LIM then .ok (.lst xs) st else .bad
  | .tupS es e, ρ, st => (evL Γ es ρ st).bind fun xs st => (asL (ev Γ e ρ st)).bind fun ys st => if xs.length + ys.length ≤ LIM then .ok (.tup (xs ++ ys)) st else .bad
  | .ix a b, ρ, st => (ev Γ a ρ st).bind fun x st => (ev Γ b ρ st).bind fun y st => lift (ix x y) st
  | .slcL a lo, ρ, st => (ev Γ a ρ st).bind fun x st => (asI (ev Γ lo ρ st)).bind fun l st => lift (slc x (some l) none) st
  | .slcH a hi, ρ, st => (ev Γ a ρ st).bind fun x st => (asI (ev Γ hi ρ st)).bind fun h st => lift (slc x none (some h)) st
  | .slcB a lo hi, ρ, st => (ev Γ a ρ st).bind fun x st => (asI (ev Γ lo ρ st)).bind fun l st => (asI (ev Γ hi ρ st)).bind fun h st => lift (slc x (some l) (some h)) st
  | .call f es, ρ, st => (evL Γ es ρ st).bind fun xs st => Γ.call f st xs
  | .blt f es, ρ, st => (evL Γ es ρ st).bind fun xs st => lift (bfun f xs) st
  | .sm m a es, ρ, st => (ev Γ a ρ st).bind fun x st => strR x fun z => (evL Γ es ρ st).bind fun xs st => lift (smeth m (.str z) xs) st
  | .rng1 a, ρ, st => (ev Γ a ρ st).bind fun x st => match x with
    | .int n => if rngOk n = true then .ok (.lst ((List.range n.toNat).map fun (i : Nat) => D.int (0 + (i : Int)))) st else .bad
    | _ => .bad
  | .rng2 a b, ρ, st => (ev Γ a ρ st).bind fun x st => (ev Γ b ρ st).bind fun y st => match x, y with
    | .int i, .int j => if rngOk i = true ∧ rngOk j = true then .ok (.lst ((List.range (j - i).toNat).map fun (n : Nat) => D.int (i + (n : Int)))) st else .bad
    | _, _ => .bad
  | .zip a b, ρ, st => (ev Γ a ρ st).bind fun x st => (ev Γ b ρ st).bind fun y st => (lift (zipQ x y) st).bind fun zs st => .ok (.lst zs) st
  | .lc tg it c el own, ρ, st => (asIt (ev Γ it ρ st)).bind fun xs st => (lcGo (fun x st => lcTurn (put tg x (wipe ρ own)) (fun ρ st => ev Γ c ρ st) (fun ρ st => ev Γ el ρ st) st) xs [] st).bind fun ys st => .ok (.lst ys) st
  | .ixv i e, ρ, st => (ev Γ e ρ st).bind fun y st => match ρ[i]? with
    | some (.ml xs) => lift (ix (.lst xs) y) st
    | _ => .bad
  | .bltv f i, ρ, st => match ρ[i]? with
    | some (.ml xs) => if f matches .len | .tuple | .list then lift (bfun f [.lst xs]) st else .bad
    | _ => .bad
  | .cdin neg x e, ρ, st => (ev Γ e ρ st).bind fun d st => lift (cdIn (Γ.cd x) neg d) st
  | .cdix x e, ρ, st => (ev Γ e ρ st).bind fun d st => lift (cdIx (Γ.cd x) d) st
def evL (Γ : Ctx) : List E → Slots → Store → Res (List D)
  | [], _, st => .ok [] st
  | e :: es, ρ, st => (ev Γ e ρ st).bind fun x st => (evL Γ es ρ st).bind fun xs st => .ok (x :: xs) st
end

inductive Out where
  | nx (ρ : Slots) (st : Store) | bk (ρ : Slots) (st : Store) | ct (ρ : Slots) (st : Store) | rt (d : D) (st : Store) | ex (x : Exc) (ρ : Slots) (st : Store) | bad
/-- a statement's value is asked at ρ -/
def Res.out {α : Type} (r : Res α) (ρ : Slots) (f : α → Store → Out) : Out := match r with
  | .ok a st => f a st
  | .ex x st => .ex x ρ st
  | .bad => .bad
def ifO (r : Res D) (ρ : Slots) (f g : Store → Out) : Out := (asB r).out ρ fun t st => match t with
  | true => f st
  | false => g st
def putO (o : Option Slots) (f : Slots → Store → Out) (st : Store) : Out := match o with
  | some ρ => f ρ st
  | none => .bad
def nxO (o : Option Slots) (st : Store) : Out := match o with
  | some ρ => .nx ρ st
  | none => .bad
def Out.seq (o : Out) (f : Slots → Store → Out) : Out := match o with
  | .nx ρ st => f ρ st
  | o => o
def loopGo (body : D → Slots → Store → Out) : List D → Slots → Store → Out
  | [], ρ, st => .nx ρ st
  | x :: xs, ρ, st => match body x ρ st with
    | .nx ρ st => loopGo body xs ρ st
    | .ct ρ st => loopGo body xs ρ st
    | .bk ρ st => .nx ρ st
    | o => o
def whileGo (test : Slots → Store → Res D) (body : Slots → Store → Out) : Nat → Slots → Store → Out
  | 0, _, _ => .bad
  | n + 1, ρ, st => (asB (test ρ st)).out ρ fun t st => match t with
    | true => (match body ρ st with
      | .nx ρ st => whileGo test body n ρ st
      | .ct ρ st => whileGo test body n ρ st
      | .bk ρ st => .nx ρ st
      | o => o)
    | false => .nx ρ st
def augI (op : Operator) (y x : D) : Option D := match op, y, x with
  | .Add, .int a, .int b => some (.int (a + b))
  | .Sub, .int a, .int b => some (.int (a - b))
  | _, _, _ => none
def frzAll (ρ : Slots) : List Nat → Slots
  | [] => ρ
  | i :: is => match (frzAll ρ is)[i]? with
    | some (.ml xs) => (frzAll ρ is).set i (.d (.lst xs))
    | _ => frzAll ρ is
mutual
def xs1 (Γ : Ctx) (wf : Nat) : S → Slots → Store → Out
  | .asg tg e, ρ, st => (ev Γ e ρ st).out ρ fun x st => nxO (put tg x ρ) st
  | .newl i e, ρ, st => (ev Γ e ρ st).out ρ fun x st => match x with
    | .lst xs => .nx (ρ.set i (.ml xs)) st
    | _ => .bad
  | .app i e, ρ, st => match ρ[i]? with
    | some (.ml xs) => (ev Γ e ρ st).out ρ fun x st => if xs.length < LIM then .nx (ρ.set i (.ml (xs ++ [x]))) st else .bad
    | _ => .bad
  | .aug i op e, ρ, st => match ρ[i]? with
    | some (.d y) => (ev Γ e ρ st).out ρ fun x st => match augI op y x with
      | some z => .nx (ρ.set i (.d z)) st
      | none => .bad
    | _ => .bad
  | .exp e, ρ, st => (ev Γ e ρ st).out ρ fun _ st => .nx ρ st
  | .ret e, ρ, st => (ev Γ e ρ st).out ρ fun x st => .rt x st
  | .retN, _, st => .rt .non st
  | .ite c a b, ρ, st => ifO (ev Γ c ρ st) ρ (fun st => xsL Γ wf a ρ st) fun st => xsL Γ wf b ρ st
  | .loop tg it b, ρ, st => (asIt (ev Γ it ρ st)).out ρ fun xs st => loopGo (fun x ρ st => putO (put tg x ρ) (fun ρ st => xsL Γ wf b ρ st) st) xs ρ st
  | .whl c b, ρ, st => whileGo (fun ρ st => ev Γ c ρ st) (fun ρ st => xsL Γ wf b ρ st) wf ρ st
  | .brk, ρ, st => .bk ρ st
  | .cont, ρ, st => .ct ρ st
  | .pass, ρ, st => .nx ρ st
  | .frz is s, ρ, st => xs1 Γ wf s (frzAll ρ is) st
def xsL (Γ : Ctx) (wf : Nat) : List S → Slots → Store → Out
  | [], ρ, st => .nx ρ st
  | s :: r, ρ, st => (xs1 Γ wf s ρ st).seq fun ρ st => xsL Γ wf r ρ st
end
/-- a def: its parameters, all its names, its body -/
structure Def where
  np : Nat
  nn : Nat
  body : List S
def startD (nn : Nat) (xs : List D) : Slots := xs.map .d ++ List.replicate (nn - xs.length) .un
def runB (Γ : Ctx) (wf : Nat) (d : Def) (st : Store) (xs : List D) : Res D :=
  if xs.length = d.np then match xsL Γ wf d.body (startD d.nn xs) st with
    | .nx _ st => .ok .non st
    | .rt x st => .ok x st
    | .ex x _ st => .ex x st
    | _ => .bad
  else .bad
/-- the program: its defs, its constants -/
structure Prog where
  defs : Str → Option Def
  glo : Str → Option D
  cd : Str → Option (List (Str × D))
  wf : Nat
def run (p : Prog) : Nat → Str → Store → List D → Res D
  | 0, _, _, _ => .bad
  | n + 1, f, st, xs => match p.defs f with
    | some d => runB ⟨run p n, p.glo, p.cd⟩ p.wf d st xs
    | none => .bad
end Mn
end

section
set_option Elab.async false
set_option linter.all false
set_option maxRecDepth 100000
set_option maxHeartbeats 1000000
/-! MnB: what lies in the heap (Rp, Ok), readings made of what Mn does (tD). -/
namespace Mn
open PySem PySem.Spec PyProof.Rows L2

/-- known objects stay -/
def Ex (H H' : Hp) : Prop := ∀ a o, H a = some o → H' a = some o
theorem Ex.refl (H : Hp) : Ex H H := fun _ _ h => h
theorem Ex.trans {H H1 H2 : Hp} (a : Ex H H1) (b : Ex H1 H2) : Ex H H2 := fun x o h => b x o (a x o h)
theorem Ex.rd {H H' : Hp} {a : Addr} {u : HO} (e : Ex H H') (h : Rd H a u) : Rd H' a u := by
  rcases h with h | ⟨o, h⟩
  · exact Or.inl (e a _ h)
  · exact Or.inr ⟨o, e a _ h⟩
theorem Ex.sl {K : PySem.W.Frag} {H H' : Hp} {a : Addr} {xs : List V} (e : Ex H H') (h : SqL K H a xs) : SqL K H' a xs := by
  rcases h with h | h
  · exact Or.inl (e.rd h)
  · exact Or.inr h
theorem Ex.st {K : PySem.W.Frag} {H H' : Hp} {a : Addr} {xs : List V} (e : Ex H H') (h : SqT K H a xs) : SqT K H' a xs := by
  rcases h with h | h
  · exact Or.inl (e.rd h)
  · exact Or.inr h
def Pre (ra ra' : List Addr) : Prop := ∃ t, ra' = ra ++ t
theorem Pre.refl (ra : List Addr) : Pre ra ra := ⟨[], by simp⟩
theorem Pre.trans {a b c : List Addr} (h : Pre a b) (h' : Pre b c) : Pre a c := by
  obtain ⟨t, rfl⟩ := h
  obtain ⟨u, rfl⟩ := h'
  exact ⟨t ++ u, by simp⟩
theorem Pre.get {a b : List Addr} (h : Pre a b) {i : Nat} {x : Addr} (e : a[i]? = some x) : b[i]? = some x := by
  obtain ⟨t, rfl⟩ := h
  have hi : i < a.length := (List.getElem?_eq_some_iff.mp e).1
  rw [List.getElem?_append_left hi]
  exact e

/-! ### data in the heap -/
mutual
inductive Rp (K : PySem.W.Frag) (F : Hp) (ra : List Addr) : V → D → Prop
  | non : Rp K F ra .non .non
  | bl (b : Bool) : Rp K F ra (.bl b) (.bl b)
  | int (i : Int) : Rp K F ra (.int i) (.int i)
  | str (s : Str) : Rp K F ra (.str s) (.str s)
  | tup {a : Addr} {vs : List V} {ds : List D} : SqT K F a vs → RpL K F ra vs ds → Rp K F ra (.ref a) (.tup ds)
  | lst {a : Addr} {vs : List V} {ds : List D} : SqL K F a vs → RpL K F ra vs ds → Rp K F ra (.ref a) (.lst ds)
  | dic {a : Addr} {kvs : List (Key × V)} {kds : List (Key × D)} : F a = some (.dK kvs) → RpK K F ra kvs kds → Rp K F ra (.ref a) (.dic kds)
  | al {r : Nat} {a : Addr} : ra[r]? = some a → Rp K F ra (.ref a) (.al r)
inductive RpL (K : PySem.W.Frag) (F : Hp) (ra : List Addr) : List V → List D → Prop
  | nil : RpL K F ra [] []
  | cons {v : V} {vs : List V} {d : D} {ds : List D} : Rp K F ra v d → RpL K F ra vs ds → RpL K F ra (v :: vs) (d :: ds)
inductive RpK (K : PySem.W.Frag) (F : Hp) (ra : List Addr) : List (Key × V) → List (Key × D) → Prop
  | nil : RpK K F ra [] []
  | cons {k : Key} {v : V} {vs : List (Key × V)} {d : D} {ds : List (Key × D)} : Rp K F ra v d → RpK K F ra vs ds → RpK K F ra ((k, v) :: vs) ((k, d) :: ds)
end
section
variable {K : PySem.W.Frag} {F F' : Hp} {ra ra' : List Addr}
mutual
theorem Rp.mono (e : Ex F F') (p : Pre ra ra') : ∀ {v : V} {d : D}, Rp K F ra v d → Rp K F' ra' v d
  | _, _, .non => .non
  | _, _, .bl b => .bl b
  | _, _, .int i => .int i
  | _, _, .str s => .str s
  | _, _, .tup h r => .tup (e.st h) (RpL.mono e p r)
  | _, _, .lst h r => .lst (e.sl h) (RpL.mono e p r)
  | _, _, .dic h r => .dic (e _ _ h) (RpK.mono e p r)
  | _, _, .al h => .al (p.get h)
theorem RpL.mono (e : Ex F F') (p : Pre ra ra') : ∀ {v : List V} {d : List D}, RpL K F ra v d → RpL K F' ra' v d
  | _, _, .nil => .nil
  | _, _, .cons h r => .cons (Rp.mono e p h) (RpL.mono e p r)
theorem RpK.mono (e : Ex F F') (p : Pre ra ra') : ∀ {v : List (Key × V)} {d : List (Key × D)}, RpK K F ra v d → RpK K F' ra' v d
  | _, _, .nil => .nil
  | _, _, .cons h r => .cons (Rp.mono e p h) (RpK.mono e p r)
end
theorem RpL.length {vs : List V} {ds : List D} (h : RpL K F ra vs ds) : vs.length = ds.length := by
  induction ds generalizing vs with
  | nil => cases h; rfl
  | cons d ds ih =>
    cases h with
    | cons _ r => simp [ih r]
theorem RpL.get {vs : List V} {ds : List D} {i : Nat} {d : D} (h : RpL K F ra vs ds) (e : ds[i]? = some d) : ∃ v, vs[i]? = some v ∧ Rp K F ra v d := by
  induction ds generalizing vs i with
  | nil => simp at e
  | cons x ds ih =>
    cases h with
    | cons p r =>
      cases i with
      | zero => simp at e; subst e; exact ⟨_, rfl, p⟩
      | succ i => simpa using ih r (by simpa using e)
theorem RpL.getV {vs : List V} {ds : List D} {i : Nat} {v : V} (h : RpL K F ra vs ds) (e : vs[i]? = some v) : ∃ d, ds[i]? = some d ∧ Rp K F ra v d := by
  have hi : i < vs.length := (List.getElem?_eq_some_iff.mp e).1
  have hd : i < ds.length := by rw [← h.length]; exact hi
  obtain ⟨w, e', r⟩ := h.get (List.getElem?_eq_getElem hd)
  rw [e] at e'
  cases e'
  exact ⟨_, List.getElem?_eq_getElem hd, r⟩
theorem RpL.append {vs ws : List V} {ds es : List D} (h : RpL K F ra vs ds) (h' : RpL K F ra ws es) : RpL K F ra (vs ++ ws) (ds ++ es) := by
  induction ds generalizing vs with
  | nil => cases h; exact h'
  | cons d ds ih =>
    cases h with
    | cons p r => exact .cons p (ih r)
theorem RpL.take {vs : List V} {ds : List D} (n : Nat) (h : RpL K F ra vs ds) : RpL K F ra (vs.take n) (ds.take n) := by
  induction ds generalizing vs n with
  | nil => cases h; simp; exact .nil
  | cons d ds ih =>
    cases h with
    | cons p r =>
      cases n with
      | zero => exact .nil
      | succ n => exact .cons p (ih n r)
theorem RpL.drop {vs : List V} {ds : List D} (n : Nat) (h : RpL K F ra vs ds) : RpL K F ra (vs.drop n) (ds.drop n) := by
  induction ds generalizing vs n with
  | nil => cases h; simp; exact .nil
  | cons d ds ih =>
    cases h with
    | cons p r =>
      cases n with
      | zero => exact .cons p r
      | succ n => exact ih n r
mutual
theorem Rp.dp : ∀ {v : V} {d : D} {y : PyData}, Rp K F ra v d → py d = some y → Dp K F v y
  | _, _, _, .non, e => by simp [py] at e; subst e; exact .non
  | _, _, _, .bl b, e => by simp [py] at e; subst e; exact .bl b
  | _, _, _, .int i, e => by simp [py] at e; subst e; exact .int i
  | _, _, _, .str s, e => by simp [py] at e; subst e; exact .str s
  | _, _, _, .tup h r, e => by
    simp only [py, Option.map_eq_some_iff] at e
    obtain ⟨ys, e1, rfl⟩ := e
    exact .tup h (RpL.dp r e1)
  | _, _, _, .lst h r, e => by
    simp only [py, Option.map_eq_some_iff] at e
    obtain ⟨ys, e1, rfl⟩ := e
    exact .lst h (RpL.dp r e1)
  | _, _, _, .dic h r, e => by simp [py] at e
  | _, _, _, .al h, e => by simp [py] at e
theorem RpL.dp : ∀ {v : List V} {d : List D} {y : List PyData}, RpL K F ra v d → pyL d = some y → DpAll K F v y
  | _, _, _, .nil, e => by simp [pyL] at e; subst e; exact .nil
  | _, _, _, .cons h r, e => by
    simp only [pyL, Option.bind_eq_some_iff, Option.map_eq_some_iff] at e
    obtain ⟨y, e1, ys, e2, rfl⟩ := e
    exact .cons (Rp.dp h e1) (RpL.dp r e2)
end
mutual
theorem dp_ex (e : Ex F F') : ∀ {v : V} {y : PyData}, Dp K F v y → Dp K F' v y
  | _, _, .non => .non
  | _, _, .bl b => .bl b
  | _, _, .int i => .int i
  | _, _, .str s => .str s
  | _, _, .lst h r => .lst (e.sl h) (dpAll_ex e r)
  | _, _, .tup h r => .tup (e.st h) (dpAll_ex e r)
theorem dpAll_ex (e : Ex F F') : ∀ {v : List V} {y : List PyData}, DpAll K F v y → DpAll K F' v y
  | _, _, .nil => .nil
  | _, _, .cons h r => .cons (dp_ex e h) (dpAll_ex e r)
end
end

/-! ### slots, objects, the state -/
inductive SlOk (K : PySem.W.Frag) (F : Hp) (ra : List Addr) (H : Hp) : Option V → Sl → List Addr → Prop
  | un {o : Option V} : SlOk K F ra H o .un []
  | d {v : V} {x : D} : Rp K F ra v x → SlOk K F ra H (some v) (.d x) []
  | ml {a : Addr} {vs : List V} {xs : List D} : H a = some (.lst vs) → F a = none → RpL K F ra vs xs → SlOk K F ra H (some (.ref a)) (.ml xs) [a]
inductive EnvOk (K : PySem.W.Frag) (F : Hp) (ra : List Addr) (H : Hp) : L2.St → Slots → List Addr → Prop
  | nil : EnvOk K F ra H [] [] []
  | cons {o : Option V} {s : Sl} {σ : L2.St} {ρ : Slots} {f g : List Addr} : SlOk K F ra H o s f → EnvOk K F ra H σ ρ g → EnvOk K F ra H (o :: σ) (s :: ρ) (f ++ g)
/-- the objects (none yet) -/
inductive StOk (K : PySem.W.Frag) (F : Hp) (ra : List Addr) (H : Hp) : List Addr → Store → List Addr → Prop
  | nil : StOk K F ra H [] [] []
/-- what may have changed: F grows; what is tracked and not owned stands -/
structure Fr (F H : Hp) (fp : List Addr) (F' H' : Hp) (fp' : List Addr) : Prop where
  ex : Ex F F'
  keep : ∀ a o, H a = some o → a ∉ fp → H' a = some o
  same : ∀ a o, H a = some o → a ∉ fp → F' a = F a
  own : ∀ a ∈ fp', a ∈ fp ∨ H a = none
  there : ∀ a o, H a = some o → ∃ o', H' a = some o'
theorem Fr.refl (F H : Hp) (fp : List Addr) : Fr F H fp F H fp := ⟨Ex.refl F, fun _ _ h _ => h, fun _ _ _ _ => rfl, fun _ h => .inl h, fun _ o h => ⟨o, h⟩⟩
theorem Fr.trans {F H F1 H1 F2 H2 : Hp} {fp fp1 fp2 : List Addr} (a : Fr F H fp F1 H1 fp1) (b : Fr F1 H1 fp1 F2 H2 fp2) : Fr F H fp F2 H2 fp2 := by
  have n1 : ∀ x o, H x = some o → x ∉ fp → x ∉ fp1 := fun x o h n m => by
    rcases a.own x m with q | q
    · exact n q
    · rw [h] at q; cases q
  refine ⟨a.ex.trans b.ex, fun x o h n => b.keep x o (a.keep x o h n) (n1 x o h n), fun x o h n => ?_, fun x m => ?_, fun x o h => ?_⟩
  · rw [b.same x o (a.keep x o h n) (n1 x o h n)]
    exact a.same x o h n
  · rcases b.own x m with q | q
    · exact a.own x q
    · right
      cases e : H x with
      | none => rfl
      | some o =>
        obtain ⟨o', e'⟩ := a.there x o e
        rw [q] at e'
        cases e'
  · obtain ⟨o1, e1⟩ := a.there x o h
    exact b.there x o1 e1
/-- the objects stand, F is known -/
structure OkS (K : PySem.W.Frag) (F H : Hp) (ra fp : List Addr) (st : Store) : Prop where
  ex : Ex F H
  sto : StOk K F ra H ra st fp
  nd : fp.Nodup
/-- .. and the names of a frame, their own lists apart -/
structure Ok (K : PySem.W.Frag) (F H : Hp) (ra fp : List Addr) (σ : L2.St) (ρ : Slots) (st : Store) : Prop where
  s : OkS K F H ra fp st
  env : ∃ fe, EnvOk K F ra H σ ρ fe ∧ fe.Nodup ∧ ∀ a ∈ fe, a ∉ fp
theorem Ok.ex {K : PySem.W.Frag} {F H : Hp} {ra fp : List Addr} {σ : L2.St} {ρ : Slots} {st : Store} (o : Ok K F H ra fp σ ρ st) : Ex F H := o.s.ex
/-- only new objects, all of them known for good -/
structure Grow (F H F' H' : Hp) : Prop where
  ef : Ex F F'
  eh : Ex H H'
  ex : Ex F' H'
  same : ∀ a o, H a = some o → F' a = F a
theorem Grow.refl {F H : Hp} (e : Ex F H) : Grow F H F H := ⟨Ex.refl F, Ex.refl H, e, fun _ _ _ => rfl⟩
theorem Grow.trans {F H F1 H1 F2 H2 : Hp} (a : Grow F H F1 H1) (b : Grow F1 H1 F2 H2) : Grow F H F2 H2 :=
  ⟨a.ef.trans b.ef, a.eh.trans b.eh, b.ex, fun x o h => by rw [b.same x o (a.eh x o h)]; exact a.same x o h⟩
theorem Ex.new {H : Hp} {p : Addr} {o : HO} (h : H p = none) : Ex H (upd H p o) := fun a u e => by
  rw [upd_ne (ne_of_none e h)]
  exact e
/-- a new object -/
theorem Grow.new {F H : Hp} {p : Addr} {o : HO} (e : Ex F H) (h : H p = none) : Grow F H (upd F p o) (upd H p o) := by
  have hF : F p = none := by
    cases q : F p with
    | none => rfl
    | some u => rw [e p u q] at h; cases h
  refine ⟨Ex.new hF, Ex.new h, fun a u q => ?_, fun a u q => ?_⟩
  · by_cases ha : a = p
    · subst ha; rw [upd_same] at q ⊢; exact q
    · rw [upd_ne ha] at q ⊢; exact e a u q
  · rw [upd_ne (ne_of_none q h)]
section
variable {K : PySem.W.Frag} {F H F' H' : Hp} {ra fp : List Addr} {σ : L2.St} {ρ : Slots} {st : Store}
theorem SlOk.grow (g : Grow F H F' H') {o : Option V} {s : Sl} {f : List Addr} (h : SlOk K F ra H o s f) : SlOk K F' ra H' o s f := by
  cases h with
  | un => exact .un
  | d h => exact .d (h.mono g.ef (Pre.refl _))
  | ml h n r => exact .ml (g.eh _ _ h) (by rw [g.same _ _ h]; exact n) (r.mono g.ef (Pre.refl _))
theorem EnvOk.grow (g : Grow F H F' H') {f : List Addr} (h : EnvOk K F ra H σ ρ f) : EnvOk K F' ra H' σ ρ f := by
  induction h with
  | nil => exact .nil
  | cons a _ ih => exact .cons (a.grow g) ih
theorem StOk.grow (g : Grow F H F' H') {l f : List Addr} (h : StOk K F ra H l st f) : StOk K F' ra H' l st f := by
  cases h
  exact .nil
theorem OkS.grow (g : Grow F H F' H') (h : OkS K F H ra fp st) : OkS K F' H' ra fp st := ⟨g.ex, h.sto.grow g, h.nd⟩
theorem Ok.grow (g : Grow F H F' H') (h : Ok K F H ra fp σ ρ st) : Ok K F' H' ra fp σ ρ st := by
  obtain ⟨fe, h1, h2, h3⟩ := h.env
  exact ⟨h.s.grow g, fe, h1.grow g, h2, h3⟩
theorem Grow.fr (g : Grow F H F' H') (fp : List Addr) : Fr F H fp F' H' fp := ⟨g.ef, fun a o h _ => g.eh a o h, fun a o h _ => g.same a o h, fun _ h => .inl h, fun a o h => ⟨o, g.eh a o h⟩⟩
theorem EnvOk.get {f : List Addr} {i : Nat} {s : Sl} (h : EnvOk K F ra H σ ρ f) (e : ρ[i]? = some s) : ∃ o g, σ[i]? = some o ∧ SlOk K F ra H o s g ∧ ∀ a ∈ g, a ∈ f := by
  induction h generalizing i with
  | nil => simp at e
  | cons a _ ih =>
    cases i with
    | zero => simp at e; subst e; exact ⟨_, _, rfl, a, fun x hx => List.mem_append_left _ hx⟩
    | succ i =>
      obtain ⟨o, g, e1, h1, h2⟩ := ih (by simpa using e)
      exact ⟨o, g, by simpa using e1, h1, fun x hx => List.mem_append_right _ (h2 x hx)⟩
theorem Ok.get {i : Nat} {s : Sl} (h : Ok K F H ra fp σ ρ st) (e : ρ[i]? = some s) : ∃ o g, σ[i]? = some o ∧ SlOk K F ra H o s g ∧ ∀ a ∈ g, a ∉ fp := by
  obtain ⟨fe, h1, h2, h3⟩ := h.env
  obtain ⟨o, g, e1, h4, h5⟩ := h1.get e
  exact ⟨o, g, e1, h4, fun a ha => h3 a (h5 a ha)⟩
theorem Ok.getD {i : Nat} {x : D} (h : Ok K F H ra fp σ ρ st) (e : ρ[i]? = some (.d x)) : ∃ v, σ[i]? = some (some v) ∧ Rp K F ra v x := by
  obtain ⟨o, g, e1, h1, _⟩ := h.get e
  cases h1 with
  | d r => exact ⟨_, e1, r⟩
end

theorem SlOk.tracked {K : PySem.W.Frag} {F H : Hp} {ra : List Addr} {o : Option V} {s : Sl} {f : List Addr} (h : SlOk K F ra H o s f) : ∀ a ∈ f, (∃ u, H a = some u) ∧ F a = none := by
  cases h with
  | un => intro a ha; cases ha
  | d _ => intro a ha; cases ha
  | ml h n _ => intro a ha; obtain rfl := List.mem_singleton.mp ha; exact ⟨⟨_, h⟩, n⟩
theorem EnvOk.tracked {K : PySem.W.Frag} {F H : Hp} {ra : List Addr} {σ : L2.St} {ρ : Slots} {f : List Addr} (h : EnvOk K F ra H σ ρ f) : ∀ a ∈ f, (∃ u, H a = some u) ∧ F a = none := by
  induction h with
  | nil => intro a ha; cases ha
  | cons a _ ih => intro x hx; rcases List.mem_append.mp hx with q | q; exact a.tracked x q; exact ih x q
theorem SlOk.fr {K : PySem.W.Frag} {F H F' H' : Hp} {ra ra' fs fs' : List Addr} {o : Option V} {s : Sl} {f : List Addr} (g : Fr F H fs F' H' fs') (p : Pre ra ra') (hd : ∀ a ∈ f, a ∉ fs) (h : SlOk K F ra H o s f) : SlOk K F' ra' H' o s f := by
  cases h with
  | un => exact .un
  | d h => exact .d (h.mono g.ex p)
  | ml h n r =>
    have k := hd _ List.mem_cons_self
    exact .ml (g.keep _ _ h k) (by rw [g.same _ _ h k]; exact n) (r.mono g.ex p)
theorem EnvOk.fr {K : PySem.W.Frag} {F H F' H' : Hp} {ra ra' fs fs' : List Addr} {σ : L2.St} {ρ : Slots} {f : List Addr} (g : Fr F H fs F' H' fs') (p : Pre ra ra') (h : EnvOk K F ra H σ ρ f) : (∀ a ∈ f, a ∉ fs) → EnvOk K F' ra' H' σ ρ f := by
  induction h with
  | nil => intro _; exact .nil
  | cons a _ ih => intro hd; exact .cons (a.fr g p fun x hx => hd x (List.mem_append_left _ hx)) (ih fun x hx => hd x (List.mem_append_right _ hx))
/-- behind an expression the frame's names stand -/
theorem Ok.fr {K : PySem.W.Frag} {F H F' H' : Hp} {ra ra' fp fp' : List Addr} {σ : L2.St} {ρ : Slots} {st st' : Store} (o : Ok K F H ra fp σ ρ st) (g : Fr F H fp F' H' fp') (p : Pre ra ra') (s : OkS K F' H' ra' fp' st') : Ok K F' H' ra' fp' σ ρ st' := by
  obtain ⟨fe, h1, h2, h3⟩ := o.env
  refine ⟨s, fe, h1.fr g p h3, h2, fun a ha hb => ?_⟩
  rcases g.own a hb with q | q
  · exact h3 a ha q
  · obtain ⟨⟨u, hu⟩, _⟩ := h1.tracked a ha
    rw [hu] at q; cases q

/-! ### readings made of what Mn does -/
/-- how an exception lies behind -/
def ExOk (K : PySem.W.Frag) (F : Hp) (ra : List Addr) (H : Hp) (x : Exc) (c : Value) (d : Option Addr) : Prop := False
def Aft {α β : Type} (K : PySem.W.Frag) (W : WX) (Rel : Hp → List Addr → β → α → Prop) (F H : Hp) (ra fp : List Addr) (σ : L2.St) (r : Res α) (Q : β → Hp → Prop) : Prop := match r with
  | .ok d st => ∀ v F' H' ra' fp', Fr F H fp F' H' fp' → Pre ra ra' → OkS K F' H' ra' fp' st → Rel F' ra' v d → Q v H'
  | .ex x st => ∀ F' H' ra' fp' c dx, Fr F H fp F' H' fp' → Pre ra ra' → OkS K F' H' ra' fp' st → ExOk K F' ra' H' x c dx → W c dx σ H'
  | .bad => False
section
variable {α β γ δ : Type} {K : PySem.W.Frag} {W : WX} {Rel : Hp → List Addr → β → α → Prop} {Rel' : Hp → List Addr → δ → γ → Prop} {F H F' H' : Hp} {ra ra' fp fp' : List Addr} {σ : L2.St} {ρ : Slots} {st : Store}
theorem Aft.trans {r : Res α} {Q : β → Hp → Prop} (f : Fr F H fp F' H' fp') (p : Pre ra ra') (h : Aft K W Rel F H ra fp σ r Q) : Aft K W Rel F' H' ra' fp' σ r Q := by
  cases r with
  | ok d st => exact fun v F2 H2 ra2 fp2 f2 p2 o rl => h v F2 H2 ra2 fp2 (f.trans f2) (p.trans p2) o rl
  | ex x st => exact fun F2 H2 ra2 fp2 c dx f2 p2 o rl => h F2 H2 ra2 fp2 c dx (f.trans f2) (p.trans p2) o rl
  | bad => exact h
theorem Aft.mono {r : Res α} {Q Q' : β → Hp → Prop} (h : Aft K W Rel F H ra fp σ r Q) (k : ∀ v H, Q v H → Q' v H) : Aft K W Rel F H ra fp σ r Q' := by
  cases r with
  | ok d st => exact fun v F2 H2 ra2 fp2 f2 p2 o rl => k _ _ (h v F2 H2 ra2 fp2 f2 p2 o rl)
  | ex x st => exact h
  | bad => exact h
/-- one after another -/
theorem Aft.bind {r : Res γ} {g : γ → Store → Res α} {Q : β → Hp → Prop} {Q' : δ → Hp → Prop} (h : Aft K W Rel F H ra fp σ (r.bind g) Q) (o : Ok K F H ra fp σ ρ st)
    (k : ∀ d st v F1 H1 ra1 fp1, r = .ok d st → Fr F H fp F1 H1 fp1 → Pre ra ra1 → Ok K F1 H1 ra1 fp1 σ ρ st → Rel' F1 ra1 v d → Aft K W Rel F1 H1 ra1 fp1 σ (g d st) Q → Q' v H1) :
    Aft K W Rel' F H ra fp σ r Q' := by
  cases r with
  | ok d st => exact fun v F2 H2 ra2 fp2 f2 p2 s rl => k d st v F2 H2 ra2 fp2 rfl f2 p2 (o.fr f2 p2 s) rl (Aft.trans f2 p2 h)
  | ex x st => exact h
  | bad => exact h
/-- at the end: only new objects behind -/
theorem Aft.pure {d : α} {Q : β → Hp → Prop} (h : Aft K W Rel F H ra fp σ (.ok d st) Q) (o : Ok K F H ra fp σ ρ st) {v : β} (g : Grow F H F' H') (rl : Rel F' ra v d) : Q v H' :=
  h v F' H' ra fp (g.fr fp) (Pre.refl ra) (o.s.grow g) rl
/-- .. here -/
theorem Aft.here {d : α} {Q : β → Hp → Prop} (h : Aft K W Rel F H ra fp σ (.ok d st) Q) (o : Ok K F H ra fp σ ρ st) {v : β} (rl : Rel F ra v d) : Q v H :=
  h v F H ra fp (Fr.refl _ _ _) (Pre.refl ra) o.s rl
end
def tD (K : PySem.W.Frag) (W : WX) (f : Slots → Store → Res D) : TE := fun σ H Q => ∃ F ra fp ρ st, Ok K F H ra fp σ ρ st ∧ Aft K W (Rp K) F H ra fp σ (f ρ st) Q
def tDL (K : PySem.W.Frag) (W : WX) (f : Slots → Store → Res (List D)) : TA := fun σ H Q => ∃ F ra fp ρ st, Ok K F H ra fp σ ρ st ∧ Aft K W (RpL K) F H ra fp σ (f ρ st) Q
/-- a test: the data is True or False -/
def tDT (K : PySem.W.Frag) (W : WX) (f : Slots → Store → Res D) : TT := fun σ H Q => ∃ F ra fp ρ st, Ok K F H ra fp σ ρ st ∧ Aft K W (fun _ _ (b c : Bool) => b = c) F H ra fp σ (asB (f ρ st)) Q

/-- what is the same everywhere -/
structure Gm where
  P : Program
  w : World
  K : PySem.W.Frag
  mg : Str → Option Value
  base : Heap
  k : Nat
structure XOk (G : Gm) (N : List Str) (sc : Scope) (X : Cx) : Prop where
  prog : X.prog = G.P
  w : X.w = G.w
  K : X.K = G.K
  mg : X.mg = G.mg
  base : X.base = G.base
  names : X.N = N
  nd : N.Nodup
  sc : X.env.scope = sc
  calm : X.calm = true
  room : Room G.k X.A
def SE (G : Gm) (N : List Str) (sc : Scope) (e : Expr) (f : Slots → Store → Res D) : Prop := ∀ (X : Cx) (W : WX), XOk G N sc X → Takes X W → PE X e (tD G.K W f)
def ST (G : Gm) (N : List Str) (sc : Scope) (e : Expr) (f : Slots → Store → Res D) : Prop := ∀ (X : Cx) (W : WX), XOk G N sc X → Takes X W → PT X e (tDT G.K W f)
def SA (G : Gm) (N : List Str) (sc : Scope) (es : List Expr) (f : Slots → Store → Res (List D)) : Prop := ∀ (X : Cx) (W : WX), XOk G N sc X → Takes X W → PA X es (tDL G.K W f)

theorem PE.imp {X : Cx} {e : Expr} {t t' : TE} (h : PE X e t) (k : ∀ σ H Q, t' σ H Q → t σ H Q) : PE X e t' := ⟨fun pins s σ H Q I q => h.run pins s σ H Q I (k σ H Q q)⟩
theorem PT.imp {X : Cx} {e : Expr} {t t' : TT} (h : PT X e t) (k : ∀ σ H Q, t' σ H Q → t σ H Q) : PT X e t' := ⟨fun pins s σ H Q I q => h.run pins s σ H Q I (k σ H Q q)⟩
theorem PA.imp {X : Cx} {e : List Expr} {t t' : TA} (h : PA X e t) (k : ∀ σ H Q, t' σ H Q → t σ H Q) : PA X e t' := ⟨fun pos pins s σ H Q I q => h.run pos pins s σ H Q I (k σ H Q q)⟩
end Mn
end

section
set_option Elab.async false
set_option linter.all false
set_option maxRecDepth 100000
set_option maxHeartbeats 1000000
/-! MnC: operators, comparisons, subscripts, slices by data. -/
namespace Mn
open PySem PySem.Spec PyProof.Rows L2

theorem lim {n : Nat} (h : n ≤ LIM) : n ≤ sizeLine := Nat.le_trans h (by rw [sizeLine_eq]; decide)
theorem limlt {n : Nat} (h : n < LIM) : n < sizeLine := Nat.lt_of_lt_of_le h (by rw [sizeLine_eq]; decide)
/-- what is wanted of an answer d -/
def Ans (K : PySem.W.Frag) (F : Hp) (ra : List Addr) (H : Hp) (d : D) (Q : VK) : Prop := ∀ v F' H', Grow F H F' H' → Rp K F' ra v d → Q v H'
section
variable {K : PySem.W.Frag} {F H : Hp} {ra : List Addr} {Q : VK}
theorem Ans.here {d : D} {v : V} (h : Ans K F ra H d Q) (e : Ex F H) (r : Rp K F ra v d) : Q v H := h v F H (Grow.refl e) r
theorem Ans.int {i : Int} (h : Ans K F ra H (.int i) Q) (e : Ex F H) : Q (.int i) H := h.here e (.int i)
theorem Ans.bl {i : Bool} (h : Ans K F ra H (.bl i) Q) (e : Ex F H) : Q (.bl i) H := h.here e (.bl i)
theorem Ans.str {i : Str} (h : Ans K F ra H (.str i) Q) (e : Ex F H) : Q (.str i) H := h.here e (.str i)
theorem Ans.newT {ds : List D} {vs : List V} {p : Addr} (h : Ans K F ra H (.tup ds) Q) (e : Ex F H) (hp : H p = none) (r : RpL K F ra vs ds) : Q (.ref p) (upd H p (.tup vs)) :=
  h _ _ _ (Grow.new e hp) (.tup (SqT.of upd_same) (r.mono (Grow.new (o := .tup vs) e hp).ef (Pre.refl _)))
theorem Ans.newL {ds : List D} {vs : List V} {p : Addr} (h : Ans K F ra H (.lst ds) Q) (e : Ex F H) (hp : H p = none) (r : RpL K F ra vs ds) : Q (.ref p) (upd H p (.lst vs)) :=
  h _ _ _ (Grow.new e hp) (.lst (SqL.of upd_same) (r.mono (Grow.new (o := .lst vs) e hp).ef (Pre.refl _)))
end
/-- the reading of an operation on data -/
def rP (K : PySem.W.Frag) (f : D → D → Option D) : R2 := fun x y H Q => ∃ F ra d1 d2 d, Ex F H ∧ Rp K F ra x d1 ∧ Rp K F ra y d2 ∧ f d1 d2 = some d ∧ Ans K F ra H d Q
section
variable {X : Cx}
theorem rpT {K : PySem.W.Frag} {F H : Hp} {ra : List Addr} {v : V} {ds : List D} (e : Ex F H) (r : Rp K F ra v (.tup ds)) : ∃ a vs, v = .ref a ∧ SqT K H a vs ∧ SqT K F a vs ∧ RpL K F ra vs ds := by
  cases r with
  | tup h r => exact ⟨_, _, rfl, e.st h, h, r⟩
theorem rpLs {K : PySem.W.Frag} {F H : Hp} {ra : List Addr} {v : V} {ds : List D} (e : Ex F H) (r : Rp K F ra v (.lst ds)) : ∃ a vs, v = .ref a ∧ SqL K H a vs ∧ SqL K F a vs ∧ RpL K F ra vs ds := by
  cases r with
  | lst h r => exact ⟨_, _, rfl, e.sl h, h, r⟩
theorem rpI {K : PySem.W.Frag} {F : Hp} {ra : List Addr} {v : V} {i : Int} (r : Rp K F ra v (.int i)) : v = .int i := by cases r; rfl
theorem rpS {K : PySem.W.Frag} {F : Hp} {ra : List Addr} {v : V} {i : Str} (r : Rp K F ra v (.str i)) : v = .str i := by cases r; rfl
theorem rpB {K : PySem.W.Frag} {F : Hp} {ra : List Addr} {v : V} {i : Bool} (r : Rp K F ra v (.bl i)) : v = .bl i := by cases r; rfl
theorem rpN {K : PySem.W.Frag} {F : Hp} {ra : List Addr} {v : V} (r : Rp K F ra v .non) : v = .non := by cases r; rfl

/-- list + list -/
theorem op_catL : OpR X (binaryOp .Add) (fun x y H Q => ∃ l b xs zs, x = .ref l ∧ y = .ref b ∧ SqL X.K H l xs ∧ SqL X.K H b zs ∧ xs.length + zs.length ≤ sizeLine ∧ ∀ p, H p = none → Q (.ref p) (upd H p (.lst (xs ++ zs)))) := by
  intro pins s σ H x y v u Q I rx ry h
  obtain ⟨l, b, xs, zs, rfl, rfl, hH, hB, hz, q⟩ := h
  cases rx
  cases ry
  obtain ⟨vs, r, ⟨⟨cls, dd, data, sl⟩, n, ho, hc, hd0, hd⟩, z⟩ := I.list hH
  obtain ⟨ws, r2, ⟨⟨cls2, dd2, data2, sl2⟩, n2, ho2, hc2, hd02, hd2⟩, z2⟩ := I.list hB
  simp only at hc hd hc2 hd2
  subst hc hd hc2 hd2
  have e : vs.toArray ++ ws.toArray = (vs ++ ws).toArray := by simp
  have l1 := r.length
  have l2 := r2.length
  refine concat_meets ⟨_, ho, rfl⟩ ⟨_, ho2, rfl⟩ noFill_list_add seq_list_add PySem.F.slot_list_add PySem.F.entry_list_add (PySem.F.args_list_add_2 _ _) (list_addW l b vs.toArray ws.toArray n n2 dd dd2 sl sl2 (by rw [List.size_toArray, List.size_toArray]; omega)) ⟨ho, ho2, ?_⟩
  rw [e]
  exact ⟨.ref _, _, I.lnew (t' := s.toks) (r.append r2) (by rw [List.length_append]; omega), rfl, q _ I.fresh⟩

theorem op_bin (op : Operator) : OpR X (binaryOp op) (rP X.K (bin op)) := by
  intro pins s σ H x y v u Q I rx ry h
  obtain ⟨F, ra, d1, d2, d, e, r1, r2, hb, q⟩ := h
  unfold bin at hb
  split at hb
  · cases hb; cases rpI r1; cases rpI r2
    exact op_add pins s σ H _ _ v u Q I rx ry ⟨_, _, rfl, rfl, q.int e⟩
  · split at hb
    · rename_i hz
      cases hb; cases rpS r1; cases rpS r2
      exact op_add_str pins s σ H _ _ v u Q I rx ry ⟨_, _, rfl, rfl, lim hz, q.str e⟩
    · cases hb
  · split at hb
    · rename_i hz
      cases hb
      obtain ⟨a, vs, rfl, h1, _, k1⟩ := rpLs e r1
      obtain ⟨b, ws, rfl, h2, _, k2⟩ := rpLs e r2
      exact op_catL pins s σ H _ _ v u Q I rx ry ⟨_, _, _, _, rfl, rfl, h1, h2, lim (by rw [k1.length, k2.length]; exact hz), fun p hp => q.newL e hp (k1.append k2)⟩
    · cases hb
  · split at hb
    · rename_i hz
      cases hb
      obtain ⟨a, vs, rfl, h1, g1, k1⟩ := rpT e r1
      obtain ⟨b, ws, rfl, h2, g2, k2⟩ := rpT e r2
      refine op_catA pins s σ H _ _ v u Q I rx ry ⟨_, _, _, _, rfl, rfl, h1, h2, lim (by rw [k1.length, k2.length]; exact hz), fun z => ?_, fun _ z => ?_, fun _ _ p hp => q.newT e hp (k1.append k2)⟩
      · subst z
        have k := k1.append k2
        exact q.here e (.tup g2 k)
      · subst z
        have k := k1.append k2
        rw [List.append_nil] at k
        exact q.here e (.tup g1 k)
    · cases hb
  · cases hb; cases rpI r1; cases rpI r2
    exact op_sub pins s σ H _ _ v u Q I rx ry ⟨_, _, rfl, rfl, q.int e⟩
  · split at hb
    · rename_i hz
      cases hb; cases rpI r1; cases rpI r2
      exact op_mul pins s σ H _ _ v u Q I rx ry ⟨_, _, rfl, rfl, by unfold CMul; omega, q.int e⟩
    · cases hb
  · split at hb
    · rename_i x n hz
      obtain ⟨z1, z2, z3, z4⟩ := hz
      cases hb; cases rpS r1; cases rpI r2
      obtain ⟨t, rfl⟩ := rx
      obtain ⟨t', rfl⟩ := ry
      have hlen : x.length * n.toNat ≤ 1000000 := Nat.le_trans (Nat.mul_le_mul z4 (show n.toNat ≤ 1000 by omega)) (by decide)
      refine PySem.P.mul_str (by rw [decide_eq_false (by omega), decide_eq_false (by omega)]; rfl) (fun _ _ => ?_) (fun _ _ => ?_) ?_
      · have h1 : (x.length : Int) ≤ 1000 := by omega
        have h2 : (1000 : Int) ≤ (2 ^ 63 - 1) / n := Int.le_ediv_of_mul_le (by omega) (by omega)
        omega
      · unfold PySem.Builtin.Str.tooLong
        exact decide_eq_false (by rw [sizeLine_eq]; omega)
      · rw [if_neg (by omega)]
        have hne : (n == 1 || x.length == 0) = false := by
          rw [Bool.or_eq_false_iff]
          exact ⟨beq_eq_false_iff_ne.mpr (by omega), beq_eq_false_iff_ne.mpr (by omega)⟩
        rw [hne]
        have hf : ∀ (l : List (Array Nat)) (a : Array Nat), (l.foldl (· ++ ·) a).size = a.size + (l.map (·.size)).sum := by
          intro l
          induction l with
          | nil => intro a; simp
          | cons b l ih => intro a; simp [ih]; omega
        refine ⟨?_, ⟨.str _, H, I.tok _, ⟨_, rfl⟩, q.str e⟩⟩
        show ((List.replicate n.toNat x.cps).foldl (· ++ ·) #[]).size ≤ sizeLine
        rw [hf]
        have : ((List.replicate n.toNat x.cps).map (·.size)).sum = n.toNat * x.length := by
          generalize n.toNat = m
          induction m with
          | zero => simp
          | succ m ih => rw [List.replicate_succ, List.map_cons, List.sum_cons, ih, Nat.succ_mul, Nat.add_comm]; rfl
        rw [this, sizeLine_eq, Nat.mul_comm]
        simp
        omega
    · cases hb
  · split at hb
    · rename_i hz
      cases hb; cases rpI r1; cases rpI r2
      exact op_fdivN pins s σ H _ _ v u Q I rx ry ⟨_, _, rfl, rfl, hz, q.int e⟩
    · cases hb
  · split at hb
    · rename_i hz
      cases hb; cases rpI r1; cases rpI r2
      exact op_modN pins s σ H _ _ v u Q I rx ry ⟨_, _, rfl, rfl, hz, q.int e⟩
    · cases hb
  · split at hb
    · rename_i hz
      cases hb; cases rpI r1; cases rpI r2
      exact op_pow pins s σ H _ _ v u Q I rx ry ⟨_, _, rfl, rfl, hz, q.int e⟩
    · cases hb
  · cases hb

/-! ### comparisons -/
theorem eqD_ok {K : PySem.W.Frag} {F H : Hp} {ra : List Addr} {a b : D} {x y : V} {r : Bool} (e : Ex F H) (h : eqD a b = some r) (r1 : Rp K F ra x a) (r2 : Rp K F ra y b) :
    ∃ d1 d2, Dp K H x d1 ∧ Dp K H y d2 ∧ SeqAt.shaped d1 = true ∧ SeqAt.shaped d2 = true ∧ PyData.eqv d1 d2 = r := by
  unfold eqD pyOk at h
  simp only [Option.bind_eq_some_iff, Option.map_eq_some_iff] at h
  obtain ⟨p, ⟨p', e1, e1'⟩, p2, ⟨p2', e2, e2'⟩, rfl⟩ := h
  split at e1' <;> cases e1'
  split at e2' <;> cases e2'
  exact ⟨_, _, dp_ex e (r1.dp e1), dp_ex e (r2.dp e2), by assumption, by assumption, rfl⟩
theorem inList_ok {K : PySem.W.Frag} {F H : Hp} {ra : List Addr} {a : D} {ys : List D} {x : V} {vs : List V} {r : Bool} (e : Ex F H) (h : inList a ys = some r) (r1 : Rp K F ra x a) (r2 : RpL K F ra vs ys) :
    ∃ d zs, Dp K H x d ∧ DpAll K H vs zs ∧ SeqAt.shaped d = true ∧ SeqAt.shaped (.tuple zs) = true ∧ (zs.any fun z => PyData.eqv z d) = r := by
  unfold inList pyOk at h
  simp only [Option.bind_eq_some_iff] at h
  obtain ⟨p, ⟨p', e1, e1'⟩, p2, ⟨p2', e2, e2'⟩, e3⟩ := h
  split at e1' <;> cases e1'
  split at e2' <;> cases e2'
  simp only [py, Option.map_eq_some_iff] at e2
  obtain ⟨zs, e4, rfl⟩ := e2
  cases e3
  exact ⟨_, zs, dp_ex e (r1.dp e1), dpAll_ex e (r2.dp e4), by assumption, by assumption, rfl⟩
theorem shaped_list {zs : List PyData} (h : SeqAt.shaped (.tuple zs) = true) : SeqAt.shaped (.list zs) = true := by
  unfold SeqAt.shaped at h ⊢
  simpa [PyData.canLay0, PyData.depth] using h
/-- x in t, t a tuple or a list of data -/
theorem op_inD2 (hu : X.A.units + 65 < cLine) (neg : Bool) {pins : List (Addr × Obj)} {s : Shared} {σ : L2.St} {H : Hp} {x y : V} {v u : Value} {Q : VK} (I : Inv X pins σ H s) (rx : RelV x v) (ry : RelV y u) {d : PyData} {zs : List PyData}
    (hd : Dp X.K H x d) (he : Dp X.K H y (.tuple zs) ∨ Dp X.K H y (.list zs)) (sd : SeqAt.shaped d = true) (se : SeqAt.shaped (.tuple zs) = true)
    (q : Q (.bl (if neg then !(zs.any fun z => PyData.eqv z d) else zs.any fun z => PyData.eqv z d)) H) : wpAny (model X.prog X.w) X.A (compareOp (if neg then .NotIn else .In) v u) (EP X pins σ Q) X.xe s := by
  obtain ⟨as, r1⟩ := Dp.reads I d x v hd rx
  have hxs : PyData.canLayAll0 zs = true := SeqAt.canLay_of_shaped (shaped_list se)
  have hroom : X.A.units + 1 + min (PyData.depthAll zs) d.depth < cLine := room_in_shaped sd hu
  rcases he with he | he
  · obtain ⟨bs, r2⟩ := Dp.reads I (.tuple zs) y u he ry
    cases neg with
    | false => exact SeqAt.in_tuple_reads r2 r1 hxs (SeqAt.canLay_of_shaped sd) hroom ⟨.bl _, H, I, rfl, q⟩
    | true => exact SeqAt.notIn_tuple_reads r2 r1 hxs (SeqAt.canLay_of_shaped sd) hroom ⟨.bl _, H, I, rfl, q⟩
  · obtain ⟨bs, r2⟩ := Dp.reads I (.list zs) y u he ry
    cases neg with
    | false => exact SeqAt.in_list_reads r2 r1 hxs (SeqAt.canLay_of_shaped sd) hroom ⟨.bl _, H, I, rfl, q⟩
    | true => exact SeqAt.notIn_list_reads r2 r1 hxs (SeqAt.canLay_of_shaped sd) hroom ⟨.bl _, H, I, rfl, q⟩
theorem isNon_eq {K : PySem.W.Frag} {F : Hp} {ra : List Addr} {x : V} {a : D} (r : Rp K F ra x a) : decide (x = V.non) = isN a := by
  cases r <;> first | rfl | (simp [isN]; done)
theorem op_cmpD (hu : X.A.units + 65 < cLine) (op : CmpOp) : OpR X (compareOp op) (rP X.K (cmp op)) := by
  intro pins s σ H x y v u Q I rx ry h
  obtain ⟨F, ra, d1, d2, d, e, r1, r2, hb, q⟩ := h
  unfold cmp at hb
  split at hb
  · simp only [Option.map_eq_some_iff] at hb
    obtain ⟨r, h1, rfl⟩ := hb
    obtain ⟨p1, p2, a1, a2, s1, s2, rfl⟩ := eqD_ok e h1 r1 r2
    exact op_eqD (by omega) pins s σ H _ _ v u Q I rx ry ⟨p1, p2, a1, a2, s1, s2, q.bl e⟩
  · simp only [Option.map_eq_some_iff] at hb
    obtain ⟨r, h1, rfl⟩ := hb
    obtain ⟨p1, p2, a1, a2, s1, s2, rfl⟩ := eqD_ok e h1 r1 r2
    exact op_neD (by omega) pins s σ H _ _ v u Q I rx ry ⟨p1, p2, a1, a2, s1, s2, q.bl e⟩
  · cases hb; cases rpI r1; cases rpI r2
    exact op_lt pins s σ H _ _ v u Q I rx ry ⟨_, _, rfl, rfl, q.bl e⟩
  · cases hb; cases rpI r1; cases rpI r2
    exact op_le pins s σ H _ _ v u Q I rx ry ⟨_, _, rfl, rfl, q.bl e⟩
  · cases hb; cases rpI r1; cases rpI r2
    exact op_gt pins s σ H _ _ v u Q I rx ry ⟨_, _, rfl, rfl, q.bl e⟩
  · cases hb; cases rpI r1; cases rpI r2
    exact op_ge pins s σ H _ _ v u Q I rx ry ⟨_, _, rfl, rfl, q.bl e⟩
  · cases hb; cases rpS r1; cases rpS r2
    exact op_lt_str pins s σ H _ _ v u Q I rx ry ⟨_, _, rfl, rfl, q.bl e⟩
  · cases hb; cases rpS r1; cases rpS r2
    exact op_le_str pins s σ H _ _ v u Q I rx ry ⟨_, _, rfl, rfl, q.bl e⟩
  · cases hb; cases rpN r2
    exact op_isN pins s σ H _ _ v u Q I rx ry ⟨rfl, by rw [isNon_eq r1]; exact q.bl e⟩
  · cases hb; cases rpN r2
    exact op_notN pins s σ H _ _ v u Q I rx ry ⟨rfl, by rw [isNon_eq r1]; exact q.bl e⟩
  · simp only [Option.map_eq_some_iff] at hb
    obtain ⟨r, h1, rfl⟩ := hb
    unfold inD at h1
    split at h1
    · cases h1; cases rpS r1; cases rpS r2
      exact op_in_str pins s σ H _ _ v u Q I rx ry ⟨_, _, rfl, rfl, q.bl e⟩
    · cases r2 with
      | tup h2 r2 =>
        obtain ⟨p, zs, a1, a2, s1, s2, rfl⟩ := inList_ok e h1 r1 r2
        exact op_inD2 hu false I rx ry a1 (.inl (.tup (e.st h2) a2)) s1 s2 (q.bl e)
    · cases r2 with
      | lst h2 r2 =>
        obtain ⟨p, zs, a1, a2, s1, s2, rfl⟩ := inList_ok e h1 r1 r2
        exact op_inD2 hu false I rx ry a1 (.inr (.lst (e.sl h2) a2)) s1 s2 (q.bl e)
    · cases h1
  · simp only [Option.map_eq_some_iff] at hb
    obtain ⟨r, h1, rfl⟩ := hb
    unfold inD at h1
    split at h1
    · cases h1; cases rpS r1; cases rpS r2
      exact op_notin_str pins s σ H _ _ v u Q I rx ry ⟨_, _, rfl, rfl, q.bl e⟩
    · cases r2 with
      | tup h2 r2 =>
        obtain ⟨p, zs, a1, a2, s1, s2, rfl⟩ := inList_ok e h1 r1 r2
        exact op_inD2 hu true I rx ry a1 (.inl (.tup (e.st h2) a2)) s1 s2 (q.bl e)
    · cases r2 with
      | lst h2 r2 =>
        obtain ⟨p, zs, a1, a2, s1, s2, rfl⟩ := inList_ok e h1 r1 r2
        exact op_inD2 hu true I rx ry a1 (.inr (.lst (e.sl h2) a2)) s1 s2 (q.bl e)
    · cases h1
  · cases hb
end
end Mn
end

section
set_option Elab.async false
set_option linter.all false
set_option maxRecDepth 100000
set_option maxHeartbeats 1000000
/-! MnD: subscripts, slices, built-in functions, methods of texts, by data. -/
namespace Mn
open PySem PySem.Spec PyProof.Rows L2

theorem atI_rp {K : PySem.W.Frag} {F : Hp} {ra : List Addr} {vs : List V} {ds : List D} {i : Int} {d : D} (r : RpL K F ra vs ds) (h : atI ds i = some d) : ∃ v, atI vs i = some v ∧ Rp K F ra v d := by
  unfold atI at h ⊢
  rw [r.length]
  cases e : ixN ds.length i with
  | none => rw [e] at h; cases h
  | some j =>
    rw [e] at h
    exact r.get h
theorem valV_rp {K : PySem.W.Frag} {F : Hp} {ra : List Addr} {kvs : List (Key × V)} {kds : List (Key × D)} {k : Key} {d : D} (r : RpK K F ra kvs kds) (h : kget kds k = some d) : ∃ v, valV kvs k = some v ∧ Rp K F ra v d := by
  induction kds generalizing kvs with
  | nil => cases h
  | cons x kds ih =>
    cases r with
    | @cons k' v vs d' ds p r =>
      unfold kget at h
      by_cases e : k' = k
      · subst e
        rw [if_pos rfl] at h
        cases h
        exact ⟨v, by simp [valV], p⟩
      · rw [if_neg e] at h
        obtain ⟨u, h1, h2⟩ := ih r h
        refine ⟨u, ?_, h2⟩
        unfold valV at h1 ⊢
        rw [List.find?_cons_of_neg (by simpa using e)]
        exact h1
section
variable {X : Cx}
theorem ixr_dic (hu : X.A.units + 1 < cLine) : IxR X (fun x y H Q => ∃ a v, x = .ref a ∧ DGet H a y (some v) ∧ Q v H) := by
  intro value slice pins s σ H x y v u Q I rx ry h hs
  obtain ⟨a, z, rfl, g, q⟩ := h
  obtain rfl : v = Value.ref a := rx
  exact tail_any (dict_typeIs I g) PySem.F.slot_dict_getitem.lookup (d_getItem hu I g ry fun w' s3 I3 rw' => ⟨z, H, I3, rw', q⟩) hs
theorem ixr (hu : X.A.units + 1 < cLine) : IxR X (rP X.K ix) := by
  intro value slice pins s σ H x y v u Q I rx ry h hs
  obtain ⟨F, ra, d1, d2, d, e, r1, r2, hb, q⟩ := h
  unfold ix at hb
  split at hb
  · cases rpI r2
    obtain ⟨a, vs, rfl, h1, g1, k1⟩ := rpT e r1
    obtain ⟨w, hw, rw⟩ := atI_rp k1 hb
    exact ix_tup value slice pins s σ H _ _ v u Q I rx ry ⟨_, _, _, _, rfl, rfl, h1, hw, q.here e rw⟩ hs
  · cases rpI r2
    obtain ⟨a, vs, rfl, h1, g1, k1⟩ := rpLs e r1
    obtain ⟨w, hw, rw⟩ := atI_rp k1 hb
    exact ix_list value slice pins s σ H _ _ v u Q I rx ry ⟨_, _, _, _, rfl, rfl, h1, hw, q.here e rw⟩ hs
  · split at hb
    · rename_i hz
      cases rpI r2; cases rpS r1
      simp only [Option.map_eq_some_iff] at hb
      obtain ⟨c, hc, rfl⟩ := hb
      exact ix_str value slice pins s σ H _ _ v u Q I rx ry ⟨_, _, _, rfl, rfl, lim hz, hc, q.str e⟩ hs
    · cases hb
  · cases rpS r2
    cases r1 with
    | dic h1 k1 =>
      obtain ⟨w, hw, rw⟩ := valV_rp k1 hb
      exact ixr_dic hu value slice pins s σ H _ _ v u Q I rx ry ⟨_, w, rfl, by rw [← hw]; exact DGet.k (k := Sum.inr _) (e _ _ h1), q.here e rw⟩ hs
  · cases rpI r2
    cases r1 with
    | dic h1 k1 =>
      obtain ⟨w, hw, rw⟩ := valV_rp k1 hb
      exact ixr_dic hu value slice pins s σ H _ _ v u Q I rx ry ⟨_, w, rfl, by rw [← hw]; exact DGet.k (k := Sum.inl _) (e _ _ h1), q.here e rw⟩ hs
  · cases hb

/-! ### slices -/
theorem cut_rp {K : PySem.W.Frag} {F : Hp} {ra : List Addr} {vs : List V} {ds : List D} (lo hi : Option Int) (r : RpL K F ra vs ds) : RpL K F ra (cutV vs lo hi) (cutD ds lo hi) := by
  unfold cutV cutD
  rw [r.length]
  exact (r.drop _).take _
theorem cut_all {α : Type} {xs : List α} {lo hi : Option Int} (h : HT.sIx xs.length 0 lo = 0 ∧ HT.sIx xs.length xs.length hi = xs.length) : (xs.drop (HT.sIx xs.length 0 lo)).take (HT.sIx xs.length xs.length hi - HT.sIx xs.length 0 lo) = xs := by
  rw [h.1, h.2]
  simp
def rPS (K : PySem.W.Frag) : V → Option Int → Option Int → Hp → VK → Prop := fun x lo hi H Q => ∃ F ra d1 d, Ex F H ∧ Rp K F ra x d1 ∧ slc d1 lo hi = some d ∧ Ans K F ra H d Q
theorem slr : SlR X (rPS X.K) := by
  intro pins s σ H x v vl vu lo hi sl Q I rx hs pl pu h
  obtain ⟨F, ra, d1, d, e, r1, hb, q⟩ := h
  unfold slc at hb
  split at hb
  · cases hb
    obtain ⟨a, vs, rfl, h1, g1, k1⟩ := rpT e r1
    refine sl_tupA pins s σ H _ v vl vu lo hi sl Q I rx hs pl pu ⟨a, vs, rfl, h1, fun z => ?_, fun _ p hp => q.newT e hp (cut_rp lo hi k1)⟩
    have c : cutD _ lo hi = _ := cut_all (xs := ‹List D›) (by rw [← k1.length]; exact z)
    rw [c] at q
    exact q.here e r1
  · cases hb
    obtain ⟨a, vs, rfl, h1, g1, k1⟩ := rpLs e r1
    exact sl_list pins s σ H _ v vl vu lo hi sl Q I rx hs pl pu ⟨a, vs, rfl, h1, fun p hp => q.newL e hp (cut_rp lo hi k1)⟩
  · split at hb
    · rename_i hz
      cases hb; cases rpS r1
      exact sl_str pins s σ H _ v vl vu lo hi sl Q I rx hs pl pu ⟨_, rfl, lim hz, q.str e⟩
    · cases hb
  · cases hb

/-! ### built-in functions -/
def rPL (K : PySem.W.Frag) (f : List D → Option D) : List V → Hp → VK → Prop := fun vs H Q => ∃ F ra ds d, Ex F H ∧ RpL K F ra vs ds ∧ f ds = some d ∧ Ans K F ra H d Q
theorem rpl1 {K : PySem.W.Frag} {F : Hp} {ra : List Addr} {vs : List V} {d : D} (r : RpL K F ra vs [d]) : ∃ v, vs = [v] ∧ Rp K F ra v d := by
  cases r with
  | cons p r => cases r; exact ⟨_, rfl, p⟩
theorem rpl2 {K : PySem.W.Frag} {F : Hp} {ra : List Addr} {vs : List V} {d e : D} (r : RpL K F ra vs [d, e]) : ∃ v w, vs = [v, w] ∧ Rp K F ra v d ∧ Rp K F ra w e := by
  cases r with
  | cons p r =>
    obtain ⟨w, rfl, q⟩ := rpl1 r
    exact ⟨_, _, rfl, p, q⟩
theorem rpl3 {K : PySem.W.Frag} {F : Hp} {ra : List Addr} {vs : List V} {d e g : D} (r : RpL K F ra vs [d, e, g]) : ∃ v w u, vs = [v, w, u] ∧ Rp K F ra v d ∧ Rp K F ra w e ∧ Rp K F ra u g := by
  cases r with
  | cons p r =>
    obtain ⟨w, u, rfl, q, q'⟩ := rpl2 r
    exact ⟨_, _, _, rfl, p, q, q'⟩
theorem allB_bl : ∀ {ds : List D} {b : Bool}, allB ds = some b → ∃ bs : List Bool, ds = bs.map .bl ∧ b = bs.all id
  | [], b, h => by cases h; exact ⟨[], rfl, rfl⟩
  | .bl c :: r, b, h => by
    simp only [allB, Option.map_eq_some_iff] at h
    obtain ⟨c', h1, rfl⟩ := h
    obtain ⟨bs, rfl, rfl⟩ := allB_bl h1
    exact ⟨c :: bs, rfl, rfl⟩
  | .non :: _, _, h => by cases h
  | .int _ :: _, _, h => by cases h
  | .str _ :: _, _, h => by cases h
  | .tup _ :: _, _, h => by cases h
  | .lst _ :: _, _, h => by cases h
  | .dic _ :: _, _, h => by cases h
  | .al _ :: _, _, h => by cases h
theorem anyB_bl : ∀ {ds : List D} {b : Bool}, anyB ds = some b → ∃ bs : List Bool, ds = bs.map .bl ∧ b = bs.any id
  | [], b, h => by cases h; exact ⟨[], rfl, rfl⟩
  | .bl c :: r, b, h => by
    simp only [anyB, Option.map_eq_some_iff] at h
    obtain ⟨c', h1, rfl⟩ := h
    obtain ⟨bs, rfl, rfl⟩ := anyB_bl h1
    exact ⟨c :: bs, rfl, rfl⟩
  | .non :: _, _, h => by cases h
  | .int _ :: _, _, h => by cases h
  | .str _ :: _, _, h => by cases h
  | .tup _ :: _, _, h => by cases h
  | .lst _ :: _, _, h => by cases h
  | .dic _ :: _, _, h => by cases h
  | .al _ :: _, _, h => by cases h
theorem rpl_bl {K : PySem.W.Frag} {F : Hp} {ra : List Addr} : ∀ {vs : List V} {bs : List Bool}, RpL K F ra vs (bs.map .bl) → vs = bs.map V.bl
  | vs, [], r => by cases r; rfl
  | vs, b :: bs, r => by
    rw [List.map_cons] at r
    cases r with
    | cons p r => rw [rpB p, rpl_bl r]; rfl
theorem txts_eq : ∀ {ds : List D} {zs : List Str}, txts ds = some zs → ds = zs.map .str
  | [], zs, h => by cases h; rfl
  | .str c :: r, zs, h => by
    simp only [txts, Option.map_eq_some_iff] at h
    obtain ⟨c', h1, rfl⟩ := h
    rw [txts_eq h1]; rfl
  | .non :: _, _, h => by cases h
  | .int _ :: _, _, h => by cases h
  | .bl _ :: _, _, h => by cases h
  | .tup _ :: _, _, h => by cases h
  | .lst _ :: _, _, h => by cases h
  | .dic _ :: _, _, h => by cases h
  | .al _ :: _, _, h => by cases h
theorem rpl_str {K : PySem.W.Frag} {F : Hp} {ra : List Addr} : ∀ {vs : List V} {bs : List Str}, RpL K F ra vs (bs.map .str) → vs = bs.map V.str
  | vs, [], r => by cases r; rfl
  | vs, b :: bs, r => by
    rw [List.map_cons] at r
    cases r with
    | cons p r => rw [rpS p, rpl_str r]; rfl
theorem rpl_of_str {K : PySem.W.Frag} {F : Hp} {ra : List Addr} : ∀ (bs : List Str), RpL K F ra (bs.map V.str) (bs.map .str)
  | [] => .nil
  | b :: bs => .cons (.str b) (rpl_of_str bs)
/-- the built-in that it is -/
def btV : Bt → Value
  | .len => .builtin "len" | .int => .type "int" | .abs => .builtin "abs" | .str => .type "str" | .tuple => .type "tuple" | .list => .type "list"
  | .all => .builtin "all" | .any => .builtin "any" | .max2 => .builtin "max" | .min2 => .builtin "min" | .isT => .builtin "isinstance" | .isI => .builtin "isinstance" | .isS => .builtin "isinstance"
def btIs : Bt → Bool
  | .isT => true | .isI => true | .isS => true
  | _ => false
theorem callr (hc : X.calm = true) (f : Bt) (hf : btIs f = false) : CallR X (btV f) (rPL X.K (bfun f)) := by
  intro pins s σ H vs us Q I r h
  obtain ⟨F, ra, ds, d, e, rl, hb, q⟩ := h
  unfold bfun at hb
  split at hb
  · split at hb
    · rename_i hz
      cases hb
      obtain ⟨v, rfl, r1⟩ := rpl1 rl
      cases rpS r1
      exact call_len_str pins s σ H _ us Q I r ⟨_, rfl, lim hz, q.int e⟩
    · cases hb
  · cases hb
    obtain ⟨v, rfl, r1⟩ := rpl1 rl
    obtain ⟨a, ws, rfl, h1, g1, k1⟩ := rpT e r1
    exact call_len_seq pins s σ H _ us Q I r ⟨a, ws, rfl, .inr h1, by rw [k1.length]; exact q.int e⟩
  · cases hb
    obtain ⟨v, rfl, r1⟩ := rpl1 rl
    obtain ⟨a, ws, rfl, h1, g1, k1⟩ := rpLs e r1
    exact call_len_seq pins s σ H _ us Q I r ⟨a, ws, rfl, .inl h1, by rw [k1.length]; exact q.int e⟩
  · cases hb
    obtain ⟨v, rfl, r1⟩ := rpl1 rl
    cases rpI r1
    exact call_int1 pins s σ H _ us Q I r (.inl ⟨_, rfl, q.int e⟩)
  · cases hb
    obtain ⟨v, rfl, r1⟩ := rpl1 rl
    cases rpB r1
    exact call_int1 pins s σ H _ us Q I r (.inr ⟨_, rfl, q.int e⟩)
  · split at hb
    · rename_i hz
      simp only [Option.map_eq_some_iff] at hb
      obtain ⟨n, hn, rfl⟩ := hb
      obtain ⟨v, rfl, r1⟩ := rpl1 rl
      cases rpS r1
      exact call_int_str pins s σ H _ us Q I r ⟨_, n, rfl, hn, hz, q.int e⟩
    · cases hb
  · cases hb
    obtain ⟨v, rfl, r1⟩ := rpl1 rl
    cases rpI r1
    exact call_abs pins s σ H _ us Q I r ⟨_, rfl, q.int e⟩
  · split at hb
    · rename_i hz
      cases hb
      obtain ⟨v, rfl, r1⟩ := rpl1 rl
      cases rpI r1
      exact call_str_int pins s σ H _ us Q I r ⟨_, rfl, hz, q.str e⟩
    · cases hb
  · cases hb
    obtain ⟨v, rfl, r1⟩ := rpl1 rl
    cases rpS r1
    exact SkE.call_str_str pins s σ H _ us Q I r ⟨_, rfl, q.str e⟩
  · cases hb
    obtain ⟨v, rfl, r1⟩ := rpl1 rl
    obtain ⟨a, ws, rfl, h1, g1, k1⟩ := rpLs e r1
    exact call_tuple_of pins s σ H _ us Q I r ⟨a, ws, rfl, .inl ⟨h1, fun l hl => q.newT e hl k1⟩⟩
  · cases hb
    obtain ⟨v, rfl, r1⟩ := rpl1 rl
    have r0 := r1
    obtain ⟨a, ws, rfl, h1, g1, k1⟩ := rpT e r1
    exact call_tuple_of pins s σ H _ us Q I r ⟨a, ws, rfl, .inr ⟨h1, q.here e r0⟩⟩
  · cases hb
    obtain ⟨v, rfl, r1⟩ := rpl1 rl
    obtain ⟨a, ws, rfl, h1, g1, k1⟩ := rpLs e r1
    exact call_list_of pins s σ H _ us Q I r ⟨a, ws, rfl, .inl h1, fun l hl => q.newL e hl k1⟩
  · cases hb
    obtain ⟨v, rfl, r1⟩ := rpl1 rl
    obtain ⟨a, ws, rfl, h1, g1, k1⟩ := rpT e r1
    exact call_list_of pins s σ H _ us Q I r ⟨a, ws, rfl, .inr h1, fun l hl => q.newL e hl k1⟩
  · simp only [Option.map_eq_some_iff] at hb
    obtain ⟨b, hn, rfl⟩ := hb
    obtain ⟨bs, rfl, rfl⟩ := allB_bl hn
    obtain ⟨v, rfl, r1⟩ := rpl1 rl
    obtain ⟨a, ws, rfl, h1, g1, k1⟩ := rpLs e r1
    exact cr_all hc pins s σ H _ us Q I r ⟨a, bs, rfl, by rw [rpl_bl k1] at h1; exact h1, q.bl e⟩
  · simp only [Option.map_eq_some_iff] at hb
    obtain ⟨b, hn, rfl⟩ := hb
    obtain ⟨bs, rfl, rfl⟩ := anyB_bl hn
    obtain ⟨v, rfl, r1⟩ := rpl1 rl
    obtain ⟨a, ws, rfl, h1, g1, k1⟩ := rpLs e r1
    exact cr_any hc pins s σ H _ us Q I r ⟨a, bs, rfl, by rw [rpl_bl k1] at h1; exact h1, q.bl e⟩
  · cases hb
    obtain ⟨v, w, rfl, r1, r2⟩ := rpl2 rl
    cases rpI r1; cases rpI r2
    exact call_max2 hc pins s σ H _ us Q I r ⟨_, _, rfl, q.int e⟩
  · cases hb
    obtain ⟨v, w, rfl, r1, r2⟩ := rpl2 rl
    cases rpI r1; cases rpI r2
    exact call_min2 hc pins s σ H _ us Q I r ⟨_, _, rfl, q.int e⟩
  · cases hf
  · cases hf
  · cases hf
  · cases hb

/-! ### methods of texts -/
def rPM (K : PySem.W.Frag) (f : D → List D → Option D) : V → List V → Hp → VK → Prop := fun x vs H Q => ∃ F ra dx ds d, Ex F H ∧ Rp K F ra x dx ∧ RpL K F ra vs ds ∧ f dx ds = some d ∧ Ans K F ra H d Q
def smId : Sm → String
  | .split => "str.split" | .partition => "str.partition" | .join => "str.join" | .upper => "str.upper" | .endswith => "str.endswith" | .replace => "str.replace" | .replace3 => "str.replace"
theorem newStrs {K : PySem.W.Frag} {F H : Hp} {ra : List Addr} {Q : VK} {zs : List Str} (q : Ans K F ra H (.lst (zs.map .str)) Q) (e : Ex F H) : rNewStrs zs H Q := fun p hp => q.newL e hp (rpl_of_str zs)
theorem mtr (m : Sm) (hm : m ≠ .replace) (hm3 : m ≠ .replace3) : MtR X (smId m) (rPM X.K (smeth m)) := by
  intro pins s σ H x xs v us Q I rx rs h
  obtain ⟨F, ra, dx, ds, d, e, r1, rl, hb, q⟩ := h
  unfold smeth at hb
  split at hb
  · split at hb
    · rename_i hz
      cases hb
      cases rpS r1
      obtain ⟨w, rfl, r2⟩ := rpl1 rl
      cases rpS r2
      exact mt_split pins s σ H _ _ v us Q I rx rs ⟨_, _, rfl, rfl, beq_eq_false_iff_ne.mpr hz.1, by have := sizeLine_eq; have : LIM = 1000000 := rfl; omega, newStrs q e⟩
    · cases hb
  · split at hb
    · rename_i hz
      cases hb
      cases rpS r1
      obtain ⟨w, rfl, r2⟩ := rpl1 rl
      cases rpS r2
      exact mt_partition pins s σ H _ _ v us Q I rx rs ⟨_, _, rfl, rfl, beq_eq_false_iff_ne.mpr hz.1, lim hz.2, fun p hp => q.newT e hp (.cons (.str _) (.cons (.str _) (.cons (.str _) .nil)))⟩
    · cases hb
  · simp only [Option.bind_eq_some_iff] at hb
    obtain ⟨zs, hz, hb⟩ := hb
    split at hb
    · rename_i hl
      cases hb
      cases rpS r1
      obtain ⟨w, rfl, r2⟩ := rpl1 rl
      cases txts_eq hz
      obtain ⟨a, ws, rfl, h1, g1, k1⟩ := rpLs e r2
      cases rpl_str k1
      exact mt_join pins s σ H _ _ v us Q I rx rs ⟨_, _, zs, rfl, rfl, .inl h1, by have : LIM = 1000000 := rfl; omega, q.str e⟩
    · cases hb
  · split at hb
    · rename_i hz
      cases hb
      cases rpS r1
      cases rl
      exact mt_upper pins s σ H _ _ v us Q I rx rs ⟨_, rfl, rfl, by have : LIM = 1000000 := rfl; omega, q.str e⟩
    · cases hb
  · cases hb
    cases rpS r1
    obtain ⟨w, rfl, r2⟩ := rpl1 rl
    cases rpS r2
    exact mt_endswith pins s σ H _ _ v us Q I rx rs ⟨_, _, rfl, rfl, q.bl e⟩
  · exact absurd rfl hm
  · exact absurd rfl hm3
  · cases hb
end
end Mn
end

section
set_option Elab.async false
set_option linter.all false
set_option maxRecDepth 100000
set_option maxHeartbeats 1000000
/-! MnE: expressions: what the model does is what ev does. -/
namespace Mn
open PySem PySem.Spec PyProof.Rows L2

section
variable {G : Gm} {N : List Str} {sc : Scope} {a b c e : Expr} {es : List Expr} {fa fb fc f : Slots → Store → Res D} {fs : Slots → Store → Res (List D)} {pos p p2 : Pos} {op o1 o2 : Operator}
theorem Aft.ans {K : PySem.W.Frag} {W : WX} {F H : Hp} {ra fp : List Addr} {σ : L2.St} {ρ : Slots} {st : Store} {d : D} {Q : VK} (h : Aft K W (Rp K) F H ra fp σ (.ok d st) Q) (o : Ok K F H ra fp σ ρ st) : Ans K F ra H d Q :=
  fun v F' H' g r => h.pure o g r
theorem Aft.lift {K : PySem.W.Frag} {W : WX} {F H : Hp} {ra fp : List Addr} {σ : L2.St} {ρ : Slots} {st : Store} {d : Option D} {Q : VK} (h : Aft K W (Rp K) F H ra fp σ (lift d st) Q) (o : Ok K F H ra fp σ ρ st) : ∃ x, d = some x ∧ Ans K F ra H x Q := by
  cases d with
  | none => exact False.elim h
  | some x => exact ⟨x, rfl, Aft.ans h o⟩
theorem se_k {d : D} {v : V} (hp : ∀ X : Cx, PE X e (tC v)) (r : ∀ K F ra, Rp K F ra v d) : SE G N sc e (fun _ st => .ok d st) := fun X W ok tk => by
  refine PE.imp (hp X) fun σ H Q ⟨F, ra, fp, ρ, st, o, h⟩ => ?_
  exact (Aft.ans h o).here o.ex (r _ _ _)
theorem se_int {i : Int} {j : Nat} : SE G N sc (.Constant (.int i) j pos) (fun _ st => .ok (.int i) st) := se_k (fun X => pe_int) fun _ _ _ => .int i
theorem se_bl {i : Bool} {j : Nat} : SE G N sc (.Constant (.bool i) j pos) (fun _ st => .ok (.bl i) st) := se_k (fun X => pe_bl) fun _ _ _ => .bl i
theorem se_non {j : Nat} : SE G N sc (.Constant .none j pos) (fun _ st => .ok .non st) := se_k (fun X => pe_non) fun _ _ _ => .non
theorem se_str {i : Str} {j : Nat} : SE G N sc (.Constant (.str i) j pos) (fun _ st => .ok (.str i) st) := se_k (fun X => pe_str) fun _ _ _ => .str i
/-- a name of the def -/
theorem se_var {x : Str} {i : Nat} (hi : N[i]? = some x) (hv : Vis sc x) (h1 : (x == ("__debug__" : Str)) = false) (h2 : (x == ("__classdict__" : Str)) = false) :
    SE G N sc (.Name x pos) (fun ρ st => match ρ[i]? with
      | some (.d y) => .ok y st
      | _ => .bad) := fun X W ok tk => by
  have hN : X.N[i]? = some x := by rw [ok.names]; exact hi
  have hV : Vis X.env.scope x := by rw [ok.sc]; exact hv
  refine PE.imp (pe_var hN hV h1 h2) fun σ H Q ⟨F, ra, fp, ρ, st, o, h⟩ => ?_
  dsimp only at h
  split at h
  · rename_i y hy
    obtain ⟨v, e1, r⟩ := o.getD hy
    exact ⟨v, e1, (Aft.ans h o).here o.ex r⟩
  · exact False.elim h
/-- a constant of the module -/
theorem se_glo {x : Str} {d : Option D} (hg : sc.names.lookup x = some .globalImplicit) (hd : (x == ("__debug__" : Str)) = false) (hc : ∀ y, d = some y → ∃ u v, G.mg x = some u ∧ RelV v u ∧ ∀ F ra, Rp G.K F ra v y) :
    SE G N sc (.Name x pos) (fun _ st => Mn.lift d st) := fun X W ok tk => by
  cases d with
  | none => exact ⟨fun pins s σ H Q I ⟨F, ra, fp, ρ, st, o, h⟩ => False.elim h⟩
  | some y =>
    obtain ⟨u, v, hm, r, rp⟩ := hc y rfl
    refine PE.imp (pe_glob (v := v) (u := u) (show X.env.scope.names.lookup x = some .globalImplicit by rw [ok.sc]; exact hg) (by rw [ok.mg]; exact hm) r hd) fun σ H Q ⟨F, ra, fp, ρ, st, o, h⟩ => ?_
    exact (Aft.ans h o).here o.ex (rp _ _)
theorem se_bin (ha : SE G N sc a fa) (hb : SE G N sc b fb) : SE G N sc (.BinOp a op b pos) (fun ρ st => (fa ρ st).bind fun x st => (fb ρ st).bind fun y st => Mn.lift (bin op x y) st) := fun X W ok tk => by
  refine PE.imp (pe_op (op_bin op) (ha X W ok tk) (hb X W ok tk)) fun σ H Q ⟨F, ra, fp, ρ, st, o, h⟩ => ?_
  refine ⟨F, ra, fp, ρ, st, o, h.bind o fun d1 st1 v1 F1 H1 ra1 fp1 e1 f1 p1 o1 r1 h1 => ⟨F1, ra1, fp1, ρ, st1, o1, h1.bind o1 fun d2 st2 v2 F2 H2 ra2 fp2 e2 f2 p2 o2 r2 h2 => ?_⟩⟩
  obtain ⟨d, e, q⟩ := Aft.lift h2 o2
  rw [ok.K]
  exact ⟨F2, ra2, d1, d2, d, o2.ex, r1.mono f2.ex p2, r2, e, q⟩
theorem se_neg (ha : SE G N sc a fa) : SE G N sc (.UnaryOp .USub a pos) (fun ρ st => (fa ρ st).bind fun x st => match x with
    | .int i => .ok (.int (-i)) st
    | _ => .bad) := fun X W ok tk => by
  refine PE.imp (pe_un un_neg (ha X W ok tk)) fun σ H Q ⟨F, ra, fp, ρ, st, o, h⟩ => ?_
  refine ⟨F, ra, fp, ρ, st, o, h.bind o fun d1 st1 v1 F1 H1 ra1 fp1 e1 f1 p1 o1 r1 h1 => ?_⟩
  split at h1
  · cases rpI r1
    exact ⟨_, rfl, (Aft.ans h1 o1).int o1.ex⟩
  · exact False.elim h1
theorem XOk.units {X : Cx} (ok : XOk G N sc X) : X.A.units + 65 < cLine := by
  have := ok.room.un
  omega
theorem XOk.units1 {X : Cx} (ok : XOk G N sc X) : X.A.units + 1 < cLine := by
  have := ok.room.un
  omega
theorem se_cmp {op : CmpOp} (ha : SE G N sc a fa) (hb : SE G N sc b fb) (hm : behindInMarks op b = false) : SE G N sc (.Compare a [op] [b] pos) (fun ρ st => (fa ρ st).bind fun x st => (fb ρ st).bind fun y st => Mn.lift (cmp op x y) st) := fun X W ok tk => by
  refine PE.imp (pe_cmpR (op_cmpD ok.units op) (ha X W ok tk) (hb X W ok tk) hm) fun σ H Q ⟨F, ra, fp, ρ, st, o, h⟩ => ?_
  refine ⟨F, ra, fp, ρ, st, o, h.bind o fun d1 st1 v1 F1 H1 ra1 fp1 e1 f1 p1 o1 r1 h1 => ⟨F1, ra1, fp1, ρ, st1, o1, h1.bind o1 fun d2 st2 v2 F2 H2 ra2 fp2 e2 f2 p2 o2 r2 h2 => ?_⟩⟩
  obtain ⟨d, e, q⟩ := Aft.lift h2 o2
  rw [ok.K]
  exact ⟨F2, ra2, d1, d2, d, o2.ex, r1.mono f2.ex p2, r2, e, q⟩
/-- an answer that is True or False, for a test -/
theorem Aft.toV {K : PySem.W.Frag} {W : WX} {F H : Hp} {ra fp : List Addr} {σ : L2.St} {r : Res D} {Q : Bool → Hp → Prop} (h : Aft K W (fun _ _ (b c : Bool) => b = c) F H ra fp σ (asB r) Q) :
    Aft K W (Rp K) F H ra fp σ r (fun x H' => ∃ k, x = .bl k ∧ Q k H') := by
  cases r with
  | ok d st' =>
    intro v F' H' ra' fp' fr p o' r
    cases d with
    | bl b => cases rpB r; exact ⟨b, rfl, h b F' H' ra' fp' fr p o' rfl⟩
    | _ => exact False.elim h
  | ex x st' => exact h
  | bad => exact h
theorem tDT.toV {K : PySem.W.Frag} {W : WX} {f : Slots → Store → Res D} {σ : L2.St} {H : Hp} {Q : Bool → Hp → Prop} (h : tDT K W f σ H Q) : tD K W f σ H fun x H' => ∃ k, x = .bl k ∧ Q k H' := by
  obtain ⟨F, ra, fp, ρ, st, o, h⟩ := h
  exact ⟨F, ra, fp, ρ, st, o, h.toV⟩
/-- one test after another -/
theorem Aft.bindB {α β : Type} {K : PySem.W.Frag} {W : WX} {Rel : Hp → List Addr → β → α → Prop} {F H : Hp} {ra fp : List Addr} {σ : L2.St} {ρ : Slots} {st : Store} {r : Res D} {g : Bool → Store → Res α} {Q : β → Hp → Prop} {Q' : Bool → Hp → Prop}
    (h : Aft K W Rel F H ra fp σ ((asB r).bind g) Q) (o : Ok K F H ra fp σ ρ st)
    (k : ∀ b st F1 H1 ra1 fp1, asB r = .ok b st → Fr F H fp F1 H1 fp1 → Pre ra ra1 → Ok K F1 H1 ra1 fp1 σ ρ st → Aft K W Rel F1 H1 ra1 fp1 σ (g b st) Q → Q' b H1) :
    Aft K W (fun _ _ (b c : Bool) => b = c) F H ra fp σ (asB r) Q' :=
  h.bind o fun d st v F1 H1 ra1 fp1 e f p o r h1 => by cases r; exact k _ st F1 H1 ra1 fp1 e f p o h1
theorem st_val (ha : SE G N sc e f) (he : ∀ (env : Env) whole, isTrue e env whole = (do let v ← whole; standAt e.pos; holding [v] (truthy v))) : ST G N sc e f := fun X W ok tk => by
  refine PT.imp (pt_val (ha X W ok tk) (he X.env)) fun σ H Q h => h.toV
theorem st_cmp {op : CmpOp} (ha : SE G N sc a fa) (hb : SE G N sc b fb) (hm : behindInMarks op b = false) : ST G N sc (.Compare a [op] [b] pos) (fun ρ st => (fa ρ st).bind fun x st => (fb ρ st).bind fun y st => Mn.lift (cmp op x y) st) := fun X W ok tk => by
  refine PT.imp (pt_cmpR (op_cmpD ok.units op) (ha X W ok tk) (hb X W ok tk) hm) fun σ H Q h => ?_
  obtain ⟨F, ra, fp, ρ, st, o, h⟩ := h.toV
  refine ⟨F, ra, fp, ρ, st, o, h.bind o fun d1 st1 v1 F1 H1 ra1 fp1 e1 f1 p1 o1 r1 h1 => ⟨F1, ra1, fp1, ρ, st1, o1, h1.bind o1 fun d2 st2 v2 F2 H2 ra2 fp2 e2 f2 p2 o2 r2 h2 => ?_⟩⟩
  obtain ⟨d, e, q⟩ := Aft.lift h2 o2
  rw [ok.K]
  exact ⟨F2, ra2, d1, d2, d, o2.ex, r1.mono f2.ex p2, r2, e, q⟩
/-- rows of and, or, as tests -/
def SW (G : Gm) (N : List Str) (sc : Scope) (e : Expr) (f : Slots → Store → Res D) : Prop := ∀ (X : Cx) (W : WX), XOk G N sc X → Takes X W → PW X e (tDT G.K W f)
theorem PW.imp {X : Cx} {e : Expr} {t t' : TT} (h : PW X e t) (k : ∀ σ H Q, t' σ H Q → t σ H Q) : PW X e t' := ⟨fun wh pins s σ H Q I q => h.run wh pins s σ H Q I (k σ H Q q)⟩
theorem sw_1 {op : BoolOp} (ha : ST G N sc a fa) : SW G N sc (.BoolOp op [a] pos) fa := fun X W ok tk => by
  cases op with
  | And => exact pw_and1 (ha X W ok tk)
  | Or => exact pw_or1 (ha X W ok tk)
theorem sw_and (ha : ST G N sc a fa) (hb : SW G N sc (.BoolOp .And (b :: es) pos) fb) : SW G N sc (.BoolOp .And (a :: b :: es) pos) (fun ρ st => (asB (fa ρ st)).bind fun x st => match x with
    | true => fb ρ st
    | false => .ok (.bl false) st) := fun X W ok tk => by
  refine PW.imp (pw_and (ha X W ok tk) (hb X W ok tk)) fun σ H Q ⟨F, ra, fp, ρ, st, o, h⟩ => ?_
  have h : Aft G.K W (fun _ _ (b c : Bool) => b = c) F H ra fp σ ((asB (fa ρ st)).bind fun x st => match x with
    | true => asB (fb ρ st)
    | false => .ok false st) Q := by
    dsimp only at h
    generalize fa ρ st = r at h ⊢
    cases r with
    | ok d st' => cases d with
      | bl b => cases b <;> exact h
      | _ => exact h
    | ex x st' => exact h
    | bad => exact h
  refine ⟨F, ra, fp, ρ, st, o, Aft.bindB h o fun d1 st1 F1 H1 ra1 fp1 e1 f1 p1 o1 h1 => ?_⟩
  cases d1 with
  | true => exact iteT ⟨F1, ra1, fp1, ρ, st1, o1, h1⟩
  | false => exact iteF (h1 false F1 H1 ra1 fp1 (Fr.refl _ _ _) (Pre.refl _) o1.s rfl)
theorem sw_or (ha : ST G N sc a fa) (hb : SW G N sc (.BoolOp .Or (b :: es) pos) fb) : SW G N sc (.BoolOp .Or (a :: b :: es) pos) (fun ρ st => (asB (fa ρ st)).bind fun x st => match x with
    | true => .ok (.bl true) st
    | false => fb ρ st) := fun X W ok tk => by
  refine PW.imp (pw_or (ha X W ok tk) (hb X W ok tk)) fun σ H Q ⟨F, ra, fp, ρ, st, o, h⟩ => ?_
  have h : Aft G.K W (fun _ _ (b c : Bool) => b = c) F H ra fp σ ((asB (fa ρ st)).bind fun x st => match x with
    | true => .ok true st
    | false => asB (fb ρ st)) Q := by
    dsimp only at h
    generalize fa ρ st = r at h ⊢
    cases r with
    | ok d st' => cases d with
      | bl b => cases b <;> exact h
      | _ => exact h
    | ex x st' => exact h
    | bad => exact h
  refine ⟨F, ra, fp, ρ, st, o, Aft.bindB h o fun d1 st1 F1 H1 ra1 fp1 e1 f1 p1 o1 h1 => ?_⟩
  cases d1 with
  | true => exact iteT (h1 true F1 H1 ra1 fp1 (Fr.refl _ _ _) (Pre.refl _) o1.s rfl)
  | false => exact iteF ⟨F1, ra1, fp1, ρ, st1, o1, h1⟩
theorem st_w (h : SW G N sc e f) : ST G N sc e f := fun X W ok tk => (h X W ok tk).pt
theorem st_not (ha : ST G N sc a fa) : ST G N sc (.UnaryOp .Not a pos) (fun ρ st => (asB (fa ρ st)).bind fun x st => .ok (.bl (!x)) st) := fun X W ok tk => by
  refine PT.imp (pt_not (ha X W ok tk)) fun σ H Q ⟨F, ra, fp, ρ, st, o, h⟩ => ?_
  have h : Aft G.K W (fun _ _ (b c : Bool) => b = c) F H ra fp σ ((asB (fa ρ st)).bind fun x st => .ok (!x) st) Q := by
    dsimp only at h
    generalize fa ρ st = r at h ⊢
    cases r with
    | ok d st' => cases d with
      | bl b => exact h
      | _ => exact h
    | ex x st' => exact h
    | bad => exact h
  exact ⟨F, ra, fp, ρ, st, o, Aft.bindB h o fun d1 st1 F1 H1 ra1 fp1 e1 f1 p1 o1 h1 => h1 (!d1) F1 H1 ra1 fp1 (Fr.refl _ _ _) (Pre.refl _) o1.s rfl⟩
/-- .. as values -/
theorem se_one {op : BoolOp} (ha : SE G N sc a fa) : SE G N sc (.BoolOp op [a] pos) fa := fun X W ok tk => pe_one (ha X W ok tk)
theorem se_and (ha : SE G N sc a fa) (hb : SE G N sc (.BoolOp .And (b :: es) pos) fb) : SE G N sc (.BoolOp .And (a :: b :: es) pos) (fun ρ st => (asB (fa ρ st)).bind fun x st => match x with
    | true => fb ρ st
    | false => .ok (.bl false) st) := fun X W ok tk => by
  refine PE.imp (pe_and (ha X W ok tk) (hb X W ok tk)) fun σ H Q ⟨F, ra, fp, ρ, st, o, h⟩ => ?_
  refine ⟨F, ra, fp, ρ, st, o, (Aft.bindB h o fun d1 st1 F1 H1 ra1 fp1 e1 f1 p1 o1 h1 => ?_).toV⟩
  cases d1 with
  | true => exact iteT ⟨F1, ra1, fp1, ρ, st1, o1, h1⟩
  | false => exact iteF ((Aft.ans h1 o1).bl o1.ex)
theorem se_or (ha : SE G N sc a fa) (hb : SE G N sc (.BoolOp .Or (b :: es) pos) fb) : SE G N sc (.BoolOp .Or (a :: b :: es) pos) (fun ρ st => (asB (fa ρ st)).bind fun x st => match x with
    | true => .ok (.bl true) st
    | false => fb ρ st) := fun X W ok tk => by
  refine PE.imp (pe_or (ha X W ok tk) (hb X W ok tk)) fun σ H Q ⟨F, ra, fp, ρ, st, o, h⟩ => ?_
  refine ⟨F, ra, fp, ρ, st, o, (Aft.bindB h o fun d1 st1 F1 H1 ra1 fp1 e1 f1 p1 o1 h1 => ?_).toV⟩
  cases d1 with
  | true => exact iteT ((Aft.ans h1 o1).bl o1.ex)
  | false => exact iteF ⟨F1, ra1, fp1, ρ, st1, o1, h1⟩
theorem se_not (ha : SE G N sc a fa) : SE G N sc (.UnaryOp .Not a pos) (fun ρ st => (asB (fa ρ st)).bind fun x st => .ok (.bl (!x)) st) := fun X W ok tk => by
  refine PE.imp (pe_not (ha X W ok tk)) fun σ H Q ⟨F, ra, fp, ρ, st, o, h⟩ => ?_
  exact ⟨F, ra, fp, ρ, st, o, (Aft.bindB h o fun d1 st1 F1 H1 ra1 fp1 e1 f1 p1 o1 h1 => (Aft.ans h1 o1).bl o1.ex).toV⟩
theorem se_ite (hc : ST G N sc c fc) (ha : SE G N sc a fa) (hb : SE G N sc b fb) : SE G N sc (.IfExp c a b pos) (fun ρ st => (asB (fc ρ st)).bind fun x st => match x with
    | true => fa ρ st
    | false => fb ρ st) := fun X W ok tk => by
  refine PE.imp (pe_ifExp (hc X W ok tk) (ha X W ok tk) (hb X W ok tk)) fun σ H Q ⟨F, ra, fp, ρ, st, o, h⟩ => ?_
  refine ⟨F, ra, fp, ρ, st, o, Aft.bindB h o fun d1 st1 F1 H1 ra1 fp1 e1 f1 p1 o1 h1 => ?_⟩
  cases d1 with
  | true => exact iteT ⟨F1, ra1, fp1, ρ, st1, o1, h1⟩
  | false => exact iteF ⟨F1, ra1, fp1, ρ, st1, o1, h1⟩
/-- a < b < c -/
theorem chain_ok {op1 op2 : CmpOp} {X : Cx} {W : WX} (ok : XOk G N sc X) {σ : L2.St} {H : Hp} {Q : VK}
    (h : tD G.K W (fun ρ st => (fa ρ st).bind fun x st => (fb ρ st).bind fun y st => (asB (Mn.lift (cmp op1 x y) st)).bind fun r st => match r with
      | true => (fc ρ st).bind fun z st => Mn.lift (cmp op2 y z) st
      | false => .ok (.bl false) st) σ H Q) : tChain (rP X.K (cmp op1)) (rP X.K (cmp op2)) (tD G.K W fa) (tD G.K W fb) (tD G.K W fc) σ H Q := by
  obtain ⟨F, ra, fp, ρ, st, o, h⟩ := h
  refine ⟨F, ra, fp, ρ, st, o, h.bind o fun d1 st1 v1 F1 H1 ra1 fp1 e1 f1 p1 o1 r1 h1 => ⟨F1, ra1, fp1, ρ, st1, o1, h1.bind o1 fun d2 st2 v2 F2 H2 ra2 fp2 e2 f2 p2 o2 r2 h2 => ?_⟩⟩
  rw [ok.K]
  cases e : cmp op1 d1 d2 with
  | none => rw [e] at h2; exact False.elim h2
  | some d =>
    rw [e] at h2
    cases d with
    | bl t =>
      refine ⟨F2, ra2, d1, d2, _, o2.ex, r1.mono f2.ex p2, r2, e, fun v F3 H3 g r3 => ?_⟩
      cases rpB r3
      refine ⟨t, rfl, ?_⟩
      have h3 := Aft.trans (g.fr fp2) (Pre.refl ra2) h2
      cases t with
      | true =>
        refine iteT ⟨F3, ra2, fp2, ρ, st2, o2.grow g, Aft.bind h3 (o2.grow g) fun d4 st4 v4 F4 H4 ra4 fp4 e4 f4 p4 o4 r4 h4 => ?_⟩
        obtain ⟨d5, e5, q5⟩ := Aft.lift h4 o4
        exact ⟨F4, ra4, d2, d4, d5, o4.ex, (r2.mono g.ef (Pre.refl _)).mono f4.ex p4, r4, e5, q5⟩
      | false => exact iteF ((Aft.ans h3 (o2.grow g)).bl g.ex)
    | _ => exact False.elim h2
theorem se_chain {op1 op2 : CmpOp} (ha : SE G N sc a fa) (hb : SE G N sc b fb) (hc : SE G N sc c fc) (hm : lastMarks [op1, op2] [b, c] = false) : SE G N sc (.Compare a [op1, op2] [b, c] pos) (fun ρ st => (fa ρ st).bind fun x st => (fb ρ st).bind fun y st => (asB (Mn.lift (cmp op1 x y) st)).bind fun r st => match r with
      | true => (fc ρ st).bind fun z st => Mn.lift (cmp op2 y z) st
      | false => .ok (.bl false) st) := fun X W ok tk =>
  PE.imp (pe_chain (op_cmpD ok.units op1) (op_cmpD ok.units op2) (ha X W ok tk) (hb X W ok tk) (hc X W ok tk) hm) fun σ H Q h => chain_ok ok h
theorem st_chain {op1 op2 : CmpOp} (ha : SE G N sc a fa) (hb : SE G N sc b fb) (hc : SE G N sc c fc) (hm : lastMarks [op1, op2] [b, c] = false) : ST G N sc (.Compare a [op1, op2] [b, c] pos) (fun ρ st => (fa ρ st).bind fun x st => (fb ρ st).bind fun y st => (asB (Mn.lift (cmp op1 x y) st)).bind fun r st => match r with
      | true => (fc ρ st).bind fun z st => Mn.lift (cmp op2 y z) st
      | false => .ok (.bl false) st) := fun X W ok tk =>
  PT.imp (pt_chain (op_cmpD ok.units op1) (op_cmpD ok.units op2) (ha X W ok tk) (hb X W ok tk) (hc X W ok tk) hm) fun σ H Q h => chain_ok ok h.toV
end
end Mn
end

section
set_option Elab.async false
set_option linter.all false
set_option maxRecDepth 100000
set_option maxHeartbeats 1000000
/-! MnF: rows of arguments, displays, subscripts, calls. -/
namespace Mn
open PySem PySem.Spec PyProof.Rows L2
/-- no star -/
def noStar : Expr → Bool
  | .Starred _ _ => false
  | _ => true
theorem starEach_cons {e : Expr} {es : List Expr} {env : Env} (h : noStar e = true) : starEach (e :: es) env = (false, eval e env) :: starEach es env := by
  cases e <;> first | rfl | cases h
theorem starEach_all : ∀ {es : List Expr} {env : Env}, es.all noStar = true → starEach es env = es.map fun e => (false, eval e env)
  | [], _, _ => rfl
  | e :: es, env, h => by
    rw [List.all_cons, Bool.and_eq_true] at h
    rw [starEach_cons h.1, starEach_all h.2]
    rfl
theorem backTo_star {pos : Pos} (l : List (Bool × Sem Value)) : (backTo pos l).any (·.1) = l.any (·.1) := by
  unfold backTo
  rw [List.any_map]
  rfl
theorem plain_of {es : List Expr} {env : Env} {pos : Pos} (h : es.all noStar = true) : (backTo pos (starEach es env)).any (·.1) = false := by
  rw [backTo_star, starEach_all h, List.any_map]
  simp
section
variable {G : Gm} {N : List Str} {sc : Scope} {a b c e : Expr} {es : List Expr} {fa fb fc f fe : Slots → Store → Res D} {fs : Slots → Store → Res (List D)} {pos p p2 : Pos}
theorem sa_nil : SA G N sc [] (fun _ st => .ok [] st) := fun X W ok tk =>
  PA.imp pa_nil fun σ H Q ⟨F, ra, fp, ρ, st, o, h⟩ => h [] F H ra fp (Fr.refl _ _ _) (Pre.refl _) o.s .nil
theorem sa_cons (he : SE G N sc e fe) (hs : SA G N sc es fs) (hn : noStar e = true) : SA G N sc (e :: es) (fun ρ st => (fe ρ st).bind fun x st => (fs ρ st).bind fun xs st => .ok (x :: xs) st) := fun X W ok tk => by
  refine PA.imp (pa_cons (he X W ok tk) (hs X W ok tk) (starEach_cons hn)) fun σ H Q ⟨F, ra, fp, ρ, st, o, h⟩ => ?_
  refine ⟨F, ra, fp, ρ, st, o, h.bind o fun d1 st1 v1 F1 H1 ra1 fp1 e1 f1 p1 o1 r1 h1 => ⟨F1, ra1, fp1, ρ, st1, o1, h1.bind o1 fun d2 st2 v2 F2 H2 ra2 fp2 e2 f2 p2 o2 r2 h2 => ?_⟩⟩
  exact h2 (v1 :: v2) F2 H2 ra2 fp2 (Fr.refl _ _ _) (Pre.refl _) o2.s (.cons (r1.mono f2.ex p2) r2)
theorem asL_rp {K : PySem.W.Frag} {F H : Hp} {ra : List Addr} {v : V} {d : D} {xs : List D} (e : Ex F H) (r : Rp K F ra v d) (h : items d = some xs) : ∃ p vs, v = .ref p ∧ (SqT K H p vs ∨ SqL K H p vs) ∧ RpL K F ra vs xs := by
  cases d with
  | tup ds => cases h; obtain ⟨a, vs, rfl, h1, _, k⟩ := rpT e r; exact ⟨a, vs, rfl, .inl h1, k⟩
  | lst ds => cases h; obtain ⟨a, vs, rfl, h1, _, k⟩ := rpLs e r; exact ⟨a, vs, rfl, .inr h1, k⟩
  | _ => cases h
/-- *e at the end -/
theorem sa_star (he : SE G N sc e fe) : SA G N sc [.Starred e p] (fun ρ st => asL (fe ρ st)) := fun X W ok tk => by
  refine PA.imp (StX.pa_star (he X W ok tk) pa_nil) fun σ H Q ⟨F, ra, fp, ρ, st, o, h⟩ => ?_
  refine ⟨F, ra, fp, ρ, st, o, Aft.bind (g := fun d st => Mn.lift (items d) st) h o fun d1 st1 v1 F1 H1 ra1 fp1 e1 f1 p1 o1 r1 h1 => ?_⟩
  cases ei : items d1 with
  | none => rw [ei] at h1; exact False.elim h1
  | some xs =>
    rw [ei] at h1
    obtain ⟨a, vs, rfl, hq, k⟩ := asL_rp o1.ex r1 ei
    rw [ok.K]
    exact ⟨a, vs, rfl, hq, by show Q (vs ++ []) H1; rw [List.append_nil]; exact h1 vs F1 H1 ra1 fp1 (Fr.refl _ _ _) (Pre.refl _) o1.s k⟩
theorem se_tup {k : Nat} (hs : SA G N sc es fs) : SE G N sc (.Tuple es k pos) (fun ρ st => (fs ρ st).bind fun xs st => if xs.length ≤ LIM then .ok (.tup xs) st else .bad) := fun X W ok tk => by
  refine PE.imp (pe_tup (hs X W ok tk)) fun σ H Q ⟨F, ra, fp, ρ, st, o, h⟩ => ?_
  refine ⟨F, ra, fp, ρ, st, o, h.bind o fun d1 st1 v1 F1 H1 ra1 fp1 e1 f1 p1 o1 r1 h1 => ?_⟩
  split at h1
  · rename_i hz
    exact ⟨lim (by rw [r1.length]; exact hz), fun q hq => (Aft.ans h1 o1).newT o1.ex hq r1⟩
  · exact False.elim h1
theorem se_lst (hs : SA G N sc es fs) : SE G N sc (.List es pos) (fun ρ st => (fs ρ st).bind fun xs st => if xs.length ≤ LIM then .ok (.lst xs) st else .bad) := fun X W ok tk => by
  refine PE.imp (pe_lst (hs X W ok tk)) fun σ H Q ⟨F, ra, fp, ρ, st, o, h⟩ => ?_
  refine ⟨F, ra, fp, ρ, st, o, h.bind o fun d1 st1 v1 F1 H1 ra1 fp1 e1 f1 p1 o1 r1 h1 => ?_⟩
  split at h1
  · rename_i hz
    exact ⟨lim (by rw [r1.length]; exact hz), fun q hq => (Aft.ans h1 o1).newL o1.ex hq r1⟩
  · exact False.elim h1
theorem se_ix (ha : SE G N sc a fa) (hb : SE G N sc b fb) (hs : PlainIx b) : SE G N sc (.Subscript a b pos) (fun ρ st => (fa ρ st).bind fun x st => (fb ρ st).bind fun y st => Mn.lift (ix x y) st) := fun X W ok tk => by
  refine PE.imp (pe_ix (ixr ok.units1) (ha X W ok tk) (hb X W ok tk) hs) fun σ H Q ⟨F, ra, fp, ρ, st, o, h⟩ => ?_
  refine ⟨F, ra, fp, ρ, st, o, h.bind o fun d1 st1 v1 F1 H1 ra1 fp1 e1 f1 p1 o1 r1 h1 => ⟨F1, ra1, fp1, ρ, st1, o1, h1.bind o1 fun d2 st2 v2 F2 H2 ra2 fp2 e2 f2 p2 o2 r2 h2 => ?_⟩⟩
  obtain ⟨d, e, q⟩ := Aft.lift h2 o2
  rw [ok.K]
  exact ⟨F2, ra2, d1, d2, d, o2.ex, r1.mono f2.ex p2, r2, e, q⟩
/-- the parts of a slice -/
theorem po_int {X : Cx} {W : WX} (he : SE G N sc e fe) (ok : XOk G N sc X) (tk : Takes X W) {Q : Option Int → Hp → Prop} {σ : L2.St} {H F : Hp} {ra fp : List Addr} {ρ : Slots} {st : Store} (o : Ok G.K F H ra fp σ ρ st)
    (h : Aft G.K W (fun _ _ (b c : Int) => b = c) F H ra fp σ (asI (fe ρ st)) fun i => Q (some i)) : tPart (tD G.K W fe) σ H Q := by
  refine ⟨F, ra, fp, ρ, st, o, h.bind o fun d1 st1 v1 F1 H1 ra1 fp1 e1 f1 p1 o1 r1 h1 => ?_⟩
  cases d1 with
  | int i => cases rpI r1; exact ⟨i, rfl, h1 i F1 H1 ra1 fp1 (Fr.refl _ _ _) (Pre.refl _) o1.s rfl⟩
  | _ => exact False.elim h1
theorem Aft.bindI {α β : Type} {K : PySem.W.Frag} {W : WX} {Rel : Hp → List Addr → β → α → Prop} {F H : Hp} {ra fp : List Addr} {σ : L2.St} {ρ : Slots} {st : Store} {r : Res D} {g : Int → Store → Res α} {Q : β → Hp → Prop} {Q' : Int → Hp → Prop}
    (h : Aft K W Rel F H ra fp σ ((asI r).bind g) Q) (o : Ok K F H ra fp σ ρ st)
    (k : ∀ b st F1 H1 ra1 fp1, asI r = .ok b st → Fr F H fp F1 H1 fp1 → Pre ra ra1 → Ok K F1 H1 ra1 fp1 σ ρ st → Aft K W Rel F1 H1 ra1 fp1 σ (g b st) Q → Q' b H1) :
    Aft K W (fun _ _ (b c : Int) => b = c) F H ra fp σ (asI r) Q' :=
  h.bind o fun d st v F1 H1 ra1 fp1 e f p o r h1 => by cases r; exact k _ st F1 H1 ra1 fp1 e f p o h1
theorem se_slcL (ha : SE G N sc a fa) (hb : SE G N sc b fb) : SE G N sc (.Subscript a (.Slice (some b) none none p2) pos) (fun ρ st => (fa ρ st).bind fun x st => (asI (fb ρ st)).bind fun l st => Mn.lift (slc x (some l) none) st) := fun X W ok tk => by
  refine PE.imp (pe_slice slr (ha X W ok tk) (po_some (hb X W ok tk)) po_none) fun σ H Q ⟨F, ra, fp, ρ, st, o, h⟩ => ?_
  refine ⟨F, ra, fp, ρ, st, o, h.bind o fun d1 st1 v1 F1 H1 ra1 fp1 e1 f1 p1 o1 r1 h1 => po_int hb ok tk o1 (Aft.bindI h1 o1 fun l st2 F2 H2 ra2 fp2 e2 f2 p2 o2 h2 => ?_)⟩
  obtain ⟨d, e, q⟩ := Aft.lift h2 o2
  show rPS X.K _ _ _ _ _
  rw [ok.K]
  exact ⟨F2, ra2, d1, d, o2.ex, r1.mono f2.ex p2, e, q⟩
theorem se_slcH (ha : SE G N sc a fa) (hb : SE G N sc b fb) : SE G N sc (.Subscript a (.Slice none (some b) none p2) pos) (fun ρ st => (fa ρ st).bind fun x st => (asI (fb ρ st)).bind fun l st => Mn.lift (slc x none (some l)) st) := fun X W ok tk => by
  refine PE.imp (pe_slice slr (ha X W ok tk) po_none (po_some (hb X W ok tk))) fun σ H Q ⟨F, ra, fp, ρ, st, o, h⟩ => ?_
  refine ⟨F, ra, fp, ρ, st, o, h.bind o fun d1 st1 v1 F1 H1 ra1 fp1 e1 f1 p1 o1 r1 h1 => ?_⟩
  show tPart (tD G.K W fb) σ H1 (fun u H3 => rPS X.K v1 none u H3 Q)
  refine po_int hb ok tk o1 (Aft.bindI h1 o1 fun l st2 F2 H2 ra2 fp2 e2 f2 p2 o2 h2 => ?_)
  obtain ⟨d, e, q⟩ := Aft.lift h2 o2
  show rPS X.K _ _ _ _ _
  rw [ok.K]
  exact ⟨F2, ra2, d1, d, o2.ex, r1.mono f2.ex p2, e, q⟩
theorem se_slcB (ha : SE G N sc a fa) (hb : SE G N sc b fb) (hc : SE G N sc c fc) : SE G N sc (.Subscript a (.Slice (some b) (some c) none p2) pos) (fun ρ st => (fa ρ st).bind fun x st => (asI (fb ρ st)).bind fun l st => (asI (fc ρ st)).bind fun h st => Mn.lift (slc x (some l) (some h)) st) := fun X W ok tk => by
  refine PE.imp (pe_slice slr (ha X W ok tk) (po_some (hb X W ok tk)) (po_some (hc X W ok tk))) fun σ H Q ⟨F, ra, fp, ρ, st, o, h⟩ => ?_
  refine ⟨F, ra, fp, ρ, st, o, h.bind o fun d1 st1 v1 F1 H1 ra1 fp1 e1 f1 p1 o1 r1 h1 => po_int hb ok tk o1 (Aft.bindI h1 o1 fun l st2 F2 H2 ra2 fp2 e2 f2 p2 o2 h2 => po_int hc ok tk o2 (Aft.bindI h2 o2 fun l st3 F3 H3 ra3 fp3 e3 f3 p3 o3 h3 => ?_))⟩
  obtain ⟨d, e, q⟩ := Aft.lift h3 o3
  show rPS X.K _ _ _ _ _
  rw [ok.K]
  exact ⟨F3, ra3, d1, d, o3.ex, (r1.mono f2.ex p2).mono f3.ex p3, e, q⟩

/-! ### calls -/
/-- the promise of a def, made of what Mn says that it does -/
def spD (K : PySem.W.Frag) (np : Nat) (f : Store → List D → Res D) : Sp := fun vs H Q E => ∃ F ra fp st ds, OkS K F H ra fp st ∧ RpL K F ra vs ds ∧ vs.length = np ∧ Aft K (fun c d _ H => E c d H) (Rp K) F H ra fp [] (f st ds) Q
structure FnHyp (G : Gm) (x : Str) (np : Nat) (f : Store → List D → Res D) : Prop where
  ex : ∃ (a : Addr) (fd : FuncData) (ps : List Str), G.mg x = some (.ref a) ∧ PySem.W.keepIn G.K (.ref a) = true ∧ Binds G.K fd ps [] ∧ FnOk G.P G.w G.K G.mg G.base (L2.CX G.P G.w) G.k a fd ps (spD G.K np f)
theorem se_call {x : Str} {np : Nat} {ff : Store → List D → Res D} (hf : FnHyp G x np ff) (hg : sc.names.lookup x = some .globalImplicit) (hd : (x == ("__debug__" : Str)) = false) (ha : SA G N sc (e :: es) fs) (hl : (e :: es).length = np) (hn : (e :: es).all noStar = true)
    (hlen : ∀ ρ st xs st', fs ρ st = .ok xs st' → xs.length = np) :
    SE G N sc (.Call (.Name x p) (e :: es) [] pos) (fun ρ st => (fs ρ st).bind fun xs st => ff st xs) := fun X W ok tk => by
  obtain ⟨a, fd, ps, hm, hk, hb, F⟩ := hf.ex
  rw [List.all_cons, Bool.and_eq_true] at hn
  have F' : FnOk X.prog X.w X.K X.mg X.base (L2.CX X.prog X.w) G.k a fd ps (spD G.K np ff) := by rw [ok.prog, ok.w, ok.K, ok.mg, ok.base]; exact F
  refine PE.imp (pe_callS F' ok.room (show X.env.scope.names.lookup x = some .globalImplicit by rw [ok.sc]; exact hg) (by rw [ok.mg]; exact hm) (by rw [ok.K]; exact hk) (by rw [ok.K]; exact hb) (passAt tk) (ha X W ok tk) hd (starEach_cons hn.1) (plain_of hn.2)) fun σ H Q ⟨F, ra, fp, ρ, st, o, h⟩ => ?_
  refine ⟨F, ra, fp, ρ, st, o, h.bind o fun d1 st1 v1 F1 H1 ra1 fp1 e1 f1 p1 o1 r1 h1 => ?_⟩
  refine ⟨F1, ra1, fp1, st1, d1, o1.s, r1, by rw [r1.length]; exact hlen _ _ _ _ e1, ?_⟩
  generalize ff st1 d1 = r at h1 ⊢
  cases r with
  | ok d st' => exact h1
  | ex x st' => exact h1
  | bad => exact h1
/-- a built-in by its name -/
theorem se_blt {x : Str} {f : Bt} (hf : btIs f = false) (hg : sc.names.lookup x = some .globalImplicit) (hm : G.mg x = none) (hv : bootBuiltins x = some (btV f)) (h0 : x ≠ "__name__") (hd : (x == ("__debug__" : Str)) = false) (ha : SA G N sc (e :: es) fs) (hn : (e :: es).all noStar = true) :
    SE G N sc (.Call (.Name x p) (e :: es) [] pos) (fun ρ st => (fs ρ st).bind fun xs st => Mn.lift (bfun f xs) st) := fun X W ok tk => by
  rw [List.all_cons, Bool.and_eq_true] at hn
  have gl : Gl X x := show X.env.scope.names.lookup x = some .globalImplicit by rw [ok.sc]; exact hg
  have hm' : X.mg x = none := by rw [ok.mg]; exact hm
  have fin : ∀ {σ : L2.St} {H : Hp} {Q : VK}, tD G.K W (fun ρ st => (fs ρ st).bind fun xs st => Mn.lift (bfun f xs) st) σ H Q → tCB (rPL X.K (bfun f)) (tDL G.K W fs) σ H Q := fun {σ H Q} ⟨F, ra, fp, ρ, st, o, h⟩ => by
    refine ⟨F, ra, fp, ρ, st, o, h.bind o fun d1 st1 v1 F1 H1 ra1 fp1 e1 f1 p1 o1 r1 h1 => ?_⟩
    obtain ⟨d, e, q⟩ := Aft.lift h1 o1
    rw [ok.K]
    exact ⟨F1, ra1, d1, d, o1.ex, r1, e, q⟩
  have cr := callr (X := X) ok.calm f hf
  have hsp : starEach (e :: es) X.env = (false, eval e X.env) :: starEach es X.env := starEach_cons hn.1
  cases f with
  | len => exact PE.imp (pe_callB cr gl hm' hv (ha X W ok tk) h0 hd hsp (plain_of hn.2)) fun σ H Q h => fin h
  | abs => exact PE.imp (pe_callB cr gl hm' hv (ha X W ok tk) h0 hd hsp (plain_of hn.2)) fun σ H Q h => fin h
  | all => exact PE.imp (pe_callB cr gl hm' hv (ha X W ok tk) h0 hd hsp (plain_of hn.2)) fun σ H Q h => fin h
  | any => exact PE.imp (pe_callB cr gl hm' hv (ha X W ok tk) h0 hd hsp (plain_of hn.2)) fun σ H Q h => fin h
  | max2 => exact PE.imp (pe_callB cr gl hm' hv (ha X W ok tk) h0 hd hsp (plain_of hn.2)) fun σ H Q h => fin h
  | min2 => exact PE.imp (pe_callB cr gl hm' hv (ha X W ok tk) h0 hd hsp (plain_of hn.2)) fun σ H Q h => fin h
  | int => exact PE.imp (pe_callTy cr gl hm' hv (ha X W ok tk) h0 hd hsp (plain_of hn.2)) fun σ H Q h => fin h
  | str => exact PE.imp (pe_callTy cr gl hm' hv (ha X W ok tk) h0 hd hsp (plain_of hn.2)) fun σ H Q h => fin h
  | tuple => exact PE.imp (pe_callTy cr gl hm' hv (ha X W ok tk) h0 hd hsp (plain_of hn.2)) fun σ H Q h => fin h
  | list => exact PE.imp (pe_callTy cr gl hm' hv (ha X W ok tk) h0 hd hsp (plain_of hn.2)) fun σ H Q h => fin h
  | _ => cases hf
end
end Mn
end

section
set_option Elab.async false
set_option linter.all false
set_option maxRecDepth 100000
set_option maxHeartbeats 2000000
/-! MnG: methods of texts, isinstance, what a loop walks, list comprehensions. -/
namespace Mn
open PySem PySem.Spec PyProof.Rows L2
/-- no call that super() could be -/
def noSup : Expr → Bool
  | .Call (.Name _ _) [] [] _ => false
  | _ => true
theorem base_plain {o : Expr} {name : Str} {env : Env} (h : noSup o = true) : attributeBase o name env (eval o env) = eval o env := by
  unfold attributeBase
  split
  · cases h
  · rfl
theorem few_of {es : List Expr} {env : Env} {pos : Pos} (h : es.all noStar = true) (hl : es.length < 25) : ((backTo pos (starEach es env)).all (fun x => !x.1) && (backToKw pos (keywordEach [] env)).all (fun x => x.1.isSome)
      && decide (es.length + ([] : List Keyword).length + (if ([] : List Keyword).isEmpty then 0 else 1) < 30)) = true := by
  have e1 : (backTo pos (starEach es env)).all (fun x => !x.1) = true := by
    rw [List.all_eq_not_any_not]
    simp only [Bool.not_not]
    rw [plain_of h]
    rfl
  have e2 : (backToKw pos (keywordEach [] env)).all (fun x => x.1.isSome) = true := rfl
  rw [e1, e2]
  simp
  omega
section
variable {G : Gm} {N : List Str} {sc : Scope} {a b c e : Expr} {es : List Expr} {fa fb fc f fe : Slots → Store → Res D} {fs : Slots → Store → Res (List D)} {pos p p2 : Pos}
def smName : Sm → Str
  | .split => "split" | .partition => "partition" | .join => "join" | .upper => "upper" | .endswith => "endswith" | .replace => "replace" | .replace3 => "replace"
theorem smeth_str {m : Sm} {x : D} {xs : List D} {d : D} (h : smeth m x xs = some d) : ∃ z, x = .str z := by
  unfold smeth at h
  split at h <;> first | exact ⟨_, rfl⟩ | cases h
theorem se_sm {apos : Pos} {m : Sm} (hm : m ≠ .replace ∧ m ≠ .replace3 ∧ m ≠ .upper) (ho : SE G N sc a fa) (hs : SA G N sc (e :: es) fs) (hn : (e :: es).all noStar = true) (hsup : noSup a = true) (hl : (e :: es).length < 25) (hline : (apos.endLine == pos.line) = true) :
    SE G N sc (.Call (.Attribute a (smName m) apos) (e :: es) [] pos) (fun ρ st => (fa ρ st).bind fun x st => match x with
      | .str z => (fs ρ st).bind fun xs st => Mn.lift (smeth m (.str z) xs) st
      | _ => .bad) := fun X W ok tk => by
  have hn' := hn
  rw [List.all_cons, Bool.and_eq_true] at hn'
  have fin : ∀ {σ : L2.St} {H : Hp} {Q : VK}, tD G.K W (fun ρ st => (fa ρ st).bind fun x st => match x with
      | .str z => (fs ρ st).bind fun xs st => Mn.lift (smeth m (.str z) xs) st
      | _ => .bad) σ H Q → tBM X.K "str" (rPM X.K (smeth m)) (tD G.K W fa) (tDL G.K W fs) σ H Q := fun {σ H Q} ⟨F, ra, fp, ρ, st, o, h⟩ => by
    refine ⟨F, ra, fp, ρ, st, o, h.bind o fun d1 st1 v1 F1 H1 ra1 fp1 e1 f1 p1 o1 r1 h1 => ?_⟩
    cases d1 with
    | str z =>
      cases rpS r1
      refine ⟨rfl, F1, ra1, fp1, ρ, st1, o1, h1.bind o1 fun d2 st2 v2 F2 H2 ra2 fp2 e2 f2 p2 o2 r2 h2 => ?_⟩
      obtain ⟨d, e, q⟩ := Aft.lift h2 o2
      rw [ok.K]
      exact ⟨F2, ra2, _, d2, d, o2.ex, .str z, r2, e, q⟩
    | _ => exact False.elim h1
  have mt := mtr (X := X) m hm.1 hm.2.1
  cases m with
  | split => exact PE.imp (pe_bm PySem.F.plainAttrs_str PySem.F.slot_str_split PySem.F.type_str_split mt (ho X W ok tk) (hs X W ok tk) (base_plain hsup) (few_of hn hl) hline (starEach_cons hn'.1) (plain_of hn'.2)) fun σ H Q h => fin h
  | partition => exact PE.imp (pe_bm PySem.F.plainAttrs_str PySem.F.slot_str_partition PySem.F.type_str_partition mt (ho X W ok tk) (hs X W ok tk) (base_plain hsup) (few_of hn hl) hline (starEach_cons hn'.1) (plain_of hn'.2)) fun σ H Q h => fin h
  | join => exact PE.imp (pe_bm PySem.F.plainAttrs_str PySem.F.slot_str_join PySem.F.type_str_join mt (ho X W ok tk) (hs X W ok tk) (base_plain hsup) (few_of hn hl) hline (starEach_cons hn'.1) (plain_of hn'.2)) fun σ H Q h => fin h
  | endswith => exact PE.imp (pe_bm PySem.F.plainAttrs_str PySem.F.slot_str_endswith PySem.F.type_str_endswith mt (ho X W ok tk) (hs X W ok tk) (base_plain hsup) (few_of hn hl) hline (starEach_cons hn'.1) (plain_of hn'.2)) fun σ H Q h => fin h
  | upper => exact absurd rfl hm.2.2
  | replace => exact absurd rfl hm.1
  | replace3 => exact absurd rfl hm.2.1
/-- x.upper() -/
theorem se_upper {apos : Pos} (ho : SE G N sc a fa) (hsup : noSup a = true) (hline : (apos.endLine == pos.line) = true) :
    SE G N sc (.Call (.Attribute a "upper" apos) [] [] pos) (fun ρ st => (fa ρ st).bind fun x st => match x with
      | .str z => Mn.lift (smeth .upper (.str z) []) st
      | _ => .bad) := fun X W ok tk => by
  refine PE.imp (pe_bm0 PySem.F.plainAttrs_str PySem.F.slot_str_upper PySem.F.type_str_upper (mtr (X := X) .upper (by decide) (by decide)) (ho X W ok tk) (base_plain hsup) hline) fun σ H Q ⟨F, ra, fp, ρ, st, o, h⟩ => ?_
  refine ⟨F, ra, fp, ρ, st, o, h.bind o fun d1 st1 v1 F1 H1 ra1 fp1 e1 f1 p1 o1 r1 h1 => ?_⟩
  cases d1 with
  | str z =>
    cases rpS r1
    obtain ⟨d, e, q⟩ := Aft.lift h1 o1
    rw [ok.K]
    exact ⟨rfl, F1, ra1, _, [], d, o1.ex, .str z, .nil, e, q⟩
  | _ => exact False.elim h1

/-! ### isinstance -/
theorem sqt_ty {K : PySem.W.Frag} {H : Hp} {a : Addr} {xs : List V} (h : SqT K H a xs) : TyX K H (.ref a) (.type "tuple") := by
  rcases h with (h | ⟨o, h⟩) | ⟨o, its, n, hk, hc, _⟩
  · exact .base (.tup h)
  · exact .fTuple h
  · exact .kTuple hk hc
theorem sql_ty {K : PySem.W.Frag} {H : Hp} {a : Addr} {xs : List V} (h : SqL K H a xs) : TyX K H (.ref a) (.type "list") := by
  rcases h with (h | ⟨o, h⟩) | ⟨o, its, n, hk, hc, _⟩
  · exact .base (.lst h)
  · exact .base (.frz h)
  · exact .kList hk hc
def tyN : D → Option String
  | .non => some "NoneType" | .bl _ => some "bool" | .int _ => some "int" | .str _ => some "str" | .tup _ => some "tuple" | .lst _ => some "list" | .dic _ => some "dict"
  | .al _ => none
theorem tyX_of {K : PySem.W.Frag} {F H : Hp} {ra : List Addr} {v : V} {d : D} {t : String} (e : Ex F H) (r : Rp K F ra v d) (h : tyN d = some t) : TyX K H v (.type t) := by
  cases r with
  | non => cases h; exact .base .non
  | bl b => cases h; exact .base (.bl b)
  | int b => cases h; exact .base (.int b)
  | str b => cases h; exact .base (.str b)
  | tup h1 _ => cases h; exact sqt_ty (e.st h1)
  | lst h1 _ => cases h; exact sql_ty (e.sl h1)
  | dic h1 _ => cases h; exact .base (.dK (e _ _ h1))
  | al _ => cases h
def isTy : Bt → String
  | .isT => "tuple" | .isI => "int" | .isS => "str"
  | _ => ""
theorem isi_kit {f : Bt} {x d : D} (hf : btIs f = true) (h : bfun f [x] = some d) : ∃ t b, tyN x = some t ∧ kitB t (isTy f) = some b ∧ d = .bl b := by
  cases f <;> first | cases hf | skip
  all_goals
    simp only [bfun, Option.map_eq_some_iff] at h
    obtain ⟨b, h, rfl⟩ := h
    cases x <;> first
      | (cases h; exact ⟨_, _, rfl, by decide +kernel, rfl⟩)
      | cases h
/-- isinstance(x, T), T a built-in class -/
theorem se_isi {f : Bt} {T : Str} {q : Pos} (hf : btIs f = true) (hg : sc.names.lookup ("isinstance" : Str) = some .globalImplicit) (hm : G.mg "isinstance" = none) (hT : bootBuiltins T = some (.type (isTy f))) (gT : sc.names.lookup T = some .globalImplicit) (mT : G.mg T = none)
    (h0 : T ≠ "__name__") (hd : (T == ("__debug__" : Str)) = false) (he : SE G N sc e fe) (hn : noStar e = true) :
    SE G N sc (.Call (.Name "isinstance" p) [e, .Name T q] [] pos) (fun ρ st => (fe ρ st).bind fun x st => Mn.lift (bfun f [x]) st) := fun X W ok tk => by
  have gl : Gl X "isinstance" := show X.env.scope.names.lookup ("isinstance" : Str) = some .globalImplicit by rw [ok.sc]; exact hg
  have gl2 : Gl X T := show X.env.scope.names.lookup T = some .globalImplicit by rw [ok.sc]; exact gT
  have pT : PE X (.Name T q) (tC (.ty (isTy f))) := pe_bltn gl2 (by rw [ok.mg]; exact mT) hT rfl h0 hd
  refine PE.imp (pe_callB call_isi gl (by rw [ok.mg]; exact hm) (by decide +kernel) (pa_cons (he X W ok tk) (pa_cons pT pa_nil) (starEach_cons hn)) (by decide) (by decide) (starEach_cons hn) rfl) fun σ H Q ⟨F, ra, fp, ρ, st, o, h⟩ => ?_
  refine ⟨F, ra, fp, ρ, st, o, h.bind o fun d1 st1 v1 F1 H1 ra1 fp1 e1 f1 p1 o1 r1 h1 => ?_⟩
  obtain ⟨d, ed, q⟩ := Aft.lift h1 o1
  obtain ⟨t, b, ht, hb, rfl⟩ := isi_kit hf ed
  rw [ok.K]
  refine ⟨v1, _, _, _, b, rfl, ?_, tyX_of o1.ex r1 ht, kit_ty hb, q.bl o1.ex⟩
  first | exact .ty _ | exact rfl | constructor
end
end Mn
end

section
set_option Elab.async false
set_option linter.all false
set_option maxRecDepth 100000
set_option maxHeartbeats 4000000
/-! MnZ: zip of a text and a list. -/
namespace Mn
open PySem PySem.Spec PyProof.Rows L2
def isST (ty : String) : Prop := ty = "str_ascii_iterator" ∨ ty = "str_iterator"
theorem si_keep {h h' : Heap} {it : Addr} {ty : String} {x : Str} {t : Tok} {i : Nat} (st : h.IsStrIter it ty x t i) (k : ∀ o, h.get? it = some o → h'.get? it = some o) : h'.IsStrIter it ty x t i := by
  obtain ⟨o, ho, r⟩ := st
  exact ⟨o, k o ho, r⟩
section
variable {prog : Program} {w : World} {A : Around} {E : Value → Shared → Prop} {s : Shared}
theorem nextOf_si_item {it : Addr} {x : Str} {t : Tok} {i c : Nat} {ty : String} {Q : Value → Shared → Prop} (hty : isST ty) (hit : s.heap.IsStrIter it ty x t i) (hx : x.cps[i]? = some c)
    (hQ : ∀ h', h'.IsStrIter it ty x t (i + 1) → Heap.SameBut it s.heap h' → Q (.str ⟨#[c]⟩ s.toks) { s with heap := h', toks := s.toks + 1 }) :
    wpAny (model prog w) A (Builtin.SmallTypes.nextOf (.ref it)) Q E s := by
  rcases hty with e | e <;> subst e
  · exact wpAny_nextOf_ascii_item hit hx hQ
  · exact wpAny_nextOf_wide_item hit hx hQ
theorem nextOf_si_end {it : Addr} {x : Str} {t : Tok} {i : Nat} {ty : String} {Q : Value → Shared → Prop} (hh : A.handled = none) (hty : isST ty) (hit : s.heap.IsStrIter it ty x t i) (hx : x.cps[i]? = none)
    (hE : ∀ h' e, Heap.ExtBut it s.heap h' → (∃ o, h'.get? e = some o ∧ o.cls = .type "StopIteration") → E (.ref e) { s with heap := h' }) :
    wpAny (model prog w) A (Builtin.SmallTypes.nextOf (.ref it)) Q E s := by
  rcases hty with e | e <;> subst e
  · exact wpAny_nextOf_ascii_end hh hit hx hE
  · exact wpAny_nextOf_wide_end hh hit hx hE
/-- one turn of zip(text, list), there are items -/
theorem zipS_item {z TI TO i1 i2 l2 : Addr} {x : Str} {t : Tok} {ty : String} {k1 k2 c : Nat} {ys : Array Value} {y a b : Value} {Q : Value → Shared → Prop} (hty : isST ty) (D : ZipApart z TI TO i1 i2 l2 l2)
    (hz : IsZip s.heap z TI TO .none) (hTI : IsPair s.heap TI (.ref i1) (.ref i2)) (hTO : IsPair s.heap TO a b)
    (h1 : s.heap.IsStrIter i1 ty x t k1) (h2 : s.heap.IsListIter i2 l2 k2) (hl2 : s.heap.IsList l2 ys) (hx : x.cps[k1]? = some c) (hy : ys[k2]? = some y)
    (hQ : ∀ h', IsZip h' z TI TO (rawInt s.heap.objs.size) → IsPair h' TO (.str ⟨#[c]⟩ s.toks) y → h'.IsStrIter i1 ty x t (k1 + 1) → h'.IsListIter i2 l2 (k2 + 1) → IsPair h' s.heap.objs.size (.str ⟨#[c]⟩ s.toks) y → h'.objs.size = s.heap.objs.size + 1 →
      (∀ c o, c ≠ z → c ≠ TO → c ≠ i1 → c ≠ i2 → s.heap.get? c = some o → h'.get? c = some o) → Q (.ref s.heap.objs.size) { s with heap := h', toks := s.toks + 1 }) :
    wpAny (model prog w) A (Builtin.«zip.__next__» ⟨[.ref z], []⟩) (fun fin s' => ∃ v, fin = .done (.ret v) ∧ Q v s') E s := by
  show wpAny _ _ (field (.ref z) 2 >>= _) _ _ _
  refine wpAny_bind (wpAny_field hz rfl (x := .bool false) rfl ?_)
  show wpAny _ _ (field (.ref z) 3 >>= _) _ _ _
  refine wpAny_bind (wpAny_field hz rfl (x := .ref TI) rfl ?_)
  refine wpAny_bind (wpAny_seqItems hTI rfl ?_)
  show wpAny _ _ (Builtin.SmallTypes.ownedTupleIsFree (.ref z) >>= _) _ _ _
  refine wpAny_bind ?_
  unfold Builtin.SmallTypes.ownedTupleIsFree
  refine wpAny_bind (wpAny_field hz rfl (x := .none) rfl (wpAny_pure ?_))
  simp only [if_true]
  refine wpAny_bind (wpAny_rule ?_)
  refine wpAny_bind (wpAny_field hz rfl (x := .ref TO) rfl ?_)
  refine wpAny_bind (wpAny_setField_rec hz (by simp) fun h₁ hz₁ hs₁ => ?_)
  replace hz₁ : IsZip h₁ z TI TO .ellipsis := hz₁
  refine wpAny_bind ?_
  simp only [List.zipIdx_cons, List.zipIdx_nil, List.forIn_cons, List.forIn_nil]
  refine wpAny_bind (wpAny_bind (wpAny_onRaise ?_))
  show wpAny _ _ (Builtin.SmallTypes.nextOf (.ref i1) >>= _) _ _ _
  refine wpAny_bind (nextOf_si_item hty (si_keep h1 fun o e => hs₁.extBut _ _ D.i1z e) hx fun h₂ h1₂ hs₂ => wpAny_pure ?_)
  have hTO₂ : IsPair h₂ TO a b := hs₂.extBut _ _ D.TOi1 (hs₁.extBut _ _ D.TOz hTO)
  refine wpAny_bind (wpAny_seqItems hTO₂ rfl ?_)
  refine wpAny_bind (wpAny_updateSeq_pair hTO₂ fun h₃ hTO₃ hs₃ => ?_)
  replace hTO₃ : IsPair h₃ TO (.str ⟨#[c]⟩ s.toks) b := hTO₃
  refine wpAny_bind (wpAny_letGo (wpAny_pure ?_))
  refine wpAny_bind (wpAny_bind (wpAny_onRaise ?_))
  show wpAny _ _ (Builtin.SmallTypes.nextOf (.ref i2) >>= _) _ _ _
  refine wpAny_bind (wpAny_nextOf_list_item (((h2.extBut hs₁.extBut D.i2z).extBut hs₂.extBut D.i12.symm).extBut hs₃.extBut D.TOi2.symm)
    (((hl2.extBut hs₁.extBut D.l2z).extBut hs₂.extBut D.l2i1).extBut hs₃.extBut D.l2TO) hy fun h₄ h2₄ hs₄ => wpAny_pure ?_)
  have hTO₄ : IsPair h₄ TO (.str ⟨#[c]⟩ s.toks) b := hs₄.extBut _ _ D.TOi2 hTO₃
  refine wpAny_bind (wpAny_seqItems hTO₄ rfl ?_)
  refine wpAny_bind (wpAny_updateSeq_pair hTO₄ fun h₅ hTO₅ hs₅ => ?_)
  replace hTO₅ : IsPair h₅ TO (.str ⟨#[c]⟩ s.toks) y := hTO₅
  refine wpAny_bind (wpAny_letGo (wpAny_pure (wpAny_pure ?_)))
  refine wpAny_bind (wpAny_seqItems hTO₅ rfl ?_)
  refine wpAny_bind (wpAny_newTuple ?_)
  have hsz : h₅.objs.size = s.heap.objs.size := by rw [hs₅.1, hs₄.1, hs₃.1, hs₂.1, hs₁.1]
  have hz₅ : IsZip h₅ z TI TO .ellipsis := hs₅.extBut _ _ D.TOz.symm (hs₄.extBut _ _ D.i2z.symm (hs₃.extBut _ _ D.TOz.symm (hs₂.extBut _ _ D.i1z.symm hz₁)))
  have hk₅ : ∀ c o, c ≠ z → c ≠ TO → c ≠ i1 → c ≠ i2 → s.heap.get? c = some o → h₅.get? c = some o := fun c o c1 c2 c3 c4 e =>
    hs₅.extBut _ _ c2 (hs₄.extBut _ _ c4 (hs₃.extBut _ _ c2 (hs₂.extBut _ _ c3 (hs₁.extBut _ _ c1 e))))
  have h1₅ : h₅.IsStrIter i1 ty x t (k1 + 1) := si_keep h1₂ fun o e => hs₅.extBut _ _ D.TOi1.symm (hs₄.extBut _ _ D.i12 (hs₃.extBut _ _ D.TOi1.symm e))
  have h2₅ : h₅.IsListIter i2 l2 (k2 + 1) := h2₄.extBut hs₅.extBut D.TOi2.symm
  have hzlt : z < h₅.objs.size := Heap.lt_size hz₅
  show wpAny _ _ (Builtin.SmallTypes.ownedTupleHandOut (.ref z) (.ref h₅.objs.size) >>= _) _ _ _
  refine wpAny_bind ?_
  unfold Builtin.SmallTypes.ownedTupleHandOut
  have hz₆ : IsZip (h₅.push { cls := .type "tuple", data := .seq #[.str ⟨#[c]⟩ s.toks, y] }) z TI TO .ellipsis := Heap.get?_push_of_some _ hz₅
  refine wpAny_bind (wpAny_setField_rec hz₆ (by simp) fun h₇ hz₇ hs₇ => ?_)
  replace hz₇ : IsZip h₇ z TI TO (rawInt h₅.objs.size) := hz₇
  refine wpAny_setField_rec hz₇ (by simp) fun h₈ hz₈ hs₈ => ?_
  replace hz₈ : IsZip h₈ z TI TO (rawInt h₅.objs.size) := hz₈
  have up : ∀ c o, c ≠ z → h₅.get? c = some o → h₈.get? c = some o := fun c o c1 e => hs₈.extBut _ _ c1 (hs₇.extBut _ _ c1 (Heap.get?_push_of_some _ e))
  have hT₈ : IsPair h₈ h₅.objs.size (.str ⟨#[c]⟩ s.toks) y := hs₈.extBut _ _ (Nat.ne_of_gt hzlt) (hs₇.extBut _ _ (Nat.ne_of_gt hzlt) (Heap.get?_push_size _ rfl))
  have hz8 : h₈.objs.size = h₅.objs.size + 1 := by rw [hs₈.1, hs₇.1, Heap.size_push]
  rw [hsz] at hz₈ hT₈ hz8
  refine wpAny_pure ⟨_, rfl, ?_⟩
  show Q (.ref h₅.objs.size) _
  rw [hsz]
  exact hQ h₈ hz₈ (up _ _ D.TOz hTO₅) (si_keep h1₅ fun o e => up _ o D.i1z e) (h2₅.at fun o e => up _ o D.i2z e) hT₈ hz8 fun c o c1 c2 c3 c4 e => up c o c1 (hk₅ c o c1 c2 c3 c4 e)
/-- .. and at the end -/
theorem zipS_end {z TI TO i1 i2 l2 : Addr} {x : Str} {t : Tok} {ty : String} {k1 k2 : Nat} {ys : Array Value} {a b : Value} {Q : Fin → Shared → Prop} (hh : A.handled = none) (hty : isST ty) (D : ZipApart z TI TO i1 i2 l2 l2)
    (hz : IsZip s.heap z TI TO .none) (hTI : IsPair s.heap TI (.ref i1) (.ref i2)) (hTO : IsPair s.heap TO a b)
    (h1 : s.heap.IsStrIter i1 ty x t k1) (h2 : s.heap.IsListIter i2 l2 k2) (hl2 : s.heap.IsList l2 ys) (hend : x.cps[k1]? = none ∨ ys[k2]? = none)
    (hE : ∀ h' tk e, (∀ c o, c ≠ z → c ≠ TO → c ≠ i1 → c ≠ i2 → s.heap.get? c = some o → h'.get? c = some o) → (∃ o, h'.get? e = some o ∧ o.cls = .type "StopIteration") → E (.ref e) { s with heap := h', toks := tk }) :
    wpAny (model prog w) A (Builtin.«zip.__next__» ⟨[.ref z], []⟩) Q E s := by
  show wpAny _ _ (field (.ref z) 2 >>= _) _ _ _
  refine wpAny_bind (wpAny_field hz rfl (x := .bool false) rfl ?_)
  show wpAny _ _ (field (.ref z) 3 >>= _) _ _ _
  refine wpAny_bind (wpAny_field hz rfl (x := .ref TI) rfl ?_)
  refine wpAny_bind (wpAny_seqItems hTI rfl ?_)
  show wpAny _ _ (Builtin.SmallTypes.ownedTupleIsFree (.ref z) >>= _) _ _ _
  refine wpAny_bind ?_
  unfold Builtin.SmallTypes.ownedTupleIsFree
  refine wpAny_bind (wpAny_field hz rfl (x := .none) rfl (wpAny_pure ?_))
  simp only [if_true]
  refine wpAny_bind (wpAny_rule ?_)
  refine wpAny_bind (wpAny_field hz rfl (x := .ref TO) rfl ?_)
  refine wpAny_bind (wpAny_setField_rec hz (by simp) fun h₁ hz₁ hs₁ => ?_)
  replace hz₁ : IsZip h₁ z TI TO .ellipsis := hz₁
  refine wpAny_bind ?_
  simp only [List.zipIdx_cons, List.zipIdx_nil, List.forIn_cons, List.forIn_nil]
  refine wpAny_bind (wpAny_bind (wpAny_onRaise ?_))
  show wpAny _ _ (Builtin.SmallTypes.nextOf (.ref i1) >>= _) _ _ _
  cases hx : x.cps[k1]? with
  | none =>
    refine wpAny_bind (nextOf_si_end hh hty (si_keep h1 fun o e => hs₁.extBut _ _ D.i1z e) hx fun h₂ e hs₂ he => ?_)
    obtain ⟨oe, hoe, hce⟩ := he
    have hz₂ : IsZip h₂ z TI TO .ellipsis := hs₂ _ _ D.i1z.symm hz₁
    have hez : e ≠ z := fun x => by subst x; rw [hz₂] at hoe; cases hoe; simp at hce
    refine wpAny_setField_rec hz₂ (by simp) fun h₃ _ hs₃ => hE h₃ s.toks e (fun c o c1 _ c3 _ x => hs₃.extBut _ _ c1 (hs₂ _ _ c3 (hs₁.extBut _ _ c1 x))) ⟨oe, hs₃.extBut _ _ hez hoe, hce⟩
  | some c =>
    have hy : ys[k2]? = none := by rcases hend with h | h; rw [hx] at h; cases h; exact h
    refine wpAny_bind (nextOf_si_item hty (si_keep h1 fun o e => hs₁.extBut _ _ D.i1z e) hx fun h₂ h1₂ hs₂ => wpAny_pure ?_)
    have hTO₂ : IsPair h₂ TO a b := hs₂.extBut _ _ D.TOi1 (hs₁.extBut _ _ D.TOz hTO)
    refine wpAny_bind (wpAny_seqItems hTO₂ rfl ?_)
    refine wpAny_bind (wpAny_updateSeq_pair hTO₂ fun h₃ hTO₃ hs₃ => ?_)
    refine wpAny_bind (wpAny_letGo (wpAny_pure ?_))
    refine wpAny_bind (wpAny_bind (wpAny_onRaise ?_))
    show wpAny _ _ (Builtin.SmallTypes.nextOf (.ref i2) >>= _) _ _ _
    refine wpAny_bind (wpAny_nextOf_list_end hh (((h2.extBut hs₁.extBut D.i2z).extBut hs₂.extBut D.i12.symm).extBut hs₃.extBut D.TOi2.symm)
      (((hl2.extBut hs₁.extBut D.l2z).extBut hs₂.extBut D.l2i1).extBut hs₃.extBut D.l2TO) hy fun h₄ e hs₄ he => ?_)
    obtain ⟨oe, hoe, hce⟩ := he
    have hz₄ : IsZip h₄ z TI TO .ellipsis := hs₄ _ _ D.i2z.symm (hs₃.extBut _ _ D.TOz.symm (hs₂.extBut _ _ D.i1z.symm hz₁))
    have hez : e ≠ z := fun x => by subst x; rw [hz₄] at hoe; cases hoe; simp at hce
    refine wpAny_setField_rec hz₄ (by simp) fun h₅ _ hs₅ => hE h₅ (s.toks + 1) e (fun c o c1 c2 c3 c4 x => hs₅.extBut _ _ c1 (hs₄ _ _ c4 (hs₃.extBut _ _ c2 (hs₂.extBut _ _ c3 (hs₁.extBut _ _ c1 x))))) ⟨oe, hs₅.extBut _ _ hez hoe, hce⟩
theorem pyNext_zipS_item {z TI TO i1 i2 l2 : Addr} {x : Str} {t : Tok} {ty : String} {k1 k2 c : Nat} {ys : Array Value} {y a b : Value} {Q : Option Value → Shared → Prop} (hty : isST ty) (D : ZipApart z TI TO i1 i2 l2 l2)
    (hz : IsZip s.heap z TI TO .none) (hTI : IsPair s.heap TI (.ref i1) (.ref i2)) (hTO : IsPair s.heap TO a b)
    (h1 : s.heap.IsStrIter i1 ty x t k1) (h2 : s.heap.IsListIter i2 l2 k2) (hl2 : s.heap.IsList l2 ys) (hx : x.cps[k1]? = some c) (hy : ys[k2]? = some y)
    (hQ : ∀ h', IsZip h' z TI TO (rawInt s.heap.objs.size) → IsPair h' TO (.str ⟨#[c]⟩ s.toks) y → h'.IsStrIter i1 ty x t (k1 + 1) → h'.IsListIter i2 l2 (k2 + 1) → IsPair h' s.heap.objs.size (.str ⟨#[c]⟩ s.toks) y → h'.objs.size = s.heap.objs.size + 1 →
      (∀ c o, c ≠ z → c ≠ TO → c ≠ i1 → c ≠ i2 → s.heap.get? c = some o → h'.get? c = some o) → Q (some (.ref s.heap.objs.size)) { s with heap := h', toks := s.toks + 1 }) :
    wpAny (model prog w) A (pyNext (.ref z)) Q E s := by
  have hT : s.TypeIs (.ref z) "zip" := ⟨_, hz, rfl⟩
  unfold pyNext
  exact wpAny_bind (wpAny_attempt (wpAny_callSpecial?_slot (name := Str.ofString "__next__") hT F.slot_zip_next
    (wpAny_call_entry F.slot_zip_next hT F.entry_zip_next
      (zipS_item hty D hz hTI hTO h1 h2 hl2 hx hy fun h' a1 a2 a3 a4 a5 a6 a7 => wpAny_pure (hQ h' a1 a2 a3 a4 a5 a6 a7)) (F.args_zip_next_1 _))))
theorem pyNext_zipS_end {z TI TO i1 i2 l2 : Addr} {x : Str} {t : Tok} {ty : String} {k1 k2 : Nat} {ys : Array Value} {a b : Value} {Q : Option Value → Shared → Prop} (hh : A.handled = none) (hty : isST ty) (D : ZipApart z TI TO i1 i2 l2 l2)
    (hz : IsZip s.heap z TI TO .none) (hTI : IsPair s.heap TI (.ref i1) (.ref i2)) (hTO : IsPair s.heap TO a b)
    (h1 : s.heap.IsStrIter i1 ty x t k1) (h2 : s.heap.IsListIter i2 l2 k2) (hl2 : s.heap.IsList l2 ys) (hend : x.cps[k1]? = none ∨ ys[k2]? = none)
    (hQ : ∀ h' tk, (∀ c o, c ≠ z → c ≠ TO → c ≠ i1 → c ≠ i2 → s.heap.get? c = some o → h'.get? c = some o) → Q none { s with heap := h', toks := tk }) : wpAny (model prog w) A (pyNext (.ref z)) Q E s := by
  have hT : s.TypeIs (.ref z) "zip" := ⟨_, hz, rfl⟩
  unfold pyNext
  refine wpAny_bind (wpAny_attempt (wpAny_callSpecial?_slot (name := Str.ofString "__next__") hT F.slot_zip_next
    (wpAny_call_entry F.slot_zip_next hT F.entry_zip_next (zipS_end hh hty D hz hTI hTO h1 h2 hl2 hend fun h' tk e hk he => ?_) (F.args_zip_next_1 _))))
  obtain ⟨o, ho, hc⟩ := he
  refine wpAny_bind (wpAny_isInstance (T := "StopIteration") (b := true) ⟨o, ho, hc⟩ isSubtype_stop ?_)
  exact wpAny_pure (hQ _ _ hk)
abbrev zS1 (h : Heap) (ty : String) (x : Str) (t : Tok) : Heap := h.push { cls := .type ty, data := .fields #[.str x t, .int 0 0] }
abbrev zS2 (h : Heap) (ty : String) (x : Str) (t : Tok) (l2 : Addr) : Heap := (zS1 h ty x t).push { cls := .type "list_iterator", data := .fields #[.ref l2, .int 0 0] }
abbrev zS3 (h : Heap) (ty : String) (x : Str) (t : Tok) (l2 : Addr) : Heap := (zS2 h ty x t l2).push { cls := .type "tuple", data := .seq #[.ref h.objs.size, .ref (zS1 h ty x t).objs.size] }
abbrev zS4 (h : Heap) (ty : String) (x : Str) (t : Tok) (l2 : Addr) : Heap := (zS3 h ty x t l2).push { cls := .type "tuple", data := .seq #[.none, .none] }
abbrev zS5 (h : Heap) (ty : String) (x : Str) (t : Tok) (l2 : Addr) : Heap := (zS4 h ty x t l2).push { cls := .type "zip", data := .fields #[.none, .bool false, .bool false, .ref (zS2 h ty x t l2).objs.size, .ref (zS3 h ty x t l2).objs.size] }
def tyS (x : Str) : String := if x.cps.all (· < 128) = true then "str_ascii_iterator" else "str_iterator"
theorem tyS_st (x : Str) : isST (tyS x) := by
  unfold tyS
  split
  · exact .inl rfl
  · exact .inr rfl
theorem pyIter_strS {x : Str} {t : Tok} {Q : Value → Shared → Prop} (hQ : Q (.ref s.heap.objs.size) { s with heap := s.heap.push { cls := .type (tyS x), data := .fields #[.str x t, .int 0 0] } }) : wpAny (model prog w) A (pyIter (.str x t)) Q E s := by
  cases ha : x.cps.all (· < 128)
  · exact wpAny_pyIter_wide ha (by unfold tyS at hQ; rw [ha] at hQ; exact hQ)
  · exact wpAny_pyIter_ascii ha (by unfold tyS at hQ; rw [ha] at hQ; exact hQ)
theorem meets_zipS_new (x : Str) (t : Tok) (l2 : Addr) (ys : Array Value) :
    Meets (Builtin.«zip.__new__» ⟨[.type "zip", .str x t, .ref l2], []⟩) (fun _ R s => s.heap.IsList l2 ys ∧
      R (.ok (.ret (.ref (zS4 s.heap (tyS x) x t l2).objs.size))) { s with heap := zS5 s.heap (tyS x) x t l2 }) :=
  .of_wp fun prog w A R s h => by
    obtain ⟨hp, g, d, tk, os⟩ := s; obtain ⟨hl2, h⟩ := h
    have hsub := sub_zip
    have hL2 : Heap.IsList (Shared.heap ⟨hp.push { cls := .type (tyS x), data := .fields #[.str x t, .int 0 0] }, g, d, tk, os⟩) l2 ys := Heap.IsList.push hl2 _
    wp_walk using pyIter_strS, wpAny_pyIter_list hL2
    exact ⟨_, rfl, h⟩
theorem call_zipS {x : Str} {t : Tok} {l2 : Addr} {ys : Array Value} {Q : Value → Shared → Prop} (hl2 : s.heap.IsList l2 ys)
    (h : ∀ h', IsZip h' (s.heap.objs.size + 4) (s.heap.objs.size + 2) (s.heap.objs.size + 3) .none → IsPair h' (s.heap.objs.size + 2) (.ref s.heap.objs.size) (.ref (s.heap.objs.size + 1)) →
      IsPair h' (s.heap.objs.size + 3) .none .none → h'.IsStrIter s.heap.objs.size (tyS x) x t 0 → h'.IsListIter (s.heap.objs.size + 1) l2 0 → h'.objs.size = s.heap.objs.size + 5 →
      (∀ c o, s.heap.get? c = some o → h'.get? c = some o) → Q (.ref (s.heap.objs.size + 4)) { s with heap := h' }) :
    wpAny (model prog w) A (call (.type "zip") [.str x t, .ref l2]) Q E s := by
  refine callType_new F.called_zip (by decide) (F.typeCall_zip_2 _ _) (F.newCall_zip_2 _ _) (fun obj => F.args_object_init_3 obj _ _) F.entry_zip_new
    (meets_zipS_new x t l2 ys) ⟨hl2, ?_⟩
  have z1 : (zS1 s.heap (tyS x) x t).objs.size = s.heap.objs.size + 1 := Heap.size_push ..
  have z2 : (zS2 s.heap (tyS x) x t l2).objs.size = s.heap.objs.size + 2 := by rw [Heap.size_push, z1]
  have z3 : (zS3 s.heap (tyS x) x t l2).objs.size = s.heap.objs.size + 3 := by rw [Heap.size_push, z2]
  have z4 : (zS4 s.heap (tyS x) x t l2).objs.size = s.heap.objs.size + 4 := by rw [Heap.size_push, z3]
  have z5 : (zS5 s.heap (tyS x) x t l2).objs.size = s.heap.objs.size + 5 := by rw [Heap.size_push, z4]
  have g5 : (zS5 s.heap (tyS x) x t l2).get? (zS4 s.heap (tyS x) x t l2).objs.size = some _ := Heap.get?_push_size _ rfl
  have g4 : (zS5 s.heap (tyS x) x t l2).get? (zS3 s.heap (tyS x) x t l2).objs.size = some _ := Heap.get?_push_of_some _ (Heap.get?_push_size _ rfl)
  have g3 : (zS5 s.heap (tyS x) x t l2).get? (zS2 s.heap (tyS x) x t l2).objs.size = some _ := Heap.get?_push_of_some _ (Heap.get?_push_of_some _ (Heap.get?_push_size _ rfl))
  have g2 : (zS5 s.heap (tyS x) x t l2).get? (zS1 s.heap (tyS x) x t).objs.size = some _ := Heap.get?_push_of_some _ (Heap.get?_push_of_some _ (Heap.get?_push_of_some _ (Heap.get?_push_size _ rfl)))
  have g1 : (zS5 s.heap (tyS x) x t l2).get? s.heap.objs.size = some _ := Heap.get?_push_of_some _ (Heap.get?_push_of_some _ (Heap.get?_push_of_some _ (Heap.get?_push_of_some _ (Heap.get?_push_size _ rfl))))
  show _ ∧ _
  rw [z2, z3, z4] at g5
  rw [z1, z2] at g3
  rw [z3] at g4
  rw [z1] at g2
  rw [z4]
  exact ⟨⟨_, g5, rfl⟩, h _ g5 g3 g4 ⟨_, g1, rfl, rfl⟩ ⟨_, g2, rfl, rfl⟩ z5 fun c o x =>
    Heap.get?_push_of_some _ (Heap.get?_push_of_some _ (Heap.get?_push_of_some _ (Heap.get?_push_of_some _ (Heap.get?_push_of_some _ x))))⟩
end
/-- the text x and the list at b, the items in new pairs -/
def ItzS (K : PySem.W.Frag) (z : Str) (b : Addr) : It :=
  ⟨fun i H => ∃ (ys : List V) (c : Nat) (y : V), SqL K H b ys ∧ z.cps[i]? = some c ∧ ys[i]? = some y,
    fun i H v H' => ∃ T c y, v = .ref T ∧ H T = none ∧ H' = upd H T (.tup [.str ⟨#[c]⟩, y]) ∧ z.cps[i]? = some c ∧ ∀ ys, SqL K H b ys → ys[i]? = some y,
    fun i H => ∃ ys : List V, SqL K H b ys ∧ (z.cps.size ≤ i ∨ ys.length ≤ i)⟩
theorem turn_zipS {P : Program} {w : World} {K : PySem.W.Frag} {elts : List Expr} {kk : Nat} {tpos : Pos} {x : Str} {t : Tok} {ty : String} {b z TI TO i1 i2 : Addr} (hty : isST ty) (D : ZipApart z TI TO i1 i2 b b) :
    Turn P w K (.Tuple elts kk tpos) (ItzS K x b) [z, TI, TO, i1, i2] z (fun i h => IsZip h z TI TO .none ∧ IsPair h TI (.ref i1) (.ref i2) ∧ (∃ x y, IsPair h TO x y) ∧ h.IsStrIter i1 ty x t i ∧ h.IsListIter i2 b i) where
  mem := by simp
  obj := fun i h st c hc => by
    obtain ⟨hz, hTI, ⟨x, y, hTO⟩, ⟨o1, e1, _, d1⟩, ⟨o2, e2, _, d2⟩⟩ := st
    have e' : c = z ∨ c = TI ∨ c = TO ∨ c = i1 ∨ c = i2 := by simpa using hc
    rcases e' with q | q | q | q | q
    · rw [q]; exact ⟨_, hz, fun v q => nomatch q⟩
    · rw [q]; exact ⟨_, hTI, fun v q => nomatch q⟩
    · rw [q]; exact ⟨_, hTO, fun v q => nomatch q⟩
    · rw [q]; exact ⟨o1, e1, fun v q => by rw [d1] at q; cases q⟩
    · rw [q]; exact ⟨o2, e2, fun v q => by rw [d2] at q; cases q⟩
  keep := fun i h h' st k => by
    obtain ⟨hz, hTI, ⟨x, y, hTO⟩, h1, h2⟩ := st
    exact ⟨k z (by simp) _ hz, k TI (by simp) _ hTI, ⟨x, y, k TO (by simp) _ hTO⟩, si_keep h1 fun o q => k i1 (by simp) o q, h2.at fun o q => k i2 (by simp) o q⟩
  item := by
    intro X hP hw hK hc i pins s σ H E I hf st hg
    subst hP hw hK
    obtain ⟨hz, hTI, ⟨x0, y0, hTO⟩, h1, h2⟩ := st
    obtain ⟨ys, c, y, hqy, hx, hy⟩ := hg
    obtain ⟨its2, rv2, p2, _⟩ := I.list hqy
    obtain ⟨u2, hu2, ru2⟩ := rv2.get hy
    have hzl : z < s.heap.objs.size := Heap.lt_size hz
    refine pyNext_zipS_item hty D hz hTI hTO h1 h2 p2.isList hx (y := u2) (by simpa using hu2) fun h' z' TO' h1' h2' hT hsz hk => ?_
    refine ⟨_, rfl, wpAny_letOwnedTupleGo_zip (s := { s with heap := h', toks := s.toks + 1 }) z' fun h'' z'' sb => ?_⟩
    have hT2 : h''.get? s.heap.objs.size = some { cls := .type "tuple", data := .seq #[.str ⟨#[c]⟩ s.toks, u2] } := (sb.2 _ (Nat.ne_of_gt hzl)).trans hT
    have new : ObjOk X.prog X.w (upd H s.heap.objs.size (.tup [.str ⟨#[c]⟩, y])) h'' s.heap.objs.size (.tup [.str ⟨#[c]⟩, y]) :=
      ⟨by show 2 ≤ sizeLine; decide, [.str ⟨#[c]⟩ s.toks, u2], .cons ⟨s.toks, rfl⟩ (.cons ru2 .nil), ⟨_, hT2, rfl, _, rfl⟩⟩
    have I1 : Inv X pins σ (upd H s.heap.objs.size (.tup [.str ⟨#[c]⟩, y])) { s with heap := h'', toks := s.toks + 1 } :=
      I.turnedNew (t' := s.toks + 1) (ch := [z, TI, TO, i1, i2]) (fun c o hb q => (sb.2 c (fun q' => hb (by simp [q']))).trans (hk c o (fun q' => hb (by simp [q'])) (fun q' => hb (by simp [q'])) (fun q' => hb (by simp [q'])) (fun q' => hb (by simp [q'])) q)) hf (Nat.le_refl _) new
    refine ⟨.ref s.heap.objs.size, _, I1, rfl, ⟨_, c, y, rfl, I.hok.fresh (Nat.le_refl _), rfl, hx, fun l hl => by rw [I.list_inj hl hqy]; exact hy⟩, ⟨z'', ?_, ⟨.str ⟨#[c]⟩ s.toks, u2, ?_⟩, ?_, ?_⟩, fun c hcm => ?_⟩
    · exact (sb.2 _ D.TIz).trans (hk _ _ D.TIz D.TITO D.TIi1 D.TIi2 hTI)
    · exact (sb.2 _ D.TOz).trans TO'
    · exact si_keep h1' fun o q => (sb.2 _ D.i1z).trans q
    · exact h2'.at fun o q => (sb.2 _ D.i2z).trans q
    · have hlt : c < s.heap.objs.size := by
        have e' : c = z ∨ c = TI ∨ c = TO ∨ c = i1 ∨ c = i2 := by simpa using hcm
        rcases e' with q | q | q | q | q
        · rw [q]; exact hzl
        · rw [q]; exact Heap.lt_size hTI
        · rw [q]; exact Heap.lt_size hTO
        · rw [q]; obtain ⟨_, e1, _⟩ := h1; exact Heap.lt_size e1
        · rw [q]; obtain ⟨_, e2, _⟩ := h2; exact Heap.lt_size e2
      rw [upd_ne (Nat.ne_of_lt hlt)]
      exact (hf c hcm).1
  done := by
    intro X hP hw hK hc i pins s σ H E I hf st hg
    subst hP hw hK
    obtain ⟨hz, hTI, ⟨x0, y0, hTO⟩, h1, h2⟩ := st
    obtain ⟨ys, hqy, hend⟩ := hg
    obtain ⟨its2, rv2, p2, _⟩ := I.list hqy
    have l2 := rv2.length
    have he : x.cps[i]? = none ∨ its2.toArray[i]? = none := by
      rcases hend with q | q
      · exact .inl (by simp; omega)
      · exact .inr (by simp; omega)
    exact pyNext_zipS_end (I.ok.hd hc) hty D hz hTI hTO h1 h2 p2.isList he fun h' tk hk => ⟨rfl, I.turnedL (t' := tk) (ch := [z, TI, TO, i1, i2]) (fun c o hb q =>
      hk c o (fun q' => hb (by simp [q'])) (fun q' => hb (by simp [q'])) (fun q' => hb (by simp [q'])) (fun q' => hb (by simp [q'])) q) hf⟩
  self := fun A i s Q E st h => wpAny_pyIter_zip st.1 h
/-- zip of two lists, of two tuples, of a text and a list -/
def iZip3 (K : PySem.W.Frag) (ta : TA) : TI := fun σ H R => ta σ H fun vs H1 => (∃ a b xs ys, vs = [.ref a, .ref b] ∧ ((SqL K H1 a xs ∧ SqL K H1 b ys ∧ R (Itz K a b) H1) ∨ (SqT K H1 a xs ∧ SqT K H1 b ys ∧ R (RZ.ItzT K a b) H1))) ∨ ∃ z b ys, vs = [.str z, .ref b] ∧ SqL K H1 b ys ∧ R (ItzS K z b) H1
theorem pi_zip3 {X : Cx} {e e2 : Expr} {ta : TA} {p pos tpos : Pos} {elts : List Expr} {kk : Nat} (hg : Gl X "zip") (hm : X.mg "zip" = none) (ha : PA X [e, e2] ta)
    (hs : starEach [e, e2] X.env = (false, eval e X.env) :: starEach [e2] X.env) (hpl : (backTo pos (starEach [e2] X.env)).any (·.1) = false) :
    PI X (.Tuple elts kk tpos) (.Call (.Name "zip" p) [e, e2] [] pos) (iZip3 X.K ta) := by
  refine ⟨fun pins s σ H R I h => ?_⟩
  refine Call_ (ld_blt I hg hm PyProof.Rows.boot_zip (PyProof.Rows.callWith_type1 (thn (ha.run pos pins s σ H _ I h) fun us s1 ⟨vs, H1, I1, r1, q1⟩ => ?_) hs hpl))
  have fresh5 : ∀ c, c ∈ [s1.heap.objs.size + 4, s1.heap.objs.size + 2, s1.heap.objs.size + 3, s1.heap.objs.size, s1.heap.objs.size + 1] → FpOk X pins H1 c := fun c hcm => by
    have e' : c = s1.heap.objs.size + 4 ∨ c = s1.heap.objs.size + 2 ∨ c = s1.heap.objs.size + 3 ∨ c = s1.heap.objs.size ∨ c = s1.heap.objs.size + 1 := by simpa using hcm
    have hle : s1.heap.objs.size ≤ c := by
      rcases e' with z | z | z | z | z <;> rw [z] <;> omega
    exact I1.fpOk hle (I1.hok.fresh hle)
  rcases q1 with ⟨a, b, xs, ys, ex, q1⟩ | ⟨x, b, ys, ex, hqy, q⟩
  · subst ex
    cases r1 with
    | cons r rr =>
      cases rr with
      | cons r' rr =>
        cases rr
        cases r
        cases r'
        rcases q1 with ⟨hqx, hqy, q⟩ | ⟨hqx, hqy, q⟩
        · obtain ⟨its, rv, p1, _⟩ := I1.list hqx
          obtain ⟨its2, rv2, p2, _⟩ := I1.list hqy
          refine call_zip_2 p1.isList p2.isList fun h' hz hTI hTO h1 h2 hsz hk => wpAny_pyIter_zip hz ?_
          have I2 : Inv X pins σ H1 { s1 with heap := h' } := I1.kept (t' := s1.toks) hk
          exact ⟨s1.heap.objs.size + 4, [s1.heap.objs.size + 4, s1.heap.objs.size + 2, s1.heap.objs.size + 3, s1.heap.objs.size, s1.heap.objs.size + 1], _, _, H1, rfl, I2, turn_zip (PySem.W.ktu_apart s1.heap.objs.size a b p1.lt p2.lt), ⟨hz, hTI, ⟨_, _, hTO⟩, h1, h2⟩, fresh5, q⟩
        · obtain ⟨its, rv, p1, _⟩ := I1.tuple hqx
          obtain ⟨its2, rv2, p2, _⟩ := I1.tuple hqy
          obtain ⟨o1, ho1, _⟩ := id p1
          obtain ⟨o2, ho2, _⟩ := id p2
          refine RZ.call_zipT (show s1.heap.IsTuple a its.toArray from p1) (show s1.heap.IsTuple b its2.toArray from p2) fun h' hz hTI hTO h1 h2 hsz hk => wpAny_pyIter_zip hz ?_
          have I2 : Inv X pins σ H1 { s1 with heap := h' } := I1.kept (t' := s1.toks) hk
          exact ⟨s1.heap.objs.size + 4, [s1.heap.objs.size + 4, s1.heap.objs.size + 2, s1.heap.objs.size + 3, s1.heap.objs.size, s1.heap.objs.size + 1], _, _, H1, rfl, I2, RZ.turn_zipT (PySem.W.ktu_apart s1.heap.objs.size a b (Heap.lt_size ho1) (Heap.lt_size ho2)), ⟨hz, hTI, ⟨_, _, hTO⟩, h1, h2⟩, fresh5, q⟩
  · subst ex
    cases r1 with
    | cons r rr =>
      cases rr with
      | cons r' rr =>
        cases rr
        obtain ⟨t, rfl⟩ := r
        cases r'
        obtain ⟨its2, rv2, p2, _⟩ := I1.list hqy
        refine call_zipS p2.isList fun h' hz hTI hTO h1 h2 hsz hk => wpAny_pyIter_zip hz ?_
        have I2 : Inv X pins σ H1 { s1 with heap := h' } := I1.kept (t' := s1.toks) hk
        exact ⟨s1.heap.objs.size + 4, [s1.heap.objs.size + 4, s1.heap.objs.size + 2, s1.heap.objs.size + 3, s1.heap.objs.size, s1.heap.objs.size + 1], _, _, H1, rfl, I2, turn_zipS (tyS_st x) (PySem.W.ktu_apart s1.heap.objs.size b b p2.lt p2.lt), ⟨hz, hTI, ⟨_, _, hTO⟩, h1, h2⟩, fresh5, q⟩
end Mn
end

section
set_option Elab.async false
set_option linter.all false
set_option maxRecDepth 100000
set_option maxHeartbeats 2000000
/-! MnH: what loops walk. -/
namespace Mn
open PySem PySem.Spec PyProof.Rows L2
/-- the iterator J gives xs, whatever else happens to the heap -/
def Jk (K : PySem.W.Frag) (F0 : Hp) (ra0 : List Addr) (J : It) (xs : List D) : Prop := ∀ i F H ra, Ex F0 F → Ex F H → Pre ra0 ra →
  (∀ x, xs[i]? = some x → J.go i H ∧ ∀ v H', J.yld i H v H' → ∃ F', Grow F H F' H' ∧ Rp K F' ra v x) ∧ (xs.length ≤ i → J.stop i H)
theorem Jk.mono {K : PySem.W.Frag} {F0 F1 : Hp} {ra0 ra1 : List Addr} {J : It} {xs : List D} (h : Jk K F0 ra0 J xs) (e : Ex F0 F1) (p : Pre ra0 ra1) : Jk K F1 ra1 J xs :=
  fun i F H ra e1 e2 p2 => h i F H ra (e.trans e1) e2 (p.trans p2)
def tI (K : PySem.W.Frag) (W : WX) (f : Slots → Store → Res (List D)) : TI := fun σ H R => ∃ F ra fp ρ st, Ok K F H ra fp σ ρ st ∧ Aft K W (Jk K) F H ra fp σ (f ρ st) R
def SI (G : Gm) (N : List Str) (sc : Scope) (tg e : Expr) (f : Slots → Store → Res (List D)) : Prop := ∀ (X : Cx) (W : WX), XOk G N sc X → Takes X W → PI X tg e (tI G.K W f)
theorem PI.imp {X : Cx} {tg e : Expr} {t t' : TI} (h : PI X tg e t) (k : ∀ σ H R, t' σ H R → t σ H R) : PI X tg e t' := ⟨fun pins s σ H R I q => h.run pins s σ H R I (k σ H R q)⟩

/-! ### a list, a tuple, a text -/
def iAny (K : PySem.W.Frag) (tl : TE) : TI := fun σ H R => tl σ H fun x H1 => (∃ a, x = .ref a ∧ (((∃ xs, SqL K H1 a xs) ∧ R (Itl K a) H1) ∨ ((∃ xs, SqT K H1 a xs) ∧ R (Itt K a) H1))) ∨ ∃ z, x = .str z ∧ R (Its z) H1
theorem pi_any {X : Cx} {tg l : Expr} {tl : TE} (hl : PE X l tl) : PI X tg l (iAny X.K tl) := by
  refine ⟨fun pins s σ H R I h => ?_⟩
  refine thn (hl.run pins s σ H _ I h) fun v s1 ⟨y, H1, I1, r1, q1⟩ => ?_
  rcases q1 with ⟨a, e, q1⟩ | ⟨x, ex, q⟩
  · subst e
    cases r1
    rcases q1 with ⟨⟨xs, hq⟩, q⟩ | ⟨⟨xs, hq⟩, q⟩
    · obtain ⟨its, rv, p, hz⟩ := I1.list hq
      refine wpAny_pyIter_list p.isList ?_
      refine ⟨s1.heap.objs.size, [s1.heap.objs.size], _, _, H1, rfl, I1.kept (t' := s1.toks) fun b o e => Heap.get?_push_of_some _ e, turn_list a _, ⟨_, Heap.get?_push_size _ rfl, rfl, rfl⟩, fun b hb => ?_, q⟩
      have e : b = s1.heap.objs.size := by simpa using hb
      subst e
      exact I1.fpOk (Nat.le_refl _) (I1.hok.fresh (Nat.le_refl _))
    · obtain ⟨its, rv, p, hz⟩ := I1.tuple hq
      refine wpAny_pyIter_tuple (show s1.heap.IsTuple a its.toArray from p) ?_
      refine ⟨s1.heap.objs.size, [s1.heap.objs.size], _, _, H1, rfl, I1.kept (t' := s1.toks) fun b o e => Heap.get?_push_of_some _ e, turn_tuple a _, ⟨_, Heap.get?_push_size _ rfl, rfl, rfl⟩, fun b hb => ?_, q⟩
      have e : b = s1.heap.objs.size := by simpa using hb
      subst e
      exact I1.fpOk (Nat.le_refl _) (I1.hok.fresh (Nat.le_refl _))
  · subst ex
    obtain ⟨t, rfl⟩ := r1
    cases ha : x.cps.all (· < 128)
    · exact wpAny_pyIter_wide ha (pi_one (tk := s1.toks) I1 _ (turn_str _ x t "str_iterator" (.inr rfl)) ⟨_, Heap.get?_push_size _ rfl, rfl, rfl⟩ q)
    · exact wpAny_pyIter_ascii ha (pi_one (tk := s1.toks) I1 _ (turn_str _ x t "str_ascii_iterator" (.inl rfl)) ⟨_, Heap.get?_push_size _ rfl, rfl, rfl⟩ q)
theorem jk_list {K : PySem.W.Frag} {F : Hp} {ra : List Addr} {a : Addr} {vs : List V} {xs : List D} (h : SqL K F a vs) (r : RpL K F ra vs xs) : Jk K F ra (Itl K a) xs := fun i F1 H1 ra1 e1 e2 p => by
  have h1 : SqL K H1 a vs := (h |> e1.sl) |> e2.sl
  refine ⟨fun x hx => ?_, fun hl => ⟨vs, h1, by rw [r.length]; exact hl⟩⟩
  obtain ⟨v, hv, rv⟩ := r.get hx
  exact ⟨⟨vs, v, h1, hv⟩, fun w H' ⟨eH, y⟩ => by subst eH; have := y vs h1; rw [hv] at this; cases this; exact ⟨F1, Grow.refl e2, rv.mono e1 p⟩⟩
theorem jk_tup {K : PySem.W.Frag} {F : Hp} {ra : List Addr} {a : Addr} {vs : List V} {xs : List D} (h : SqT K F a vs) (r : RpL K F ra vs xs) : Jk K F ra (Itt K a) xs := fun i F1 H1 ra1 e1 e2 p => by
  have h1 : SqT K H1 a vs := (h |> e1.st) |> e2.st
  refine ⟨fun x hx => ?_, fun hl => ⟨vs, h1, by rw [r.length]; exact hl⟩⟩
  obtain ⟨v, hv, rv⟩ := r.get hx
  exact ⟨⟨vs, v, h1, hv⟩, fun w H' ⟨eH, y⟩ => by subst eH; have := y vs h1; rw [hv] at this; cases this; exact ⟨F1, Grow.refl e2, rv.mono e1 p⟩⟩
theorem jk_str {K : PySem.W.Frag} {F : Hp} {ra : List Addr} (z : Str) : Jk K F ra (Its z) (chars z) := fun i F1 H1 ra1 e1 e2 p => by
  refine ⟨fun x hx => ?_, fun hl => show z.cps.size ≤ i by unfold chars at hl; simpa using hl⟩
  unfold chars at hx
  rw [List.getElem?_map, Option.map_eq_some_iff] at hx
  obtain ⟨c, hc, rfl⟩ := hx
  have hc' : z.cps[i]? = some c := by simpa using hc
  refine ⟨(Array.getElem?_eq_some_iff.mp hc').1, fun w H' ⟨eH, c', hc2, ew⟩ => ?_⟩
  rw [hc'] at hc2
  cases hc2
  subst eH; subst ew
  exact ⟨F1, Grow.refl e2, .str _⟩
section
variable {G : Gm} {N : List Str} {sc : Scope} {tg a b e : Expr} {es : List Expr} {fa fb fe : Slots → Store → Res D} {fs : Slots → Store → Res (List D)} {pos p p2 : Pos}
theorem si_any (he : SE G N sc e fe) : SI G N sc tg e (fun ρ st => asIt (fe ρ st)) := fun X W ok tk => by
  refine PI.imp (pi_any (he X W ok tk)) fun σ H R ⟨F, ra, fp, ρ, st, o, h⟩ => ?_
  refine ⟨F, ra, fp, ρ, st, o, Aft.bind (g := fun d st => Mn.lift (itemsI d) st) h o fun d1 st1 v1 F1 H1 ra1 fp1 e1 f1 p1 o1 r1 h1 => ?_⟩
  cases ei : itemsI d1 with
  | none => rw [ei] at h1; exact False.elim h1
  | some xs =>
    rw [ei] at h1
    rw [ok.K]
    cases d1 with
    | tup ds =>
      cases ei
      obtain ⟨a, vs, rfl, h2, h3, k⟩ := rpT o1.ex r1
      exact .inl ⟨a, rfl, .inr ⟨⟨vs, h2⟩, Aft.here h1 o1 (jk_tup h3 k)⟩⟩
    | lst ds =>
      cases ei
      obtain ⟨a, vs, rfl, h2, h3, k⟩ := rpLs o1.ex r1
      exact .inl ⟨a, rfl, .inl ⟨⟨vs, h2⟩, Aft.here h1 o1 (jk_list h3 k)⟩⟩
    | str z =>
      cases ei
      cases rpS r1
      exact .inr ⟨z, rfl, Aft.here h1 o1 (jk_str z)⟩
    | _ => cases ei
/-! ### range -/
theorem jk_range {K : PySem.W.Frag} {F : Hp} {ra : List Addr} (lo : Int) (n : Nat) : Jk K F ra (Itr lo n) ((List.range n).map fun (i : Nat) => D.int (lo + (i : Int))) := fun i F1 H1 ra1 e1 e2 p => by
  refine ⟨fun x hx => ?_, fun hl => show n ≤ i by simpa using hl⟩
  rw [List.getElem?_map, Option.map_eq_some_iff] at hx
  obtain ⟨c, hc, rfl⟩ := hx
  obtain ⟨hi, e⟩ := List.getElem?_eq_some_iff.mp hc
  have hi : i < n := by simpa using hi
  have e : i = c := by simpa using e
  subst e
  exact ⟨hi, fun w H' ⟨eH, ew⟩ => by subst eH; subst ew; exact ⟨F1, Grow.refl e2, .int _⟩⟩
theorem rng_ok {i : Int} (h : rngOk i = true) : -(2 ^ 62) ≤ i ∧ i < 2 ^ 62 := by simpa [rngOk] using h
theorem si_rng1 (ha : SE G N sc a fa) (hg : sc.names.lookup ("range" : Str) = some .globalImplicit) (hm : G.mg "range" = none) (hn : noStar a = true) :
    SI G N sc tg (.Call (.Name "range" p) [a] [] pos) (fun ρ st => (fa ρ st).bind fun x st => match x with
      | .int n => if rngOk n = true then .ok ((List.range n.toNat).map fun (i : Nat) => D.int (0 + (i : Int))) st else .bad
      | _ => .bad) := fun X W ok tk => by
  have gl : Gl X "range" := show X.env.scope.names.lookup ("range" : Str) = some .globalImplicit by rw [ok.sc]; exact hg
  refine PI.imp (pi_range1 gl (by rw [ok.mg]; exact hm) (pa_cons (ha X W ok tk) pa_nil (starEach_cons hn)) (starEach_cons hn)) fun σ H R ⟨F, ra, fp, ρ, st, o, h⟩ => ?_
  refine ⟨F, ra, fp, ρ, st, o, h.bind o fun d1 st1 v1 F1 H1 ra1 fp1 e1 f1 p1 o1 r1 h1 => ?_⟩
  split at h1
  · cases rpI r1
    rename_i n
    split at h1
    · rename_i hn
      obtain ⟨q1, q2⟩ := rng_ok hn
      exact ⟨n, rfl, q1, q2, Aft.here h1 o1 (jk_range 0 _)⟩
    · exact False.elim h1
  · exact False.elim h1
theorem si_rng2 (ha : SE G N sc a fa) (hb : SE G N sc b fb) (hg : sc.names.lookup ("range" : Str) = some .globalImplicit) (hm : G.mg "range" = none) (hn : noStar a = true) (hn2 : noStar b = true) :
    SI G N sc tg (.Call (.Name "range" p) [a, b] [] pos) (fun ρ st => (fa ρ st).bind fun x st => (fb ρ st).bind fun y st => match x, y with
      | .int i, .int j => if rngOk i = true ∧ rngOk j = true then .ok ((List.range (j - i).toNat).map fun (n : Nat) => D.int (i + (n : Int))) st else .bad
      | _, _ => .bad) := fun X W ok tk => by
  have gl : Gl X "range" := show X.env.scope.names.lookup ("range" : Str) = some .globalImplicit by rw [ok.sc]; exact hg
  refine PI.imp (pi_range2 gl (by rw [ok.mg]; exact hm) (pa_cons (ha X W ok tk) (pa_cons (hb X W ok tk) pa_nil (starEach_cons hn2)) (starEach_cons hn)) (by rw [starEach_cons hn, starEach_cons hn2]; rfl) (starEach_cons hn2)) fun σ H R ⟨F, ra, fp, ρ, st, o, h⟩ => ?_
  refine ⟨F, ra, fp, ρ, st, o, h.bind o fun d1 st1 v1 F1 H1 ra1 fp1 e1 f1 p1 o1 r1 h1 => ⟨F1, ra1, fp1, ρ, st1, o1, h1.bind o1 fun d2 st2 v2 F2 H2 ra2 fp2 e2 f2 p2 o2 r2 h2 => ?_⟩⟩
  split at h2
  · rename_i i j
    cases rpI r1
    cases rpI r2
    split at h2
    · rename_i hq
      obtain ⟨q1, q2⟩ := rng_ok hq.1
      obtain ⟨q3, q4⟩ := rng_ok hq.2
      exact ⟨i, j, rfl, ⟨q1, q2, q3, q4⟩, Aft.here h2 o2 (jk_range i _)⟩
    · exact False.elim h2
  · exact False.elim h2
/-! ### zip of two lists, of two tuples -/
theorem zipD_get : ∀ (xs ys : List D) (i : Nat) (d : D), (zipD xs ys)[i]? = some d → ∃ x y, xs[i]? = some x ∧ ys[i]? = some y ∧ d = .tup [x, y]
  | [], _, i, d, h => by simp [zipD] at h
  | _ :: _, [], i, d, h => by simp [zipD] at h
  | x :: xs, y :: ys, 0, d, h => by simp [zipD] at h; exact ⟨x, y, rfl, rfl, h.symm⟩
  | x :: xs, y :: ys, i + 1, d, h => by
    obtain ⟨a, b, h1, h2, h3⟩ := zipD_get xs ys i d (by simpa [zipD] using h)
    exact ⟨a, b, by simpa using h1, by simpa using h2, h3⟩
theorem zipD_len : ∀ (xs ys : List D), (zipD xs ys).length = min xs.length ys.length
  | [], _ => by simp [zipD]
  | _ :: _, [] => by simp [zipD]
  | x :: xs, y :: ys => by simp [zipD, zipD_len xs ys, Nat.add_min_add_right]
theorem new_pair {K : PySem.W.Frag} {F H : Hp} {ra : List Addr} {T : Addr} {v w : V} {x y : D} (e : Ex F H) (hT : H T = none) (r1 : Rp K F ra v x) (r2 : Rp K F ra w y) :
    ∃ F', Grow F H F' (upd H T (.tup [v, w])) ∧ Rp K F' ra (.ref T) (.tup [x, y]) :=
  ⟨_, Grow.new e hT, .tup (SqT.of upd_same) (.cons (r1.mono (Grow.new (o := .tup [v, w]) e hT).ef (Pre.refl _)) (.cons (r2.mono (Grow.new (o := .tup [v, w]) e hT).ef (Pre.refl _)) .nil))⟩
theorem jk_zipL {K : PySem.W.Frag} {F : Hp} {ra : List Addr} {a b : Addr} {vs ws : List V} {xs ys : List D} (h : SqL K F a vs) (h' : SqL K F b ws) (r : RpL K F ra vs xs) (r' : RpL K F ra ws ys) : Jk K F ra (Itz K a b) (zipD xs ys) := fun i F1 H1 ra1 e1 e2 p => by
  have h1 : SqL K H1 a vs := (h |> e1.sl) |> e2.sl
  have h2 : SqL K H1 b ws := (h' |> e1.sl) |> e2.sl
  refine ⟨fun d hd => ?_, fun hl => ⟨vs, ws, h1, h2, by rw [zipD_len] at hl; rw [r.length, r'.length]; omega⟩⟩
  obtain ⟨x, y, hx, hy, rfl⟩ := zipD_get _ _ _ _ hd
  obtain ⟨v, hv, rv⟩ := r.get hx
  obtain ⟨w, hw, rw'⟩ := r'.get hy
  refine ⟨⟨vs, ws, v, w, h1, h2, hv, hw⟩, fun u H' ⟨T, v', w', eu, hT, eH, k1, k2⟩ => ?_⟩
  have q1 := k1 vs h1
  have q2 := k2 ws h2
  rw [hv] at q1; rw [hw] at q2
  cases q1; cases q2
  subst eu; subst eH
  exact new_pair e2 hT (rv.mono e1 p) (rw'.mono e1 p)
theorem jk_zipT {K : PySem.W.Frag} {F : Hp} {ra : List Addr} {a b : Addr} {vs ws : List V} {xs ys : List D} (h : SqT K F a vs) (h' : SqT K F b ws) (r : RpL K F ra vs xs) (r' : RpL K F ra ws ys) : Jk K F ra (RZ.ItzT K a b) (zipD xs ys) := fun i F1 H1 ra1 e1 e2 p => by
  have h1 : SqT K H1 a vs := (h |> e1.st) |> e2.st
  have h2 : SqT K H1 b ws := (h' |> e1.st) |> e2.st
  refine ⟨fun d hd => ?_, fun hl => ⟨vs, ws, h1, h2, by rw [zipD_len] at hl; rw [r.length, r'.length]; omega⟩⟩
  obtain ⟨x, y, hx, hy, rfl⟩ := zipD_get _ _ _ _ hd
  obtain ⟨v, hv, rv⟩ := r.get hx
  obtain ⟨w, hw, rw'⟩ := r'.get hy
  refine ⟨⟨vs, ws, v, w, h1, h2, hv, hw⟩, fun u H' ⟨T, v', w', eu, hT, eH, k1, k2⟩ => ?_⟩
  have q1 := k1 vs h1
  have q2 := k2 ws h2
  rw [hv] at q1; rw [hw] at q2
  cases q1; cases q2
  subst eu; subst eH
  exact new_pair e2 hT (rv.mono e1 p) (rw'.mono e1 p)
theorem jk_zipS {K : PySem.W.Frag} {F : Hp} {ra : List Addr} {b : Addr} {z : Str} {ws : List V} {ys : List D} (h' : SqL K F b ws) (r' : RpL K F ra ws ys) : Jk K F ra (ItzS K z b) (zipD (chars z) ys) := fun i F1 H1 ra1 e1 e2 p => by
  have h2 : SqL K H1 b ws := (h' |> e1.sl) |> e2.sl
  have hc : (chars z).length = z.cps.size := by simp [chars]
  refine ⟨fun d hd => ?_, fun hl => ⟨ws, h2, by rw [zipD_len, hc] at hl; rw [r'.length]; omega⟩⟩
  obtain ⟨x, y, hx, hy, rfl⟩ := zipD_get _ _ _ _ hd
  obtain ⟨w, hw, rw'⟩ := r'.get hy
  unfold chars at hx
  rw [List.getElem?_map, Option.map_eq_some_iff] at hx
  obtain ⟨c, hc, rfl⟩ := hx
  have hc' : z.cps[i]? = some c := by simpa using hc
  refine ⟨⟨ws, c, w, h2, hc', hw⟩, fun u H' ⟨T, c', w', eu, hT, eH, k1, k2⟩ => ?_⟩
  have q2 := k2 ws h2
  rw [hc'] at k1; rw [hw] at q2
  cases k1; cases q2
  subst eu; subst eH
  exact new_pair e2 hT (.str _) (rw'.mono e1 p)
theorem si_zip {elts : List Expr} {kk : Nat} {tp : Pos} (ha : SE G N sc a fa) (hb : SE G N sc b fb) (hg : sc.names.lookup ("zip" : Str) = some .globalImplicit) (hm : G.mg "zip" = none) (hn : noStar a = true) (hn2 : noStar b = true) :
    SI G N sc (.Tuple elts kk tp) (.Call (.Name "zip" p) [a, b] [] pos) (fun ρ st => (fa ρ st).bind fun x st => (fb ρ st).bind fun y st => Mn.lift (zipQ x y) st) := fun X W ok tk => by
  have gl : Gl X "zip" := show X.env.scope.names.lookup ("zip" : Str) = some .globalImplicit by rw [ok.sc]; exact hg
  refine PI.imp (pi_zip3 gl (by rw [ok.mg]; exact hm) (pa_cons (ha X W ok tk) (pa_cons (hb X W ok tk) pa_nil (starEach_cons hn2)) (starEach_cons hn)) (starEach_cons hn) (plain_of (by simp [hn2]))) fun σ H R ⟨F, ra, fp, ρ, st, o, h⟩ => ?_
  refine ⟨F, ra, fp, ρ, st, o, h.bind o fun d1 st1 v1 F1 H1 ra1 fp1 e1 f1 p1 o1 r1 h1 => ⟨F1, ra1, fp1, ρ, st1, o1, h1.bind o1 fun d2 st2 v2 F2 H2 ra2 fp2 e2 f2 p2 o2 r2 h2 => ?_⟩⟩
  have r1 := r1.mono f2.ex p2
  rw [ok.K]
  cases e : zipQ d1 d2 with
  | none => rw [e] at h2; exact False.elim h2
  | some zs =>
    rw [e] at h2
    unfold zipQ at e
    split at e
    · obtain ⟨a, vs, rfl, q1, q2, k1⟩ := rpLs o2.ex r1
      obtain ⟨b, ws, rfl, q3, q4, k2⟩ := rpLs o2.ex r2
      cases e
      exact .inl ⟨a, b, vs, ws, rfl, .inl ⟨q1, q3, Aft.here h2 o2 (jk_zipL q2 q4 k1 k2)⟩⟩
    · obtain ⟨a, vs, rfl, q1, q2, k1⟩ := rpT o2.ex r1
      obtain ⟨b, ws, rfl, q3, q4, k2⟩ := rpT o2.ex r2
      cases e
      exact .inl ⟨a, b, vs, ws, rfl, .inr ⟨q1, q3, Aft.here h2 o2 (jk_zipT q2 q4 k1 k2)⟩⟩
    · rename_i z ys zs0
      cases rpS r1
      obtain ⟨b, ws, rfl, q3, q4, k2⟩ := rpLs o2.ex r2
      cases e
      exact .inr ⟨z, b, ws, rfl, q3, Aft.here h2 o2 (jk_zipS q4 k2)⟩
    · cases e
end
end Mn
end

section
set_option Elab.async false
set_option linter.all false
set_option maxRecDepth 100000
set_option maxHeartbeats 2000000
/-! MnI: stores into names; list comprehensions. -/
namespace Mn
open PySem PySem.Spec PyProof.Rows L2
section
variable {K : PySem.W.Frag} {F H F' H' : Hp} {ra fp : List Addr} {σ : L2.St} {ρ ρ' : Slots} {st : Store}
/-! ### the slots -/
theorem EnvOk.len {f : List Addr} (h : EnvOk K F ra H σ ρ f) : σ.length = ρ.length := by
  induction h with
  | nil => rfl
  | cons _ _ ih => simp [ih]
theorem EnvOk.split {f : List Addr} (h : EnvOk K F ra H σ ρ f) : ∀ {i : Nat}, i < ρ.length → ∃ f1 fi f2 o s, f = f1 ++ fi ++ f2 ∧ ρ[i]? = some s ∧ σ[i]? = some o ∧ SlOk K F ra H o s fi ∧ ∀ o' s' g, SlOk K F ra H o' s' g → EnvOk K F ra H (σ.set i o') (ρ.set i s') (f1 ++ g ++ f2) := by
  induction h with
  | nil => intro i hi; simp at hi
  | @cons o s σ ρ f g a b ih =>
    intro i hi
    cases i with
    | zero => exact ⟨[], f, g, o, s, by simp, rfl, rfl, a, fun o' s' g' q => .cons q b⟩
    | succ i =>
      obtain ⟨f1, fi, f2, o', s', e, h1, h2, h3, k⟩ := ih (i := i) (by simpa using hi)
      refine ⟨f ++ f1, fi, f2, o', s', by rw [e]; simp, by simpa using h1, by simpa using h2, h3, fun o' s' g' q => ?_⟩
      have := EnvOk.cons a (k o' s' g' q)
      simpa [List.append_assoc] using this
/-- a slot gets new contents -/
theorem EnvOk.set {f g : List Addr} {o : Option V} {s : Sl} {i : Nat} (h : EnvOk K F ra H σ ρ f) (hn : f.Nodup) (q : SlOk K F ra H o s g) (gn : g.Nodup) (gd : ∀ a ∈ g, a ∉ f) :
    ∃ f', EnvOk K F ra H (σ.set i o) (ρ.set i s) f' ∧ f'.Nodup ∧ ∀ a ∈ f', a ∈ f ∨ a ∈ g := by
  by_cases hi : i < ρ.length
  · obtain ⟨f1, fi, f2, o', s', e, _, _, _, k⟩ := h.split hi
    subst e
    refine ⟨f1 ++ g ++ f2, k o s g q, ?_, fun a ha => ?_⟩
    · simp only [List.nodup_append, List.mem_append] at hn gd ⊢
      obtain ⟨⟨n1, n2, n3⟩, n4, n5⟩ := hn
      refine ⟨⟨n1, gn, fun a ha b hb e => gd b hb (by subst e; simp [ha])⟩, n4, fun a ha b hb e => ?_⟩
      rcases ha with ha | ha
      · exact n5 a (.inl ha) b hb e
      · exact gd a ha (by subst e; simp [hb])
    · simp only [List.mem_append] at ha ⊢
      rcases ha with (ha | ha) | ha
      · exact .inl (.inl (.inl ha))
      · exact .inr ha
      · exact .inl (.inr ha)
  · refine ⟨f, ?_, hn, fun a ha => .inl ha⟩
    rw [List.set_eq_of_length_le (by rw [h.len]; omega), List.set_eq_of_length_le (by omega)]
    exact h
theorem Ok.setD {i : Nat} {v : V} {x : D} (h : Ok K F H ra fp σ ρ st) (r : Rp K F ra v x) : Ok K F H ra fp (σ.set i (some v)) (ρ.set i (.d x)) st := by
  obtain ⟨fe, h1, h2, h3⟩ := h.env
  obtain ⟨f', k1, k2, k3⟩ := h1.set (i := i) h2 (.d r) List.nodup_nil (by simp)
  exact ⟨h.s, f', k1, k2, fun a ha => (k3 a ha).elim (h3 a) (by simp)⟩
theorem Ok.unset {i : Nat} (h : Ok K F H ra fp σ ρ st) : Ok K F H ra fp (σ.set i none) (ρ.set i .un) st := by
  obtain ⟨fe, h1, h2, h3⟩ := h.env
  obtain ⟨f', k1, k2, k3⟩ := h1.set (i := i) h2 .un List.nodup_nil (by simp)
  exact ⟨h.s, f', k1, k2, fun a ha => (k3 a ha).elim (h3 a) (by simp)⟩
theorem Ok.wipe (h : Ok K F H ra fp σ ρ st) : ∀ vs : List Nat, Ok K F H ra fp (L2.wipe σ vs) (Mn.wipe ρ vs) st
  | [] => h
  | v :: vs => (h.wipe vs).unset
theorem wipe_set {i : Nat} {v : Option V} : ∀ {vs : List Nat} {σ : L2.St}, i ∈ vs → L2.wipe (σ.set i v) vs = L2.wipe σ vs
  | [], _, h => by cases h
  | w :: vs, σ, h => by
    show (L2.wipe (σ.set i v) vs).set w none = (L2.wipe σ vs).set w none
    by_cases hm : i ∈ vs
    · rw [wipe_set hm]
    · have e : i = w := by rcases List.mem_cons.mp h with q | q; exact q; exact absurd q hm
      subst e
      have : ∀ (us : List Nat) (τ : L2.St), i ∉ us → L2.wipe (τ.set i v) us = (L2.wipe τ us).set i v := by
        intro us
        induction us with
        | nil => intro τ _; rfl
        | cons u us ih =>
          intro τ hn
          simp only [List.mem_cons, not_or] at hn
          show (L2.wipe (τ.set i v) us).set u none = ((L2.wipe τ us).set u none).set i v
          rw [ih τ hn.2, List.set_comm _ _ (fun q => hn.1 q)]
      rw [this vs σ hm, List.set_set]
theorem wipe_wipe {vs : List Nat} {σ : L2.St} : L2.wipe (L2.wipe σ vs) vs = L2.wipe σ vs := by
  have : ∀ us : List Nat, (∀ u ∈ us, u ∈ vs) → L2.wipe (L2.wipe σ us) vs = L2.wipe σ vs := by
    intro us
    induction us with
    | nil => intro _; rfl
    | cons u us ih =>
      intro hm
      show L2.wipe ((L2.wipe σ us).set u none) vs = _
      rw [wipe_set (hm u List.mem_cons_self)]
      exact ih fun w hw => hm w (List.mem_cons_of_mem _ hw)
  exact this vs fun _ h => h
end

/-! ### targets -/
def gNames : List Nat → TGs
  | [] => gNil
  | i :: is => gCons (gName i) (gNames is)
/-- a target g stores as put does -/
def GPut (K : PySem.W.Frag) (g : TG) (tgs : List Nat) : Prop := ∀ {F H : Hp} {ra : List Addr} {σ : L2.St} {ρ ρ' : Slots} {v : V} {x : D} (Z : L2.St → Slots → Prop), Ex F H → (∀ σ ρ i v x, Z σ ρ → Rp K F ra v x → Z (σ.set i (some v)) (ρ.set i (.d x))) → Z σ ρ → Rp K F ra v x → put tgs x ρ = some ρ' →
  ∀ P : L2.St → Hp → Prop, (∀ σ', Z σ' ρ' → (∀ vs, (∀ t ∈ tgs, t ∈ vs) → L2.wipe σ' vs = L2.wipe σ vs) → P σ' H) → g v σ H P
theorem gput_name {K : PySem.W.Frag} {i : Nat} : GPut K (gName i) [i] := fun {F H ra σ ρ ρ' v x} Z e0 z o r e P k => by
  cases e
  exact k _ (z _ _ _ _ _ o r) fun vs hv => wipe_set (hv i List.mem_cons_self)
theorem gput_all {K : PySem.W.Frag} {F H : Hp} {ra : List Addr} {Z : L2.St → Slots → Prop} (z : ∀ σ ρ i v x, Z σ ρ → Rp K F ra v x → Z (σ.set i (some v)) (ρ.set i (.d x))) : ∀ {tgs : List Nat} {σ : L2.St} {ρ ρ' : Slots} {vs : List V} {xs : List D}, Z σ ρ → RpL K F ra vs xs → putAll tgs xs ρ = some ρ' →
    ∀ P : L2.St → Hp → Prop, (∀ σ', Z σ' ρ' → (∀ us, (∀ t ∈ tgs, t ∈ us) → L2.wipe σ' us = L2.wipe σ us) → P σ' H) → gNames tgs vs σ H P
  | [], σ, ρ, ρ', vs, xs, o, r, e, P, k => by
    cases r with
    | nil =>
      unfold putAll at e
      cases e
      exact ⟨rfl, k σ o fun _ _ => rfl⟩
    | cons _ _ => cases e
  | i :: is, σ, ρ, ρ', vs, xs, o, r, e, P, k => by
    cases r with
    | nil => cases e
    | cons p r =>
      refine ⟨_, _, rfl, gput_all z (tgs := is) (z _ _ i _ _ o p) r (by simpa [putAll] using e) _ fun σ' o' w => k σ' o' fun us hu => ?_⟩
      rw [w us fun t ht => hu t (List.mem_cons_of_mem _ ht)]
      exact wipe_set (hu i List.mem_cons_self)
theorem putAll_len {tgs : List Nat} {xs : List D} {ρ ρ' : Slots} (h : putAll tgs xs ρ = some ρ') : xs.length = tgs.length := by
  induction tgs generalizing xs ρ with
  | nil => cases xs with
    | nil => rfl
    | cons _ _ => cases h
  | cons t tgs ih => cases xs with
    | nil => cases h
    | cons x xs => simp only [putAll] at h; simp [ih h]
theorem gput_tup {K : PySem.W.Frag} {i j : Nat} {is : List Nat} : GPut K (gTup K (i :: j :: is).length (gNames (i :: j :: is))) (i :: j :: is) := fun {F H ra σ ρ ρ' v x} Z e0 z o r e P k => by
  unfold put at e
  split at e
  · rename_i q; cases q
  · split at e
    · obtain ⟨a, vs, rfl, h1, h2, k1⟩ := rpT e0 r
      exact ⟨a, vs, rfl, h1, by rw [k1.length, putAll_len e], gput_all z o k1 e P k⟩
    · cases e

/-! ### the objects, beside an object of no one -/
theorem OkS.tracked {K : PySem.W.Frag} {F H : Hp} {ra fp : List Addr} {st : Store} (h : OkS K F H ra fp st) : ∀ a ∈ fp, ∃ o, H a = some o := by
  cases h.sto
  simp
theorem OkS.updOff {K : PySem.W.Frag} {F H : Hp} {ra fp : List Addr} {st : Store} {a : Addr} {o : HO} (h : OkS K F H ra fp st) (hF : F a = none) (hf : a ∉ fp) : OkS K F (L2.upd H a o) ra fp st := by
  refine ⟨fun b u e => ?_, ?_, h.nd⟩
  · have : b ≠ a := fun q => by subst q; rw [hF] at e; cases e
    rw [upd_ne this]
    exact h.ex b u e
  · cases h.sto
    exact .nil
theorem OkS.frz {K : PySem.W.Frag} {F H : Hp} {ra fp : List Addr} {st : Store} {a : Addr} {o : HO} (h : OkS K F H ra fp st) (hH : H a = some o) (hF : F a = none) (hf : a ∉ fp) : OkS K (L2.upd F a o) H ra fp st := by
  refine ⟨fun b u e => ?_, ?_, h.nd⟩
  · by_cases q : b = a
    · subst q; rw [upd_same] at e; rw [hH]; exact e
    · rw [upd_ne q] at e; exact h.ex b u e
  · cases h.sto
    exact .nil
/-- an object that was not there at the start changes -/
theorem Fr.upd {F H F1 H1 : Hp} {fp fp1 : List Addr} {a : Addr} {o : HO} (h : Fr F H fp F1 H1 fp1) (ha : H a = none) : Fr F H fp F1 (upd H1 a o) fp1 := by
  refine ⟨h.ex, fun b u e n => ?_, h.same, h.own, fun b u e => ?_⟩
  · rw [upd_ne (ne_of_none e ha)]; exact h.keep b u e n
  · rw [upd_ne (ne_of_none e ha)]; exact h.there b u e
theorem Fr.frz {F H F1 H1 : Hp} {fp fp1 : List Addr} {a : Addr} {o : HO} (h : Fr F H fp F1 H1 fp1) (ha : H a = none) (h1 : F1 a = none) : Fr F H fp (L2.upd F1 a o) H1 fp1 :=
  ⟨h.ex.trans (Ex.new h1), h.keep, fun b u e n => by rw [upd_ne (ne_of_none e ha)]; exact h.same b u e n, h.own, h.there⟩

/-! ### tests of a comprehension -/
def STs (G : Gm) (N : List Str) (sc : Scope) (ifs : List Expr) (f : Slots → Store → Res D) : Prop := ∀ (X : Cx) (W : WX), XOk G N sc X → Takes X W → PTs X ifs (tDT G.K W f)
theorem PTs.imp {X : Cx} {e : List Expr} {t t' : TT} (h : PTs X e t) (k : ∀ σ H Q, t' σ H Q → t σ H Q) : PTs X e t' := ⟨fun pins s σ H Q I q => h.run pins s σ H Q I (k σ H Q q)⟩
section
variable {G : Gm} {N : List Str} {sc scope : Scope} {tg it el c : Expr} {ifs : List Expr} {fi : Slots → Store → Res (List D)} {fc fe : Slots → Store → Res D} {pos p : Pos}
theorem sts_nil : STs G N sc [] (fun _ st => .ok (.bl true) st) := fun X W ok tk =>
  PTs.imp pts_nil fun σ H Q ⟨F, ra, fp, ρ, st, o, h⟩ => h true F H ra fp (Fr.refl _ _ _) (Pre.refl _) o.s rfl
theorem sts_one (hc : ST G N sc c fc) : STs G N sc [c] fc := fun X W ok tk => pts_one (hc X W ok tk)
theorem XOk.blk {X : Cx} (ok : XOk G N sc X) (s : Shared) (H : Hp) (C : Addr) (cl : List (Str × Addr)) (fp : List Addr) : XOk G N (relS scope sc) (X.blk s H scope (compEnvC scope cl C X.env) fp) :=
  ⟨ok.prog, ok.w, ok.K, ok.mg, ok.base, ok.names, ok.nd, by rw [← ok.sc]; rfl, ok.calm, ok.room⟩
/-- a target in every block -/
def SG (G : Gm) (N : List Str) (sc scope : Scope) (tg : Expr) (g : TG) : Prop := ∀ (X : Cx), XOk G N sc X → ∀ (s : Shared) (H : Hp) (C : Addr) (cl : List (Str × Addr)) (fp : List Addr), PG (X.blk s H scope (compEnvC scope cl C X.env) fp) tg g
/-- one turn -/
def lcStep (fc fe : Slots → Store → Res D) (tgs own : List Nat) (ρ : Slots) (x : D) (st : Store) : Res (Option D) := match put tgs x (wipe ρ own) with
  | some ρ' => (noex (asB (fc ρ' st))).bind fun t st => match t with
    | true => (noex (fe ρ' st)).bind fun y st => .ok (some y) st
    | false => .ok none st
  | none => .bad
/-- a new list, known to no one else -/
def AftF (K : PySem.W.Frag) (W : WX) (F H : Hp) (ra fp : List Addr) (σ : L2.St) (r : Res (List D)) (Q : VK) : Prop := match r with
  | .ok xs st => ∀ p vs F' H' ra' fp', Fr F H fp F' H' fp' → Pre ra ra' → OkS K F' H' ra' fp' st → H p = none → H' p = some (.lst vs) → F' p = none → p ∉ fp' → RpL K F' ra' vs xs → Q (.ref p) H'
  | .ex x st => ∀ F' H' ra' fp' c dx, Fr F H fp F' H' fp' → Pre ra ra' → OkS K F' H' ra' fp' st → ExOk K F' ra' H' x c dx → W c dx σ H'
  | .bad => False
theorem AftF.trans {K : PySem.W.Frag} {W : WX} {F H F' H' : Hp} {ra fp ra' fp' : List Addr} {σ : L2.St} {r : Res (List D)} {Q : VK} (f : Fr F H fp F' H' fp') (p : Pre ra ra') (h : AftF K W F H ra fp σ r Q) : AftF K W F' H' ra' fp' σ r Q := by
  cases r with
  | ok d st =>
    intro q vs F2 H2 ra2 fp2 f2 p2 o hp
    refine h q vs F2 H2 ra2 fp2 (f.trans f2) (p.trans p2) o ?_
    cases e : H q with
    | none => rfl
    | some u => obtain ⟨o', e'⟩ := f.there q u e; rw [hp] at e'; cases e'
  | ex x st => exact fun F2 H2 ra2 fp2 c dx f2 p2 o rl => h F2 H2 ra2 fp2 c dx (f.trans f2) (p.trans p2) o rl
  | bad => exact h
theorem AftF.bind {K : PySem.W.Frag} {W : WX} {F H : Hp} {ra fp : List Addr} {σ : L2.St} {ρ : Slots} {st : Store} {γ δ : Type} {Rel' : Hp → List Addr → δ → γ → Prop} {r : Res γ} {g : γ → Store → Res (List D)} {Q : VK} {Q' : δ → Hp → Prop} (h : AftF K W F H ra fp σ (r.bind g) Q) (o : Ok K F H ra fp σ ρ st)
    (k : ∀ d st v F1 H1 ra1 fp1, r = .ok d st → Fr F H fp F1 H1 fp1 → Pre ra ra1 → Ok K F1 H1 ra1 fp1 σ ρ st → Rel' F1 ra1 v d → AftF K W F1 H1 ra1 fp1 σ (g d st) Q → Q' v H1) :
    Aft K W Rel' F H ra fp σ r Q' := by
  cases r with
  | ok d st => exact fun v F2 H2 ra2 fp2 f2 p2 s rl => k d st v F2 H2 ra2 fp2 rfl f2 p2 (o.fr f2 p2 s) rl (AftF.trans f2 p2 h)
  | ex x st => exact h
  | bad => exact h
def tF (K : PySem.W.Frag) (W : WX) (f : Slots → Store → Res (List D)) : TE := fun σ H Q => ∃ F ra fp ρ st, Ok K F H ra fp σ ρ st ∧ AftF K W F H ra fp σ (f ρ st) Q
def SF (G : Gm) (N : List Str) (sc : Scope) (e : Expr) (f : Slots → Store → Res (List D)) : Prop := ∀ (X : Cx) (W : WX), XOk G N sc X → Takes X W → PE X e (tF G.K W f)
/-- a new list, let be -/
theorem SF.se {e : Expr} {f : Slots → Store → Res (List D)} (h : SF G N sc e f) : SE G N sc e (fun ρ st => (f ρ st).bind fun xs st => .ok (.lst xs) st) := fun X W ok tk => by
  refine PE.imp (h X W ok tk) fun σ H Q ⟨F, ra, fp, ρ, st, o, h⟩ => ⟨F, ra, fp, ρ, st, o, ?_⟩
  have h : Aft G.K W (Rp G.K) F H ra fp σ ((f ρ st).bind fun xs st => .ok (.lst xs) st) Q := h
  generalize f ρ st = r at h ⊢
  cases r with
  | ok xs st' =>
    intro p vs F' H' ra' fp' fr pr s hp hp' hF hf r
    exact h (.ref p) (L2.upd F' p (.lst vs)) H' ra' fp' (fr.frz hp hF) pr (s.frz hp' hF hf) (.lst (SqL.of upd_same) (r.mono (Ex.new hF) (Pre.refl _)))
  | ex x st' => exact h
  | bad => exact h
theorem noex_ok {α : Type} {r : Res α} {K : PySem.W.Frag} {W : WX} {F H : Hp} {ra fp : List Addr} {σ : L2.St} {g : α → Store → Res (List D)} {Q : VK} (h : AftF K W F H ra fp σ ((noex r).bind g) Q) : ∃ a st, r = .ok a st := by
  cases r with
  | ok a st => exact ⟨a, st, rfl⟩
  | ex x st => exact False.elim h
  | bad => exact False.elim h
theorem lc_read {g : TG} {tgs : List Nat} {own : List (Str × Nat)} (gp : GPut G.K g tgs) (hto : ∀ t ∈ tgs, t ∈ own.map (·.2)) {W : WX} :
    ∀ σ H Q, tF G.K W (fun ρ st => (fi ρ st).bind fun xs st => lcGo (lcStep fc fe tgs (own.map (·.2)) ρ) xs [] st) σ H Q → tLc (tI G.K W fi) g (tDT G.K (fun _ _ _ _ => False) fc) (tD G.K (fun _ _ _ _ => False) fe) (own.map (·.2)) σ H Q := fun σ H Q ⟨F, ra, fp, ρ, st, o, h⟩ => by
  refine ⟨F, ra, fp, ρ, st, o, h.bind o fun xs st1 J F1 H1 ra1 fp1 e1 f1 p1 o1 rl h1 => ?_⟩
  intro Dl hD
  have hDfp : Dl ∉ fp1 := fun q => by obtain ⟨u, hu⟩ := o1.s.tracked _ q; rw [hD] at hu; cases hu
  have hFD : F1 Dl = none := by
    cases q : F1 Dl with
    | none => rfl
    | some u => rw [o1.ex _ _ q] at hD; cases hD
  let vs := own.map (·.2)
  let stp := lcStep fc fe tgs vs ρ
  let B : Res (List D) → Prop := fun r => AftF G.K W F1 H1 ra1 fp1 σ r Q
  let I : Nat → Nat → Hp → Prop := fun i m H => m = xs.length - i ∧ i ≤ xs.length ∧ ∃ F2 ra2 fp2 st2 av ad, OkS G.K F2 H ra2 fp2 st2 ∧ Fr F1 H1 fp1 F2 H fp2 ∧ Pre ra1 ra2 ∧ H Dl = some (.lst av) ∧ F2 Dl = none ∧ Dl ∉ fp2 ∧ RpL G.K F2 ra2 av ad ∧
    B (lcGo stp (xs.drop i) ad st2)
  refine ⟨I, ⟨xs.length, by simp, Nat.zero_le _, F1, ra1, fp1, st1, [], [], o1.s.updOff hFD hDfp, (Fr.refl F1 H1 fp1).upd hD, Pre.refl _, upd_same, hFD, hDfp, .nil, h1⟩, ?_⟩
  rintro i m H2 ⟨rfl, hi, F2, ra2, fp2, st2, av, ad, s2, f2, p2, hD2, hF2, hf2, ra', hB⟩
  have jk := rl i F2 H2 ra2 f2.ex s2.ex p2
  by_cases hlt : i < xs.length
  · have hx : xs[i]? = some xs[i] := by simp [hlt]
    have hdr : xs.drop i = xs[i] :: xs.drop (i + 1) := List.drop_eq_getElem_cons hlt
    rw [hdr] at hB
    obtain ⟨jgo, jy⟩ := jk.1 _ hx
    refine .inr ⟨jgo, fun H' => I (i + 1) (xs.length - (i + 1)) H', fun H' h' => ⟨_, by omega, h'⟩, fun v H3 y => ?_⟩
    obtain ⟨F3, gr, rv⟩ := jy v H3 y
    have o2 : Ok G.K F2 H2 ra2 fp2 σ ρ st2 := o1.fr f2 p2 s2
    have o3 := (o2.grow gr).wipe vs
    have hD3 : H3 Dl = some (.lst av) := gr.eh _ _ hD2
    have hF3 : F3 Dl = none := by rw [gr.same _ _ hD2]; exact hF2
    have f3 : Fr F1 H1 fp1 F3 H3 fp2 := f2.trans (gr.fr fp2)
    have ra3 := ra'.mono gr.ef (Pre.refl ra2)
    -- the step
    have hstep : ∃ ρ', put tgs xs[i] (Mn.wipe ρ vs) = some ρ' ∧ B (((noex (asB (fc ρ' st2))).bind fun t st => match t with
        | true => (noex (fe ρ' st)).bind fun y st => if ad.length < LIM then (lcGo stp (xs.drop (i + 1)) (ad ++ [y]) st) else .bad
        | false => (lcGo stp (xs.drop (i + 1)) ad st))) := by
      show ∃ ρ', _
      unfold lcGo at hB
      cases hp : put tgs xs[i] (Mn.wipe ρ vs) with
      | none =>
        have : stp xs[i] st2 = .bad := by show lcStep fc fe tgs vs ρ xs[i] st2 = _; unfold lcStep; rw [hp]
        rw [this] at hB
        exact False.elim hB
      | some ρ' =>
        refine ⟨ρ', rfl, ?_⟩
        have : stp xs[i] st2 = ((noex (asB (fc ρ' st2))).bind fun t st => match t with
          | true => (noex (fe ρ' st)).bind fun y st => .ok (some y) st
          | false => .ok none st) := by show lcStep fc fe tgs vs ρ xs[i] st2 = _; unfold lcStep; rw [hp]
        rw [this] at hB
        generalize noex (asB (fc ρ' st2)) = r at hB ⊢
        cases r with
        | ok t st3 =>
          cases t with
          | true =>
            simp only [bind_ok] at hB ⊢
            generalize noex (fe ρ' st3) = r' at hB ⊢
            cases r' with
            | ok y st4 =>
              simp only [bind_ok] at hB ⊢
              split at hB
              · rename_i hl; rw [if_pos hl]; exact hB
              · exact False.elim hB
            | ex _ _ => exact hB
            | bad => exact hB
          | false => exact hB
        | ex _ _ => exact hB
        | bad => exact hB
    obtain ⟨ρ', hput, hB⟩ := hstep
    refine gp (fun σ ρ => Ok G.K F3 H3 ra2 fp2 σ ρ st2) gr.ex (fun _ _ _ _ _ z r => z.setD r) o3 rv hput _ fun σ2 o4 wv => ⟨by rw [wv _ hto, wipe_wipe], ?_⟩
    obtain ⟨t, st3, et⟩ := noex_ok hB
    refine ⟨F3, ra2, fp2, ρ', st2, o4, ?_⟩
    rw [et] at hB ⊢
    rintro b F4 H4 ra4 fp4 f4 p4 s4 rfl
    have hD4 : H4 Dl = some (.lst av) := f4.keep _ _ hD3 hf2
    have hF4 : F4 Dl = none := by rw [f4.same _ _ hD3 hf2]; exact hF3
    have hf4 : Dl ∉ fp4 := fun q => (f4.own _ q).elim hf2 fun z => by rw [hD3] at z; cases z
    cases b with
    | true =>
      rw [if_pos rfl]
      have hB : B ((noex (fe ρ' st3)).bind fun y st => if ad.length < LIM then (lcGo stp (xs.drop (i + 1)) (ad ++ [y]) st) else .bad) := hB
      obtain ⟨y, st4, ey⟩ := noex_ok hB
      refine ⟨F4, ra4, fp4, ρ', st3, o4.fr f4 p4 s4, ?_⟩
      rw [ey] at hB ⊢
      intro w F5 H5 ra5 fp5 f5 p5 s5 rw5
      have hD5 : H5 Dl = some (.lst av) := f5.keep _ _ hD4 hf4
      have hF5 : F5 Dl = none := by rw [f5.same _ _ hD4 hf4]; exact hF4
      have hf5 : Dl ∉ fp5 := fun q => (f5.own _ q).elim hf4 fun z => by rw [hD4] at z; cases z
      have hB : B (if ad.length < LIM then (lcGo stp (xs.drop (i + 1)) (ad ++ [y]) st4) else .bad) := hB
      by_cases hl : ad.length < LIM
      · rw [if_pos hl] at hB
        exact ⟨av, hD5, limlt (by rw [ra'.length]; exact hl), rfl, by omega, F5, ra5, fp5, st4, av ++ [w], ad ++ [y], s5.updOff hF5 hf5, ((f3.trans f4).trans f5).upd hD, (p2.trans p4).trans p5, upd_same, hF5, hf5,
          ((ra3.mono f4.ex p4).mono f5.ex p5).append (.cons rw5 .nil), hB⟩
      · rw [if_neg hl] at hB; exact False.elim hB
    | false =>
      rw [if_neg Bool.false_ne_true]
      exact ⟨rfl, by omega, F4, ra4, fp4, st3, av, ad, s4, f3.trans f4, p2.trans p4, hD4, hF4, hf4, ra3.mono f4.ex p4, hB⟩
  · have e : i = xs.length := by omega
    subst e
    refine .inl ⟨jk.2 (Nat.le_refl _), ?_⟩
    rw [List.drop_length] at hB
    exact hB Dl av F2 H2 ra2 fp2 f2 p2 s2 hD hD2 hF2 hf2 ra'
theorem sf_lc {g : TG} {tgs : List Nat} {own : List (Str × Nat)} (hi : SI G N sc tg it fi) (hg : SG G N sc scope tg g) (gp : GPut G.K g tgs) (hto : ∀ t ∈ tgs, t ∈ own.map (·.2)) (hc : STs G N (relS scope sc) ifs fc) (he : SE G N (relS scope sc) el fe)
    (hok : blkC N sc scope own = true) (hs : ∀ env x, foldedSetIterable it env x = pure x) :
    SF G N sc (.ListComp el [⟨tg, it, ifs, 0⟩] scope pos) (fun ρ st => (fi ρ st).bind fun xs st => lcGo (lcStep fc fe tgs (own.map (·.2)) ρ) xs [] st) := fun X W ok tk => by
  have hN : X.N.Nodup := by rw [ok.names]; exact ok.nd
  have hb : BlkOk X.N X.env.scope scope own := by rw [ok.names, ok.sc]; exact blkOk_by hok
  exact PE.imp (pe_lc (own := own) ok.calm hN (hi X W ok tk) hb (fun s H C cl fp => hg X ok s H C cl fp) (fun s H C cl fp => hc _ (fun _ _ _ _ => False) (ok.blk s H C cl fp) takes0) (fun s H C cl fp => he _ (fun _ _ _ _ => False) (ok.blk s H C cl fp) takes0) (fun x => hs _ x)) (lc_read gp hto)
/-- name = [..] on one line, the list new -/
theorem ps_lcS {g : TG} {tgs : List Nat} {own : List (Str × Nat)} {y : Str} {i : Nat} {py spos : Pos} (hi : SI G N sc tg it fi) (hg : SG G N sc scope tg g) (gp : GPut G.K g tgs) (hto : ∀ t ∈ tgs, t ∈ own.map (·.2)) (hc : STs G N (relS scope sc) ifs fc) (he : SE G N (relS scope sc) el fe)
    (hok : blkC N sc scope own = true) (hs : ∀ env x, foldedSetIterable it env x = pure x) (hy : N[i]? = some y) (hl : sc.names.lookup y = some .local) {X : Cx} {W : WX} (ok : XOk G N sc X) (tk : Takes X W) (hsw : swapsWith (.ListComp el [⟨tg, it, ifs, 0⟩] scope pos) (some (.Name y py)) spos.line X.env = pure true) :
    PS X (.Assign [.Name y py] (.ListComp el [⟨tg, it, ifs, 0⟩] scope pos) spos) (tAsg (tF G.K W (fun ρ st => (fi ρ st).bind fun xs st => lcGo (lcStep fc fe tgs (own.map (·.2)) ρ) xs [] st)) (gName i)) := by
  have hN : X.N.Nodup := by rw [ok.names]; exact ok.nd
  have hb : BlkOk X.N X.env.scope scope own := by rw [ok.names, ok.sc]; exact blkOk_by hok
  refine ⟨fun pins s σ H D I q => ?_⟩
  exact (ps_setLc (own := own) ok.calm hN (by rw [ok.names]; exact hy) (by rw [ok.sc]; exact hl) hsw (hi X W ok tk) hb (fun s H C cl fp => hg X ok s H C cl fp) (fun s H C cl fp => hc _ (fun _ _ _ _ => False) (ok.blk s H C cl fp) takes0) (fun s H C cl fp => he _ (fun _ _ _ _ => False) (ok.blk s H C cl fp) takes0) (fun x => hs _ x)).run pins s σ H D I (lc_read gp hto σ H _ q)
end
end Mn
end

section
set_option Elab.async false
set_option linter.all false
set_option maxRecDepth 100000
set_option maxHeartbeats 2000000
/-! MnJ: statements. -/
namespace Mn
open PySem PySem.Spec PyProof.Rows L2
/-- where a def began, and what is known of F since a loop began -/
structure Bs where
  F0 : Hp
  H0 : Hp
  ra0 : List Addr
  fp0 : List Addr
  Fl : Hp
  ral : List Addr
structure SOk (K : PySem.W.Frag) (b : Bs) (F H : Hp) (ra fp : List Addr) (σ : L2.St) (ρ : Slots) (st : Store) : Prop where
  s : OkS K F H ra fp st
  env : ∃ fe, EnvOk K F ra H σ ρ fe ∧ fe.Nodup ∧ (∀ a ∈ fe, a ∉ fp) ∧ ∀ a ∈ fe, b.H0 a = none
  fr : Fr b.F0 b.H0 b.fp0 F H fp
  pre : Pre b.ra0 ra
  low : Ex b.Fl F
  lowr : Pre b.ral ra
section
variable {K : PySem.W.Frag} {W : WX} {b : Bs} {F H F' H' : Hp} {ra fp ra' fp' : List Addr} {σ σ' : L2.St} {ρ ρ' : Slots} {st st' : Store} {D D' : Ends}
theorem SOk.ok (o : SOk K b F H ra fp σ ρ st) : Ok K F H ra fp σ ρ st := by
  obtain ⟨fe, h1, h2, h3, _⟩ := o.env
  exact ⟨o.s, fe, h1, h2, h3⟩
theorem SOk.step (o : SOk K b F H ra fp σ ρ st) (f : Fr F H fp F' H' fp') (p : Pre ra ra') (s : OkS K F' H' ra' fp' st') : SOk K b F' H' ra' fp' σ ρ st' := by
  obtain ⟨fe, h1, h2, h3, h4⟩ := o.env
  refine ⟨s, ⟨fe, h1.fr f p h3, h2, fun a ha hb => ?_, h4⟩, o.fr.trans f, o.pre.trans p, o.low.trans f.ex, o.lowr.trans p⟩
  rcases f.own a hb with q | q
  · exact h3 a ha q
  · obtain ⟨⟨u, hu⟩, _⟩ := h1.tracked a ha
    rw [hu] at q; cases q
theorem SOk.grow (o : SOk K b F H ra fp σ ρ st) (g : Grow F H F' H') : SOk K b F' H' ra fp σ ρ st := o.step (g.fr fp) (Pre.refl _) (o.s.grow g)
theorem SOk.setD {i : Nat} {v : V} {x : Mn.D} (o : SOk K b F H ra fp σ ρ st) (r : Rp K F ra v x) : SOk K b F H ra fp (σ.set i (some v)) (ρ.set i (.d x)) st := by
  obtain ⟨fe, h1, h2, h3, h4⟩ := o.env
  obtain ⟨f', k1, k2, k3⟩ := h1.set (i := i) h2 (.d r) List.nodup_nil (by simp)
  exact ⟨o.s, ⟨f', k1, k2, fun a ha => (k3 a ha).elim (h3 a) (by simp), fun a ha => (k3 a ha).elim (h4 a) (by simp)⟩, o.fr, o.pre, o.low, o.lowr⟩
/-- one more thing is known of F -/
def Bs.at (b : Bs) (F : Hp) (ra : List Addr) : Bs := { b with Fl := F, ral := ra }
theorem SOk.at (o : SOk K b F H ra fp σ ρ st) {F1 : Hp} {ra1 : List Addr} (e : Ex F1 F) (p : Pre ra1 ra) : SOk K (b.at F1 ra1) F H ra fp σ ρ st := ⟨o.s, o.env, o.fr, o.pre, e, p⟩
theorem SOk.back {F1 : Hp} {ra1 : List Addr} (o : SOk K (b.at F1 ra1) F H ra fp σ ρ st) (e : Ex b.Fl F1) (p : Pre b.ral ra1) : SOk K b F H ra fp σ ρ st := ⟨o.s, o.env, o.fr, o.pre, e.trans o.low, p.trans o.lowr⟩

/-- what is wanted behind a statement that does this -/
def OAft (K : PySem.W.Frag) (W : WX) (b : Bs) (o : Out) (D : Ends) : Prop := match o with
  | .nx ρ st => ∀ σ F H ra fp, SOk K b F H ra fp σ ρ st → D.nx σ H
  | .bk ρ st => ∀ σ F H ra fp, SOk K b F H ra fp σ ρ st → D.bk σ H
  | .ct ρ st => ∀ σ F H ra fp, SOk K b F H ra fp σ ρ st → D.ct σ H
  | .rt d st => ∀ v F H ra fp, OkS K F H ra fp st → Fr b.F0 b.H0 b.fp0 F H fp → Pre b.ra0 ra → Rp K F ra v d → D.rt v H
  | .ex x ρ st => ∀ σ F H ra fp c dx, SOk K b F H ra fp σ ρ st → ExOk K F ra H x c dx → W c dx σ H
  | .bad => False
theorem OAft.out {α β : Type} {Rel : Hp → List Addr → β → α → Prop} {r : Res α} {g : α → Store → Out} {Q : β → Hp → Prop} (h : OAft K W b (r.out ρ g) D) (o : SOk K b F H ra fp σ ρ st)
    (k : ∀ d st v F1 H1 ra1 fp1, r = .ok d st → SOk K b F1 H1 ra1 fp1 σ ρ st → Ex F F1 → Pre ra ra1 → Rel F1 ra1 v d → OAft K W b (g d st) D → Q v H1) : Aft K W Rel F H ra fp σ r Q := by
  cases r with
  | ok d st1 => exact fun v F1 H1 ra1 fp1 f p s rl => k d st1 v F1 H1 ra1 fp1 rfl (o.step f p s) f.ex p rl h
  | ex x st1 => exact fun F1 H1 ra1 fp1 c dx f p s e => h σ F1 H1 ra1 fp1 c dx (o.step f p s) e
  | bad => exact h
/-- a weaker wish, from a place further on -/
theorem OAft.back {F1 : Hp} {ra1 : List Addr} {o : Out} (h : OAft K W b o D) (e : Ex b.Fl F1) (p : Pre b.ral ra1) (hn : ∀ ρ st, o = .nx ρ st → ∀ σ F H ra fp, SOk K (b.at F1 ra1) F H ra fp σ ρ st → D'.nx σ H)
    (hb : ∀ ρ st, o = .bk ρ st → ∀ σ F H ra fp, SOk K (b.at F1 ra1) F H ra fp σ ρ st → D'.bk σ H) (hc : ∀ ρ st, o = .ct ρ st → ∀ σ F H ra fp, SOk K (b.at F1 ra1) F H ra fp σ ρ st → D'.ct σ H) (hr : D'.rt = D.rt) : OAft K W (b.at F1 ra1) o D' := by
  cases o with
  | nx ρ st => exact fun σ F H ra fp s => hn ρ st rfl σ F H ra fp s
  | bk ρ st => exact fun σ F H ra fp s => hb ρ st rfl σ F H ra fp s
  | ct ρ st => exact fun σ F H ra fp s => hc ρ st rfl σ F H ra fp s
  | rt d st => intro v F H ra fp s f p r; rw [hr]; exact h v F H ra fp s f p r
  | ex x ρ st => exact fun σ F H ra fp c dx s x => h σ F H ra fp c dx (s.back e p) x
  | bad => exact h
end
def tS (K : PySem.W.Frag) (W : WX) (f : Slots → Store → Out) : TS := fun D σ H => ∃ b F ra fp ρ st, SOk K b F H ra fp σ ρ st ∧ OAft K W b (f ρ st) D
structure XF (G : Gm) (N : List Str) (sc : Scope) (X : Cx) : Prop where
  ok : XOk G N sc X
  fn : ∀ x, X.fn x = true
  po : PassesOwn (model X.prog X.w) X.A X.env X.xe
def SS (G : Gm) (N : List Str) (sc : Scope) (s : Stmt) (f : Slots → Store → Out) : Prop := ∀ (X : Cx) (W : WX), XF G N sc X → Takes X W → PS X s (tS G.K W f)
def SSs (G : Gm) (N : List Str) (sc : Scope) (s : List Stmt) (f : Slots → Store → Out) : Prop := ∀ (X : Cx) (W : WX), XF G N sc X → Takes X W → PSs X s (tS G.K W f)
theorem PS.imp {X : Cx} {e : Stmt} {t t' : TS} (h : PS X e t) (k : ∀ D σ H, t' D σ H → t D σ H) : PS X e t' := ⟨fun pins s σ H D I q => h.run pins s σ H D I (k D σ H q)⟩
theorem PSs.imp {X : Cx} {e : List Stmt} {t t' : TS} (h : PSs X e t) (k : ∀ D σ H, t' D σ H → t D σ H) : PSs X e t' := ⟨fun pins s σ H D I q => h.run pins s σ H D I (k D σ H q)⟩
/-- a target, in the def itself -/
def SGs (G : Gm) (N : List Str) (sc : Scope) (tg : Expr) (g : TG) : Prop := ∀ (X : Cx), XF G N sc X → PG X tg g
section
variable {G : Gm} {N : List Str} {sc : Scope} {tg it e c : Expr} {s : Stmt} {ss s2 : List Stmt} {fi : Slots → Store → Res (List Mn.D)} {fc fe : Slots → Store → Res Mn.D} {fx fy fz : Slots → Store → Out} {pos p p2 : Pos} {x : Str} {i : Nat}
theorem sss_nil : SSs G N sc [] (fun ρ st => .nx ρ st) := fun X W ok tk => PSs.imp pss_nil fun D σ H ⟨b, F, ra, fp, ρ, st, o, h⟩ => h _ _ _ _ _ o
theorem sss_cons (h1 : SS G N sc s fx) (h2 : SSs G N sc ss fy) : SSs G N sc (s :: ss) (fun ρ st => (fx ρ st).seq fun ρ st => fy ρ st) := fun X W ok tk => by
  refine PSs.imp (pss_cons (h1 X W ok tk) (h2 X W ok tk)) fun D σ H ⟨b, F, ra, fp, ρ, st, o, h⟩ => ⟨b, F, ra, fp, ρ, st, o, ?_⟩
  have h : OAft G.K W b ((fx ρ st).seq fun ρ st => fy ρ st) D := h
  generalize fx ρ st = r at h ⊢
  cases r with
  | nx ρ1 st1 => exact fun σ1 F1 H1 ra1 fp1 o1 => ⟨b, F1, ra1, fp1, ρ1, st1, o1, h⟩
  | bk ρ1 st1 => exact h
  | ct ρ1 st1 => exact h
  | rt d st1 => exact h
  | ex x ρ1 st1 => exact h
  | bad => exact h
theorem ss_pass : SS G N sc (.Pass pos) (fun ρ st => .nx ρ st) := fun X W ok tk => PS.imp ps_pass fun D σ H ⟨b, F, ra, fp, ρ, st, o, h⟩ => h _ _ _ _ _ o
theorem ss_brk : SS G N sc (.Break pos) (fun ρ st => .bk ρ st) := fun X W ok tk => PS.imp ps_break fun D σ H ⟨b, F, ra, fp, ρ, st, o, h⟩ => h _ _ _ _ _ o
theorem ss_cont : SS G N sc (.Continue pos) (fun ρ st => .ct ρ st) := fun X W ok tk => PS.imp ps_continue fun D σ H ⟨b, F, ra, fp, ρ, st, o, h⟩ => h _ _ _ _ _ o
theorem ss_ret (he : SE G N sc e fe) : SS G N sc (.Return (some e) pos) (fun ρ st => (fe ρ st).out ρ fun d st => .rt d st) := fun X W ok tk => by
  refine PS.imp (ps_ret (he X W ok.ok tk)) fun D σ H ⟨b, F, ra, fp, ρ, st, o, h⟩ => ⟨F, ra, fp, ρ, st, o.ok, h.out o fun d st1 v F1 H1 ra1 fp1 e1 o1 _ _ r1 h1 => ?_⟩
  exact h1 v F1 H1 ra1 fp1 o1.s o1.fr o1.pre r1
theorem ss_retN : SS G N sc (.Return none pos) (fun ρ st => .rt .non st) := fun X W ok tk => PS.imp ps_retN fun D σ H ⟨b, F, ra, fp, ρ, st, o, h⟩ => h .non F H ra fp o.s o.fr o.pre .non
theorem ss_exp (he : SE G N sc e fe) (hs : ∀ l env, swapsWith e none l env = pure false) : SS G N sc (.Expr e pos) (fun ρ st => (fe ρ st).out ρ fun _ st => .nx ρ st) := fun X W ok tk => by
  refine PS.imp (ps_expr (he X W ok.ok tk) (hs _ _)) fun D σ H ⟨b, F, ra, fp, ρ, st, o, h⟩ => ⟨F, ra, fp, ρ, st, o.ok, h.out o fun d st1 v F1 H1 ra1 fp1 e1 o1 _ _ r1 h1 => ?_⟩
  exact h1 σ F1 H1 ra1 fp1 o1
theorem ss_ite (hc : ST G N sc c fc) (h1 : SSs G N sc ss fx) (h2 : SSs G N sc s2 fy) : SS G N sc (.If c ss s2 pos) (fun ρ st => (asB (fc ρ st)).out ρ fun t st => match t with
    | true => fx ρ st
    | false => fy ρ st) := fun X W ok tk => by
  refine PS.imp (ps_if (hc X W ok.ok tk) (h1 X W ok tk) (h2 X W ok tk)) fun D σ H ⟨b, F, ra, fp, ρ, st, o, h⟩ => ⟨F, ra, fp, ρ, st, o.ok, h.out o fun d st1 v F1 H1 ra1 fp1 e1 o1 _ _ r1 h1 => ?_⟩
  cases r1
  cases d with
  | true => exact iteT ⟨b, F1, ra1, fp1, ρ, st1, o1, h1⟩
  | false => exact iteF ⟨b, F1, ra1, fp1, ρ, st1, o1, h1⟩
/-! ### stores -/
theorem ss_asg {g : TG} {tgs : List Nat} (he : SE G N sc e fe) (hg : SGs G N sc tg g) (gp : GPut G.K g tgs) (hs : ∀ l env, swapsWithSole [tg] e l env = pure false) (hw : ∀ env, swappedStores [tg] e env = pure none) (h1 : ∀ env, (assignEach [tg] env).map (·.2) = [assign tg env]) :
    SS G N sc (.Assign [tg] e pos) (fun ρ st => (fe ρ st).out ρ fun x st => match put tgs x ρ with
      | some ρ' => .nx ρ' st
      | none => .bad) := fun X W ok tk => by
  refine PS.imp (ps_asg (he X W ok.ok tk) (hg X ok) (hs _ _) (hw _) (h1 _)) fun D σ H ⟨b, F, ra, fp, ρ, st, o, h⟩ => ⟨F, ra, fp, ρ, st, o.ok, h.out o fun d st1 v F1 H1 ra1 fp1 e1 o1 _ _ r1 h1 => ?_⟩
  cases hp : put tgs d ρ with
  | none => rw [hp] at h1; exact False.elim h1
  | some ρ' =>
    rw [hp] at h1
    exact gp (fun σ ρ => SOk G.K b F1 H1 ra1 fp1 σ ρ st1) o1.s.ex (fun _ _ _ _ _ z r => z.setD r) o1 r1 hp _ fun σ' o' _ => h1 σ' F1 H1 ra1 fp1 o'
theorem sgs_name (hi : N[i]? = some x) (hx : Loc sc x) : SGs G N sc (.Name x pos) (gName i) := fun X ok => pg_name (by rw [ok.ok.names]; exact ok.ok.nd) (by rw [ok.ok.names]; exact hi) (by rw [ok.ok.sc]; exact hx) (.inl (ok.fn x))
/-- name = [..] and the like, the list its own -/
def SFA (G : Gm) (N : List Str) (sc : Scope) (st : Stmt) (i : Nat) (f : Slots → Store → Res (List D)) : Prop := ∀ (X : Cx) (W : WX), XF G N sc X → Takes X W → PS X st (tAsg (tF G.K W f) (gName i))
theorem sfa_of (he : SF G N sc e fi) (hi : N[i]? = some x) (hx : Loc sc x) (hs : ∀ l env, env.scope = sc → swapsWith e (some (.Name x p)) l env = pure false) : SFA G N sc (.Assign [.Name x p] e pos) i fi := fun X W ok tk =>
  ps_set (by rw [ok.ok.names]; exact ok.ok.nd) (by rw [ok.ok.names]; exact hi) (by rw [ok.ok.sc]; exact hx) (he X W ok.ok tk) (hs _ _ ok.ok.sc) (.inl (ok.fn x))
theorem ss_newl {stm : Stmt} (he : SFA G N sc stm i fi) : SS G N sc stm (fun ρ st => (fi ρ st).out ρ fun xs st => .nx (ρ.set i (.ml xs)) st) := fun X W ok tk => by
  refine PS.imp (he X W ok tk) fun D σ H ⟨b, F, ra, fp, ρ, st, o, h⟩ => ⟨F, ra, fp, ρ, st, o.ok, ?_⟩
  have h : OAft G.K W b ((fi ρ st).out ρ fun xs st => .nx (ρ.set i (.ml xs)) st) D := h
  generalize fi ρ st = r at h ⊢
  cases r with
  | ok xs st1 =>
    intro a vs F1 H1 ra1 fp1 f1 p1 s1 hH ha hF hf r1
    have o1 := o.step f1 p1 s1
    obtain ⟨fe, k1, k2, k3, k4⟩ := o1.env
    obtain ⟨fe0, j1, j2, j3, j4⟩ := o.env
    -- a is new
    have hb0 : b.H0 a = none := by
      cases q : b.H0 a with
      | none => rfl
      | some u => obtain ⟨u', hu'⟩ := o.fr.there a u q; rw [hH] at hu'; cases hu'
    have j1' : EnvOk G.K F1 ra1 H1 σ ρ fe0 := j1.fr f1 p1 j3
    have hn : a ∉ fe0 := fun q => by obtain ⟨⟨u, hu⟩, _⟩ := j1.tracked a q; rw [hH] at hu; cases hu
    have hd : ∀ c ∈ fe0, c ∉ fp1 := fun c hc hb => by
      rcases f1.own c hb with q | q
      · exact j3 c hc q
      · obtain ⟨⟨u, hu⟩, _⟩ := j1.tracked c hc; rw [hu] at q; cases q
    obtain ⟨f', m1, m2, m3⟩ := j1'.set (i := i) (o := some (.ref a)) (s := .ml xs) (g := [a]) j2 (.ml ha hF r1) (by simp) (fun c hc => by rw [List.mem_singleton.mp hc]; exact hn)
    exact h _ F1 H1 ra1 fp1 ⟨s1, ⟨f', m1, m2, fun c hc => (m3 c hc).elim (hd c) (fun q => by rw [List.mem_singleton.mp q]; exact hf), fun c hc => (m3 c hc).elim (j4 c) (fun q => by rw [List.mem_singleton.mp q]; exact hb0)⟩, o1.fr, o1.pre, o1.low, o1.lowr⟩
  | ex x st1 => exact fun F1 H1 ra1 fp1 c dx f p s e => h σ F1 H1 ra1 fp1 c dx (o.step f p s) e
  | bad => exact h
/-- .. let be at once -/
theorem ss_asgF {stm : Stmt} (he : SFA G N sc stm i fi) : SS G N sc stm (fun ρ st => (fi ρ st).out ρ fun xs st => .nx (ρ.set i (.d (.lst xs))) st) := fun X W ok tk => by
  refine PS.imp (he X W ok tk) fun D σ H ⟨b, F, ra, fp, ρ, st, o, h⟩ => ⟨F, ra, fp, ρ, st, o.ok, ?_⟩
  have h : OAft G.K W b ((fi ρ st).out ρ fun xs st => .nx (ρ.set i (.d (.lst xs))) st) D := h
  generalize fi ρ st = r at h ⊢
  cases r with
  | ok xs st1 =>
    intro a vs F1 H1 ra1 fp1 f1 p1 s1 hH ha hF hf r1
    have o1 := o.step (f1.frz (o := .lst vs) hH hF) p1 (s1.frz ha hF hf)
    exact h _ _ H1 ra1 fp1 (o1.setD (.lst (SqL.of upd_same) (r1.mono (Ex.new hF) (Pre.refl _))))
  | ex x st1 => exact fun F1 H1 ra1 fp1 c dx f p s e => h σ F1 H1 ra1 fp1 c dx (o.step f p s) e
  | bad => exact h
/-- a display, its list new -/
theorem sf_lst {es : List Expr} {fs : Slots → Store → Res (List Mn.D)} (hs : SA G N sc es fs) : SF G N sc (.List es pos) (fun ρ st => (fs ρ st).bind fun xs st => if xs.length ≤ LIM then .ok xs st else .bad) := fun X W ok tk => by
  refine PE.imp (pe_lst (hs X W ok tk)) fun σ H Q ⟨F, ra, fp, ρ, st, o, h⟩ => ?_
  refine ⟨F, ra, fp, ρ, st, o, AftF.bind h o fun d1 st1 v1 F1 H1 ra1 fp1 e1 f1 p1 o1 r1 h1 => ?_⟩
  split at h1
  · rename_i hz
    refine ⟨lim (by rw [r1.length]; exact hz), fun q hq => ?_⟩
    have hF : F1 q = none := by
      cases e : F1 q with
      | none => rfl
      | some u => rw [o1.ex _ _ e] at hq; cases hq
    have hf : q ∉ fp1 := fun z => by obtain ⟨u, hu⟩ := o1.s.tracked _ z; rw [hq] at hu; cases hu
    exact h1 q v1 F1 _ ra1 fp1 ((Fr.refl F1 H1 fp1).upd hq) (Pre.refl _) (o1.s.updOff hF hf) hq upd_same hF hf r1
  · exact False.elim h1
/-! ### name op= e, for whole numbers -/
theorem ss_aug {op : Operator} (he : SE G N sc e fe) (hop : op = .Add ∨ op = .Sub) (hi : N[i]? = some x) (hx : Loc sc x) : SS G N sc (.AugAssign (.Name x p) op e pos) (fun ρ st => match ρ[i]? with
      | some (.d y) => (fe ρ st).out ρ fun x st => match augI op y x with
        | some z => .nx (ρ.set i (.d z)) st
        | none => .bad
      | _ => .bad) := fun X W ok tk => by
  have hip : ∃ ti : TIp, PIp X op ti ∧ ∀ a b c H Q, augI op (.int a) (.int b) = some c → (∀ z, c = .int z → Q (.int z) H) → ti (.int a) (.int b) H Q := by
    rcases hop with rfl | rfl
    · exact ⟨_, ip_add, fun a b c H Q e q => ⟨a, b, rfl, rfl, q _ (by simpa [augI] using e.symm)⟩⟩
    · exact ⟨_, ip_sub, fun a b c H Q e q => ⟨a, b, rfl, rfl, q _ (by simpa [augI] using e.symm)⟩⟩
  obtain ⟨ti, hti, hq⟩ := hip
  refine PS.imp (ps_aug (by rw [ok.ok.names]; exact ok.ok.nd) (by rw [ok.ok.names]; exact hi) (by rw [ok.ok.sc]; exact hx) (he X W ok.ok tk) hti (.inl (ok.fn x))) fun D σ H ⟨b, F, ra, fp, ρ, st, o, h⟩ => ?_
  dsimp only at h
  split at h
  · rename_i y hy
    obtain ⟨v, hv, rv⟩ := o.ok.getD hy
    refine ⟨v, hv, F, ra, fp, ρ, st, o.ok, h.out o fun d st1 w F1 H1 ra1 fp1 e1 o1 e2 p2 r1 h1 => ?_⟩
    have rv := rv.mono e2 p2
    cases hz : augI op y d with
    | none => rw [hz] at h1; exact False.elim h1
    | some z =>
      rw [hz] at h1
      have : ∃ a b, y = .int a ∧ d = .int b := by
        rcases hop with rfl | rfl <;> (unfold augI at hz; split at hz <;> first | exact ⟨_, _, rfl, rfl⟩ | cases hz)
      obtain ⟨a, c, rfl, rfl⟩ := this
      cases rpI rv
      cases rpI r1
      refine hq a c z _ _ hz fun u hu => ?_
      subst hu
      exact h1 _ F1 H1 ra1 fp1 (o1.setD (.int u))
  · exact False.elim h
/-! ### a list of its own -/
theorem EnvOk.updOff {K : PySem.W.Frag} {F H : Hp} {ra : List Addr} {σ : L2.St} {ρ : Slots} {f : List Addr} {a : Addr} {o : HO} (h : EnvOk K F ra H σ ρ f) : a ∉ f → EnvOk K F ra (L2.upd H a o) σ ρ f := by
  induction h with
  | nil => intro _; exact .nil
  | cons s _ ih =>
    intro hf
    refine .cons ?_ (ih fun q => hf (List.mem_append_right _ q))
    cases s with
    | un => exact .un
    | d r => exact .d r
    | ml h n r => exact .ml (by rw [upd_ne fun q => hf (by rw [← q]; simp)]; exact h) n r
/-- the list at a slot gets other items -/
theorem SOk.setL {K : PySem.W.Frag} {b : Bs} {F H : Hp} {ra fp : List Addr} {σ : L2.St} {ρ : Slots} {st : Store} {i : Nat} {a : Addr} {ws : List V} {xs ys : List Mn.D} (o : SOk K b F H ra fp σ ρ st) (hi : ρ[i]? = some (.ml xs)) (hσ : σ[i]? = some (some (.ref a))) (r : RpL K F ra ws ys) :
    SOk K b F (L2.upd H a (.lst ws)) ra fp σ (ρ.set i (.ml ys)) st := by
  obtain ⟨fe, h1, h2, h3, h4⟩ := o.env
  have hlt : i < ρ.length := (List.getElem?_eq_some_iff.mp hi).1
  obtain ⟨f1, fi, f2, o', s', e, q1, q2, q3, k⟩ := h1.split hlt
  rw [hi] at q1; cases q1
  rw [hσ] at q2; cases q2
  cases q3 with
  | ml hH hF rr =>
    subst e
    have hn : a ∉ f1 ∧ a ∉ f2 := by
      simp only [List.nodup_append, List.mem_append, List.mem_singleton] at h2
      exact ⟨fun q => h2.1.2.2 a q a rfl rfl, fun q => h2.2.2 a (.inr rfl) a q rfl⟩
    have hfp : a ∉ fp := h3 a (by simp)
    have h0 : b.H0 a = none := h4 a (by simp)
    have j1 : EnvOk K F ra H (σ.set i none) (ρ.set i .un) (f1 ++ [] ++ f2) := k none .un [] .un
    have j2 : EnvOk K F ra (L2.upd H a (.lst ws)) (σ.set i none) (ρ.set i .un) (f1 ++ [] ++ f2) := j1.updOff (by simp [hn])
    obtain ⟨g1, gi, g2, o2, s2, e2, m1, m2, m3, kk⟩ := j2.split (i := i) (by simpa using hlt)
    have hs : s2 = .un := by
      rw [List.getElem?_set_self hlt] at m1; cases m1; rfl
    subst hs
    cases m3
    have j3 := kk (some (.ref a)) (.ml ys) [a] (.ml upd_same hF r)
    rw [List.set_set, List.set_set] at j3
    have hs' : σ.set i (some (.ref a)) = σ := by
      apply List.ext_getElem?
      intro n
      by_cases hn : i = n
      · subst hn
        rw [List.getElem?_set_self (List.getElem?_eq_some_iff.mp hσ).1, hσ]
      · rw [List.getElem?_set_ne hn]
    rw [hs'] at j3
    have e3 : g1 ++ g2 = f1 ++ f2 := by simpa using e2.symm
    refine ⟨o.s.updOff hF hfp, ⟨g1 ++ [a] ++ g2, j3, ?_, ?_, ?_⟩, o.fr.upd h0, o.pre, o.low, o.lowr⟩
    · have n0 : (g1 ++ g2).Nodup := by
        rw [e3]
        simp only [List.nodup_append, List.mem_append] at h2 ⊢
        exact ⟨h2.1.1, h2.2.1, fun x hx y hy => h2.2.2 x (.inl hx) y hy⟩
      have n1 : a ∉ g1 ++ g2 := by rw [e3]; simp [hn]
      simp only [List.nodup_append, List.mem_append, List.mem_singleton] at n0 n1 ⊢
      refine ⟨⟨n0.1, by simp, fun x hx y hy e => n1 (.inl (by subst hy; subst e; exact hx))⟩, n0.2.1, fun x hx y hy e => ?_⟩
      rcases hx with hx | hx
      · exact n0.2.2 x hx y hy e
      · subst hx; subst e; exact n1 (.inr hy)
    · intro c hc
      have : c ∈ f1 ++ [a] ++ f2 := by
        have : c ∈ g1 ++ g2 ∨ c = a := by simp only [List.mem_append, List.mem_singleton] at hc ⊢; rcases hc with (q | q) | q; exact .inl (.inl q); exact .inr q; exact .inl (.inr q)
        rw [e3] at this
        simp only [List.mem_append, List.mem_singleton] at this ⊢
        rcases this with (q | q) | q
        · exact .inl (.inl q)
        · exact .inr q
        · exact .inl (.inr q)
      exact h3 c this
    · intro c hc
      have : c ∈ f1 ++ [a] ++ f2 := by
        have : c ∈ g1 ++ g2 ∨ c = a := by simp only [List.mem_append, List.mem_singleton] at hc ⊢; rcases hc with (q | q) | q; exact .inl (.inl q); exact .inr q; exact .inl (.inr q)
        rw [e3] at this
        simp only [List.mem_append, List.mem_singleton] at this ⊢
        rcases this with (q | q) | q
        · exact .inl (.inl q)
        · exact .inr q
        · exact .inl (.inr q)
      exact h4 c this
theorem ss_app {apos p3 : Pos} (he : SE G N sc e fe) (hi : N[i]? = some x) (hx : Vis sc x) (h1 : (x == ("__debug__" : Str)) = false) (h2 : (x == ("__classdict__" : Str)) = false) (hn : noStar e = true) (hline : (apos.endLine == p3.line) = true) :
    SS G N sc (.Expr (.Call (.Attribute (.Name x p) "append" apos) [e] [] p3) pos) (fun ρ st => match ρ[i]? with
      | some (.ml xs) => (fe ρ st).out ρ fun y st => if xs.length < LIM then .nx (ρ.set i (.ml (xs ++ [y]))) st else .bad
      | _ => .bad) := fun X W ok tk => by
  have pv := pe_var (X := X) (x := x) (i := i) (pos := p) (by rw [ok.ok.names]; exact hi) (by rw [ok.ok.sc]; exact hx) h1 h2
  have hl : [e].all noStar = true := by simp [hn]
  refine PS.imp (ps_expr (pe_bm PySem.F.plainAttrs_list PySem.F.slot_list_append PySem.F.type_list_append mt_append pv (pa_cons (he X W ok.ok tk) pa_nil (starEach_cons hn)) (base_plain rfl) (few_of hl (by simp)) hline (starEach_cons hn) (plain_of (by simp))) (by rfl)) fun D σ H ⟨b, F, ra, fp, ρ, st, o, h⟩ => ?_
  dsimp only at h
  split at h
  · rename_i xs hml
    obtain ⟨o', g, hσ, sl, hg⟩ := o.ok.get hml
    cases sl with
    | @ml a vs _ hH hF rr =>
      refine ⟨_, hσ, .inl ⟨rfl, vs, SqL.of hH⟩, F, ra, fp, ρ, st, o.ok, h.out o fun d st1 w F1 H1 ra1 fp1 e1 o1 e2 p2 r1 h1 => ?_⟩
      split at h1
      · rename_i hlt
        obtain ⟨o'', g', hσ', sl', hg'⟩ := o1.ok.get hml
        rw [hσ] at hσ'
        cases hσ'
        cases sl' with
        | @ml _ vs' _ hH' hF' rr' =>
          exact ⟨a, vs', w, rfl, rfl, hH', limlt (by rw [rr'.length]; exact hlt), h1 _ F1 _ ra1 fp1 (o1.setL hml hσ (rr'.append (.cons r1 .nil)))⟩
      · exact False.elim h1
  · exact False.elim h
/-! ### an own list, let be: from here on it does not change -/
theorem SOk.frz1 {K : PySem.W.Frag} {b : Bs} {F H : Hp} {ra fp : List Addr} {σ : L2.St} {ρ : Slots} {st : Store} {i : Nat} {xs : List Mn.D} (o : SOk K b F H ra fp σ ρ st) (hi : ρ[i]? = some (.ml xs)) : ∃ F', SOk K b F' H ra fp σ (ρ.set i (.d (.lst xs))) st := by
  obtain ⟨fe, h1, h2, h3, h4⟩ := o.env
  have hlt : i < ρ.length := (List.getElem?_eq_some_iff.mp hi).1
  obtain ⟨f1, fi, f2, o', s', e, q1, q2, q3, k⟩ := h1.split hlt
  rw [hi] at q1; cases q1
  cases q3 with
  | @ml a vs _ hH hF rr =>
    subst e
    have hfp : a ∉ fp := h3 a (by simp)
    have h0 : b.H0 a = none := h4 a (by simp)
    have hn : a ∉ f1 ∧ a ∉ f2 := by
      simp only [List.nodup_append, List.mem_append, List.mem_singleton] at h2
      exact ⟨fun q => h2.1.2.2 a q a rfl rfl, fun q => h2.2.2 a (.inr rfl) a q rfl⟩
    have j1 : EnvOk K F ra H (σ.set i none) (ρ.set i .un) (f1 ++ [] ++ f2) := k none .un [] .un
    have j2 : ∀ {σ ρ f}, EnvOk K F ra H σ ρ f → a ∉ f → EnvOk K (L2.upd F a (.lst vs)) ra H σ ρ f := by
      intro σ ρ f h
      induction h with
      | nil => intro _; exact .nil
      | cons s _ ih =>
        intro hf
        refine .cons ?_ (ih fun q => hf (List.mem_append_right _ q))
        cases s with
        | un => exact .un
        | d r => exact .d (r.mono (Ex.new hF) (Pre.refl _))
        | ml h n r => exact .ml h (by rw [upd_ne fun q => hf (by rw [← q]; simp)]; exact n) (r.mono (Ex.new hF) (Pre.refl _))
    obtain ⟨g1, gi, g2, o2, s2, e2, m1, m2, m3, kk⟩ := (j2 j1 (by simp [hn])).split (i := i) (by simpa using hlt)
    have hs : s2 = .un := by
      rw [List.getElem?_set_self hlt] at m1; cases m1; rfl
    subst hs
    cases m3
    have j3 := kk (some (.ref a)) (.d (.lst xs)) [] (.d (.lst (SqL.of upd_same) (rr.mono (Ex.new hF) (Pre.refl _))))
    rw [List.set_set, List.set_set] at j3
    have hs' : σ.set i (some (.ref a)) = σ := by
      apply List.ext_getElem?
      intro n
      by_cases hn : i = n
      · subst hn
        rw [List.getElem?_set_self (List.getElem?_eq_some_iff.mp q2).1, q2]
      · rw [List.getElem?_set_ne hn]
    rw [hs'] at j3
    have e3 : g1 ++ [] ++ g2 = f1 ++ f2 := by simpa using e2.symm
    rw [e3] at j3
    refine ⟨_, o.s.frz hH hF hfp, ⟨f1 ++ f2, j3, ?_, fun c hc => h3 c ?_, fun c hc => h4 c ?_⟩, o.fr.frz h0 hF, o.pre, o.low.trans (Ex.new hF), o.lowr⟩
    · simp only [List.nodup_append, List.mem_append] at h2 ⊢
      exact ⟨h2.1.1, h2.2.1, fun x hx y hy => h2.2.2 x (.inl hx) y hy⟩
    · rcases List.mem_append.mp hc with q | q <;> simp [q]
    · rcases List.mem_append.mp hc with q | q <;> simp [q]
theorem SOk.frz {K : PySem.W.Frag} {b : Bs} {H : Hp} {ra fp : List Addr} {σ : L2.St} {ρ : Slots} {st : Store} : ∀ (is : List Nat) {F : Hp}, SOk K b F H ra fp σ ρ st → ∃ F', SOk K b F' H ra fp σ (frzAll ρ is) st
  | [], F, o => ⟨F, o⟩
  | i :: is, F, o => by
    obtain ⟨F1, o1⟩ := SOk.frz is o
    unfold frzAll
    split
    · rename_i xs hx
      exact o1.frz1 hx
    · exact ⟨F1, o1⟩
theorem ss_frz {is : List Nat} (h : SS G N sc s fx) : SS G N sc s (fun ρ st => fx (frzAll ρ is) st) := fun X W ok tk =>
  PS.imp (h X W ok tk) fun D σ H ⟨b, F, ra, fp, ρ, st, o, h⟩ => by
    obtain ⟨F', o'⟩ := o.frz is
    exact ⟨b, F', ra, fp, _, st, o', h⟩

/-! ### loops -/
theorem ss_for {g : TG} {tgs : List Nat} (hi : SI G N sc tg it fi) (hg : SGs G N sc tg g) (gp : GPut G.K g tgs) (hb : SSs G N sc ss fx) (hs : ∀ env x, foldedSetIterable it env x = pure x) :
    SS G N sc (.For tg it ss [] pos) (fun ρ st => (fi ρ st).out ρ fun xs st => loopGo (fun x ρ st => match put tgs x ρ with
      | some ρ' => fx ρ' st
      | none => .bad) xs ρ st) := fun X W ok tk => by
  refine PS.imp (ps_for ok.po ok.ok.calm (hi X W ok.ok tk) (hg X ok) (hb X W ok tk) (fun x => hs _ x)) fun D σ H ⟨b, F, ra, fp, ρ, st, o, h⟩ => ⟨F, ra, fp, ρ, st, o.ok, h.out o fun xs st1 J F1 H1 ra1 fp1 e1 o1 e2 p2 rl h1 => ?_⟩
  let bd : Mn.D → Slots → Store → Out := fun x ρ st => match put tgs x ρ with
      | some ρ' => fx ρ' st
      | none => .bad
  let I : Nat → Nat → L2.St → Hp → Prop := fun i m σ H => m = xs.length - i ∧ i ≤ xs.length ∧ ∃ F2 ra2 fp2 ρ2 st2, SOk G.K (b.at F1 ra1) F2 H ra2 fp2 σ ρ2 st2 ∧ OAft G.K W b (loopGo bd (xs.drop i) ρ2 st2) D
  refine ⟨I, ⟨xs.length, by simp, Nat.zero_le _, F1, ra1, fp1, ρ, st1, o1.at (Ex.refl _) (Pre.refl _), h1⟩, ?_⟩
  rintro i m σ2 H2 ⟨rfl, hi, F2, ra2, fp2, ρ2, st2, o2, hB⟩
  have jk := rl i F2 H2 ra2 o2.low o2.s.ex o2.lowr
  by_cases hlt : i < xs.length
  · have hx : xs[i]? = some xs[i] := by simp [hlt]
    have hdr : xs.drop i = xs[i] :: xs.drop (i + 1) := List.drop_eq_getElem_cons hlt
    rw [hdr] at hB
    obtain ⟨jgo, jy⟩ := jk.1 _ hx
    refine .inr ⟨jgo, fun σ' H' => I (i + 1) (xs.length - (i + 1)) σ' H', fun σ' H' h' => ⟨_, by omega, h'⟩, fun v H3 y => ?_⟩
    obtain ⟨F3, gr, rv⟩ := jy v H3 y
    have o3 := o2.grow gr
    unfold loopGo at hB
    cases hp : put tgs xs[i] ρ2 with
    | none =>
      have : bd xs[i] ρ2 st2 = .bad := by show (match put tgs xs[i] ρ2 with | some ρ' => fx ρ' st2 | none => .bad) = _; rw [hp]
      rw [this] at hB
      exact False.elim hB
    | some ρ' =>
      have : bd xs[i] ρ2 st2 = fx ρ' st2 := by show (match put tgs xs[i] ρ2 with | some ρ' => fx ρ' st2 | none => .bad) = _; rw [hp]
      rw [this] at hB
      refine gp (fun σ ρ => SOk G.K (b.at F1 ra1) F3 H3 ra2 fp2 σ ρ st2) gr.ex (fun _ _ _ _ _ z r => z.setD r) o3 rv hp _ fun σ' o4 _ => ?_
      refine ⟨b.at F1 ra1, F3, ra2, fp2, ρ', st2, o4, ?_⟩
      generalize fx ρ' st2 = r at hB ⊢
      cases r with
      | nx ρ5 st5 => exact fun σ5 F5 H5 ra5 fp5 o5 => ⟨rfl, by omega, F5, ra5, fp5, ρ5, st5, o5, hB⟩
      | ct ρ5 st5 => exact fun σ5 F5 H5 ra5 fp5 o5 => ⟨rfl, by omega, F5, ra5, fp5, ρ5, st5, o5, hB⟩
      | bk ρ5 st5 => exact fun σ5 F5 H5 ra5 fp5 o5 => hB σ5 F5 H5 ra5 fp5 (o5.back o1.low o1.lowr)
      | rt d st5 => exact hB
      | ex x ρ5 st5 => exact fun σ5 F5 H5 ra5 fp5 c dx o5 e => hB σ5 F5 H5 ra5 fp5 c dx (o5.back o1.low o1.lowr) e
      | bad => exact hB
  · have e : i = xs.length := by omega
    subst e
    refine .inl ⟨jk.2 (Nat.le_refl _), ?_⟩
    rw [List.drop_length] at hB
    exact hB σ2 F2 H2 ra2 fp2 (o2.back o1.low o1.lowr)
theorem ss_whl {n : Nat} (hc : ST G N sc c fc) (hb : SSs G N sc ss fx) : SS G N sc (.While c ss [] pos) (fun ρ st => whileGo (fun ρ st => fc ρ st) (fun ρ st => fx ρ st) n ρ st) := fun X W ok tk => by
  refine PS.imp (ps_while ok.po (hc X W ok.ok tk) (hb X W ok tk)) fun D σ H ⟨b, F, ra, fp, ρ, st, o, h⟩ => ?_
  refine ⟨fun m σ H => ∃ F ra fp ρ st, SOk G.K b F H ra fp σ ρ st ∧ OAft G.K W b (whileGo (fun ρ st => fc ρ st) (fun ρ st => fx ρ st) m ρ st) D, ⟨n, F, ra, fp, ρ, st, o, h⟩, ?_⟩
  rintro m σ1 H1 ⟨F1, ra1, fp1, ρ1, st1, o1, h1⟩
  cases m with
  | zero => exact False.elim h1
  | succ m =>
    unfold whileGo at h1
    refine ⟨F1, ra1, fp1, ρ1, st1, o1.ok, h1.out o1 fun d st2 v F2 H2 ra2 fp2 e2 o2 _ _ r2 h2 => ?_⟩
    cases r2
    cases d with
    | true =>
      rw [if_pos rfl]
      refine ⟨fun σ' H' => ∃ F ra fp ρ st, SOk G.K b F H' ra fp σ' ρ st ∧ OAft G.K W b (whileGo (fun ρ st => fc ρ st) (fun ρ st => fx ρ st) m ρ st) D, fun σ' H' q => ⟨m, by omega, q⟩, b, F2, ra2, fp2, ρ1, st2, o2, ?_⟩
      dsimp only at h2
      generalize fx ρ1 st2 = r at h2 ⊢
      cases r with
      | nx ρ5 st5 => exact fun σ5 F5 H5 ra5 fp5 o5 => ⟨F5, ra5, fp5, ρ5, st5, o5, h2⟩
      | ct ρ5 st5 => exact fun σ5 F5 H5 ra5 fp5 o5 => ⟨F5, ra5, fp5, ρ5, st5, o5, h2⟩
      | bk ρ5 st5 => exact h2
      | rt d st5 => exact h2
      | ex x ρ5 st5 => exact h2
      | bad => exact h2
    | false =>
      rw [if_neg Bool.false_ne_true]
      exact h2 σ1 F2 H2 ra2 fp2 o2
end
end Mn
end

section
set_option Elab.async false
set_option linter.all false
set_option maxRecDepth 100000
set_option maxHeartbeats 2000000
/-! MnK: defs. -/
namespace Mn
open PySem PySem.Spec PyProof.Rows L2
theorem env_un {K : PySem.W.Frag} {F H : Hp} {ra : List Addr} : ∀ n : Nat, EnvOk K F ra H (List.replicate n none) (List.replicate n .un) []
  | 0 => .nil
  | n + 1 => .cons .un (env_un n)
theorem env_start {K : PySem.W.Frag} {F H : Hp} {ra : List Addr} {vs : List V} {ds : List D} {n : Nat} (r : RpL K F ra vs ds) : EnvOk K F ra H (vs.map some ++ List.replicate n none) (ds.map Sl.d ++ List.replicate n .un) [] := by
  induction ds generalizing vs with
  | nil => cases r; exact env_un n
  | cons d ds ih =>
    cases r with
    | cons p r => exact EnvOk.cons (.d p) (ih r)
structure DefOk (G : Gm) (x : Str) (N ps : List Str) (sc : Scope) (body : List Stmt) : Prop where
  ex : ∃ (a : Addr) (fd : FuncData) (qual : Str) (params : Arguments) (dvs : List V) (kws : List (Str × V)), G.mg x = some (.ref a) ∧ FunD G.K x qual params body sc dvs kws a fd ∧ Binds G.K fd ps []
  scope : FnScope N ps sc
/-- a def by its body -/
theorem fn_okD {G : Gm} {x qual : Str} {params : Arguments} {dvs : List V} {kws : List (Str × V)} {a : Addr} {fd : FuncData} {N ps : List Str} {sc : Scope} {body : List Stmt} {d : Def} {Γ : Ctx} {wf : Nat} (hF : FunD G.K x qual params body sc dvs kws a fd) (hsc : FnScope N ps sc) (hnp : d.np = ps.length) (hnn : d.nn = N.length) (hb : SSs G N sc body (xsL Γ wf d.body)) :
    FnOk G.P G.w G.K G.mg G.base (L2.CX G.P G.w) (G.k + 1) a fd ps (spD G.K d.np (runB Γ wf d)) := by
  refine hF.ok hsc (fun vs H Q E ⟨F, ra, fp, st, ds, _, _, hl, _⟩ => by rw [hl, hnp]) fun cdv A outer s H vs Q E hr hsp => ?_
  let X := cxOf (L2.CX G.P G.w) G.P G.w G.K G.mg G.base N qual sc a cdv A outer s H E
  have ok : XF G N sc X := ⟨⟨rfl, rfl, rfl, rfl, rfl, rfl, hsc.nd, rfl, rfl, hr⟩, fun _ => rfl, passes_of rfl⟩
  refine ⟨_, hb X (fun c d _ H => E c d H) ok (takes_of rfl rfl rfl rfl), ?_⟩
  obtain ⟨F, ra, fp, st, ds, s0, r, hl, hq⟩ := hsp
  have hdl : ds.length = d.np := by rw [← r.length]; exact hl
  refine ⟨⟨F, H, ra, fp, F, ra⟩, F, ra, fp, startD d.nn ds, st, ⟨s0, ⟨[], ?_, List.nodup_nil, by simp, by simp⟩, Fr.refl _ _ _, Pre.refl _, Ex.refl _, Pre.refl _⟩, ?_⟩
  · unfold L2.start startD
    rw [hnn, r.length]
    exact env_start r
  · have hq : Aft G.K (fun c d _ H => E c d H) (Rp G.K) F H ra fp [] (runB Γ wf d st ds) Q := hq
    unfold runB at hq
    rw [if_pos hdl] at hq
    generalize xsL Γ wf d.body (startD d.nn ds) st = o at hq ⊢
    cases o with
    | nx ρ1 st1 => exact fun σ1 F1 H1 ra1 fp1 o1 => hq .non F1 H1 ra1 fp1 o1.fr o1.pre o1.s .non
    | rt v st1 => exact fun v F1 H1 ra1 fp1 s1 f1 p1 r1 => hq v F1 H1 ra1 fp1 f1 p1 s1 r1
    | ex x ρ1 st1 => exact fun σ1 F1 H1 ra1 fp1 c dx o1 e => hq F1 H1 ra1 fp1 c dx o1.fr o1.pre o1.s e
    | bk _ _ => exact False.elim hq
    | ct _ _ => exact False.elim hq
    | bad => exact False.elim hq
theorem fn_hyp {G : Gm} {x : Str} {N ps : List Str} {sc : Scope} {body : List Stmt} {d : Def} {Γ : Ctx} {wf : Nat} (h : DefOk G x N ps sc body) (hnp : d.np = ps.length) (hnn : d.nn = N.length) (hb : SSs G N sc body (xsL Γ wf d.body)) :
    FnHyp { G with k := G.k + 1 } x d.np (runB Γ wf d) := by
  obtain ⟨a, fd, qual, params, dvs, kws, hm, hF, hB⟩ := h.ex
  exact ⟨a, fd, ps, hm, hF.kp, hB, fn_okD hF h.scope hnp hnn hb⟩
theorem fn_bad {G : Gm} {x : Str} {N ps : List Str} {sc : Scope} {body : List Stmt} (h : DefOk G x N ps sc body) (f : Store → List D → Res D) (hf : ∀ st ds, f st ds = .bad) : FnHyp { G with k := G.k + 1 } x ps.length f := by
  obtain ⟨a, fd, qual, params, dvs, kws, hm, hF, hB⟩ := h.ex
  refine ⟨a, fd, ps, hm, hF.kp, hB, ?_⟩
  refine hF.ok h.scope (fun vs H Q E ⟨F, ra, fp, st, ds, _, _, hl, _⟩ => hl) fun cdv A outer s H vs Q E hr hsp => ?_
  obtain ⟨F, ra, fp, st, ds, s0, r, hl, hq⟩ := hsp
  rw [hf] at hq
  exact False.elim hq
end Mn
end

section
set_option Elab.async false
set_option linter.all false
set_option maxRecDepth 100000
set_option maxHeartbeats 4000000
/-! MnL: from the text to the compiled text. -/
namespace Mn
open PySem PySem.Spec PyProof.Rows L2
/-- what is known of the module -/
structure Tb where
  fns : List (Str × Nat)
  glos : List Str
  cds : List Str
  free : List Str
def ixOf (x : Str) : List Str → Option Nat
  | [] => none
  | y :: r => if y = x then some 0 else (ixOf x r).map (· + 1)
theorem ixOf_get {x : Str} : ∀ {N : List Str} {i : Nat}, ixOf x N = some i → N[i]? = some x
  | [], i, h => by cases h
  | y :: r, i, h => by
    unfold ixOf at h
    split at h
    · rename_i e; cases h; subst e; rfl
    · simp only [Option.map_eq_some_iff] at h
      obtain ⟨j, h1, rfl⟩ := h
      simpa using ixOf_get h1
def mapO {α β : Type} (f : α → Option β) : List α → Option (List β)
  | [] => some []
  | a :: r => (f a).bind fun b => (mapO f r).map fun bs => b :: bs
def okName (x : Str) : Bool := !(x == ("__debug__" : Str)) && !(x == ("__classdict__" : Str))
def visB (sc : Scope) (x : Str) : Bool := match sc.names.lookup x with
  | some .local => true
  | some .cell => true
  | some .free => true
  | _ => false
def locB (sc : Scope) (x : Str) : Bool := match sc.names.lookup x with
  | some .local => true
  | some .cell => true
  | _ => false
def gloB (sc : Scope) (x : Str) : Bool := match sc.names.lookup x with
  | some .globalImplicit => true
  | _ => false
theorem vis_of {sc : Scope} {x : Str} (h : visB sc x = true) : Vis sc x := by
  unfold visB at h
  split at h <;> first | exact .inl (by assumption) | exact .inr (.inl (by assumption)) | exact .inr (.inr (by assumption)) | cases h
theorem loc_of {sc : Scope} {x : Str} (h : locB sc x = true) : Loc sc x := by
  unfold locB at h
  split at h <;> first | exact .inl (by assumption) | exact .inr (by assumption) | cases h
theorem glo_of {sc : Scope} {x : Str} (h : gloB sc x = true) : sc.names.lookup x = some .globalImplicit := by
  unfold gloB at h
  split at h <;> first | assumption | cases h
theorem okName_of {x : Str} (h : okName x = true) : (x == ("__debug__" : Str)) = false ∧ (x == ("__classdict__" : Str)) = false := by
  simpa [okName] using h
def cConst : Const → Option E
  | .int i => some (.k (.int i))
  | .str s => some (.k (.str s))
  | .bool b => some (.k (.bl b))
  | .none => some (.k .non)
  | _ => none
def cName (T : Tb) (N : List Str) (sc : Scope) (x : Str) : Option E :=
  if okName x = true then
    if visB sc x = true then (ixOf x N).map .var
    else if gloB sc x = true ∧ x ∈ T.glos then some (.glo x) else none
  else none
def cBO (f : Expr → Option E) (op : BoolOp) : List Expr → Option E
  | [] => none
  | [a] => f a
  | a :: b :: es => (f a).bind fun i => (cBO f op (b :: es)).map fun j => match op with
    | .And => .and i j
    | .Or => .or i j
def isIf : Expr → Bool
  | .IfExp .. => true
  | _ => false
def tst (f : Expr → Option E) (e : Expr) : Option E := if isIf e = true then none else f e
def notSet : Expr → Bool
  | .Set .. => false
  | _ => true
def notComp : Expr → Bool
  | .ListComp .. => false
  | .SetComp .. => false
  | .DictComp .. => false
  | _ => true
/-- a name that is a dict of the module -/
def cdName (T : Tb) (sc : Scope) : Expr → Option Str
  | .Name x _ => if okName x = true ∧ gloB sc x = true ∧ x ∈ T.cds then some x else none
  | _ => none
def cCmpD (T : Tb) (sc : Scope) (f : Expr → Option E) (a : Expr) (ops : List CmpOp) (bs : List Expr) : Option E := match ops, bs with
  | [.In], [b] => (cdName T sc b).bind fun x => (f a).map fun i => .cdin false x i
  | [.NotIn], [b] => (cdName T sc b).bind fun x => (f a).map fun i => .cdin true x i
  | _, _ => none
def cCmp (f : Expr → Option E) (a : Expr) (ops : List CmpOp) (bs : List Expr) : Option E := match ops, bs with
  | [op], [b] => if behindInMarks op b = false then (f a).bind fun i => (f b).bind fun j => some (.cmp op i j) else none
  | [o, p], [b, c] => if lastMarks [o, p] [b, c] = false then (f a).bind fun i => (f b).bind fun j => (f c).bind fun k => some (.chn o p i j k) else none
  | _, _ => none
def lastStar : List Expr → Option (List Expr × Expr)
  | [] => none
  | [.Starred e _] => some ([], e)
  | e :: es => if noStar e = true then (lastStar es).map fun q => (e :: q.1, q.2) else none
def cTup (f : Expr → Option E) (es : List Expr) : Option E :=
  if es.all noStar = true then (mapO f es).map .tup else match lastStar es with
    | some (es, e) => (mapO f es).bind fun is => (f e).map fun i => .tupS is i
    | none => none
def isSlice : Expr → Bool
  | .Slice .. => true
  | _ => false
def cSub (f : Expr → Option E) (a b : Expr) : Option E := match b with
  | .Slice (some lo) none none _ => (f a).bind fun i => (f lo).map fun j => .slcL i j
  | .Slice none (some hi) none _ => (f a).bind fun i => (f hi).map fun j => .slcH i j
  | .Slice (some lo) (some hi) none _ => (f a).bind fun i => (f lo).bind fun j => (f hi).map fun k => .slcB i j k
  | b => if isSlice b = false then (f a).bind fun i => (f b).map fun j => .ix i j else none
def btOf (x : Str) : Option Bt :=
  if x = "len" then some .len else if x = "int" then some .int else if x = "abs" then some .abs else if x = "str" then some .str else if x = "tuple" then some .tuple else if x = "list" then some .list
  else if x = "all" then some .all else if x = "any" then some .any else if x = "max" then some .max2 else if x = "min" then some .min2 else none
def isOf (x : Str) : Option Bt := if x = "tuple" then some .isT else if x = "int" then some .isI else if x = "str" then some .isS else none
def smOf (x : Str) : Option Sm := if x = "split" then some .split else if x = "partition" then some .partition else if x = "join" then some .join else if x = "endswith" then some .endswith else none
def cCallN (T : Tb) (f : Expr → Option E) (sc : Scope) (x : Str) (args : List Expr) : Option E :=
  if okName x = true ∧ gloB sc x = true ∧ args ≠ [] ∧ args.all noStar = true then
    match T.fns.lookup x with
    | some n => if args.length = n then (mapO f args).map (.call x) else none
    | none => if x ∈ T.free then
        if x = "isinstance" then match args with
          | [e, .Name t _] => if gloB sc t = true ∧ t ∈ T.free then (isOf t).bind fun b => (f e).map fun i => .blt b [i] else none
          | _ => none
        else (btOf x).bind fun b => (mapO f args).map (.blt b)
      else none
  else none
def cCallM (f : Expr → Option E) (o : Expr) (m : Str) (ap : Pos) (args : List Expr) (pos : Pos) : Option E :=
  if noSup o = true ∧ (ap.endLine == pos.line) = true then match args with
    | [] => if m = "upper" then (f o).map fun i => .sm .upper i [] else none
    | args => if args.all noStar = true ∧ args.length < 25 then (smOf m).bind fun s => (f o).bind fun i => (mapO f args).map fun is => .sm s i is else none
  else none
def cIt (T : Tb) (f : Expr → Option E) (sc : Scope) (tup : Bool) (e : Expr) : Option E := match e with
  | .Call (.Name x p) args [] q =>
    if x = "range" then if gloB sc x = true ∧ x ∈ T.free then match args with
        | [a] => if noStar a = true then (f a).map .rng1 else none
        | [a, b] => if noStar a = true ∧ noStar b = true then (f a).bind fun i => (f b).map fun j => .rng2 i j else none
        | _ => none
      else none
    else if x = "zip" then if gloB sc x = true ∧ x ∈ T.free ∧ tup = true then match args with
        | [a, b] => if noStar a = true ∧ noStar b = true then (f a).bind fun i => (f b).map fun j => .zip i j else none
        | _ => none
      else none
    else f (.Call (.Name x p) args [] q)
  | e => f e
/-- the names of a target -/
def namesOf : List Expr → Option (List Str)
  | [] => some []
  | .Name x _ :: es => (namesOf es).map fun r => x :: r
  | _ => none
def isTupE : Expr → Bool
  | .Tuple .. => true
  | _ => false
def cTg (N : List Str) (sc : Scope) (tg : Expr) : Option (List Nat) := match tg with
  | .Name x _ => if locB sc x = true then (ixOf x N).map fun i => [i] else none
  | .Tuple es _ _ => (namesOf es).bind fun xs => if xs.all (locB sc) = true ∧ 2 ≤ xs.length then mapO (fun x => ixOf x N) xs else none
  | _ => none
def ownOf (N : List Str) (scope : Scope) : List (Str × Nat) := scope.names.filterMap fun y => match y.2 with
  | .local => (ixOf y.1 N).map fun i => (y.1, i)
  | .cell => (ixOf y.1 N).map fun i => (y.1, i)
  | _ => none
def cIfs (f : Expr → Option E) : List Expr → Option E
  | [] => some (.k (.bl true))
  | [c] => tst f c
  | _ => none
def cE (T : Tb) (N : List Str) : Nat → Scope → Expr → Option E
  | 0, _, _ => none
  | n + 1, sc, e => match e with
    | .Constant c _ _ => cConst c
    | .Name x _ => cName T N sc x
    | .BinOp a op b _ => (cE T N n sc a).bind fun i => (cE T N n sc b).bind fun j => some (.bin op i j)
    | .UnaryOp .USub a _ => (cE T N n sc a).map .neg
    | .UnaryOp .Not a _ => (tst (cE T N n sc) a).map .not
    | .IfExp c a b _ => (tst (cE T N n sc) c).bind fun i => (cE T N n sc a).bind fun j => (cE T N n sc b).map fun k => .ite i j k
    | .BoolOp op es _ => cBO (tst (cE T N n sc)) op es
    | .Compare a ops bs _ => match cCmpD T sc (cE T N n sc) a ops bs with
      | some i => some i
      | none => cCmp (cE T N n sc) a ops bs
    | .Tuple es _ _ => cTup (cE T N n sc) es
    | .List es _ => if es.all noStar = true then (mapO (cE T N n sc) es).map .lst else none
    | .Subscript a b _ => match cdName T sc a with
      | some x => if isSlice b = false then (cE T N n sc b).map fun j => .cdix x j else none
      | none => cSub (cE T N n sc) a b
    | .Call (.Name x _) args [] _ => cCallN T (cE T N n sc) sc x args
    | .Call (.Attribute o m ap) args [] pos => cCallM (cE T N n sc) o m ap args pos
    | .ListComp el [⟨tg, it, ifs, 0⟩] scope _ =>
      if blkC N sc scope (ownOf N scope) = true ∧ notSet it = true then
        (cTg N scope tg).bind fun tgs => if tgs.all (fun t => decide (t ∈ (ownOf N scope).map (·.2))) = true then
          (cIt T (cE T N n sc) sc (isTupE tg) it).bind fun i => (cIfs (cE T N n (relS scope sc)) ifs).bind fun c => (cE T N n (relS scope sc) el).map fun j => .lc tgs i c j ((ownOf N scope).map (·.2)) else none
      else none
    | _ => none
end Mn
end

section
set_option Elab.async false
set_option linter.all false
set_option maxRecDepth 100000
set_option maxHeartbeats 4000000
/-! MnM: the compiled expression does what the text does. -/
namespace Mn
open PySem PySem.Spec PyProof.Rows L2
/-- what the module's dict at a has at z -/
def KV (K : PySem.W.Frag) (a : Addr) (z : Str) : Option D → Prop
  | some d => ∃ u v, PySem.W.nsIn K a z = some (some u) ∧ RelV v u ∧ ∀ F ra, Rp K F ra v d
  | none => PySem.W.nsIn K a z = some none
def CdOk (G : Gm) (x : Str) (kvs : List (Str × D)) : Prop := ∃ a es n, G.mg x = some (.ref a) ∧ KDict G.K G.w a es n ∧ ∀ z, KV G.K a z (kvs.lookup z)
theorem cdin_read {K : PySem.W.Frag} {W : WX} {f : Slots → Store → Res D} {neg : Bool} {kvs : List (Str × D)} {a : Addr} (hk : ∀ z, KV K a z (kvs.lookup z)) {σ : L2.St} {H : Hp} {Q : VK}
    (h : tD K W (fun ρ st => (f ρ st).bind fun d st => Mn.lift (cdIn (some kvs) neg d) st) σ H Q) : tD K W f σ H fun x H1 => ∃ (z : Str) (r : Option Value), x = .str z ∧ PySem.W.nsIn K a z = some r ∧ Q (.bl (if neg then !r.isSome else r.isSome)) H1 := by
  obtain ⟨F, ra, fp, ρ, st, o1, h⟩ := h
  refine ⟨F, ra, fp, ρ, st, o1, h.bind o1 fun d st1 v F1 H1 ra1 fp1 e1 f1 p1 o1 r1 h1 => ?_⟩
  obtain ⟨d', e, q⟩ := Aft.lift h1 o1
  unfold cdIn at e
  split at e
  · rename_i kvs' z q0
    cases q0
    cases rpS r1
    have := hk z
    cases e
    cases hl : kvs.lookup z with
    | some d =>
      rw [hl] at this q
      obtain ⟨u, w, n1, _, _⟩ := this
      exact ⟨z, _, rfl, n1, q.bl o1.ex⟩
    | none =>
      rw [hl] at this q
      exact ⟨z, _, rfl, this, q.bl o1.ex⟩
  · cases e
section
variable {G : Gm} {N : List Str} {sc : Scope} {a : Expr} {fa : Slots → Store → Res D} {x : Str} {kvs : List (Str × D)} {p pos : Pos}
theorem se_cdin (ha : SE G N sc a fa) (hc : CdOk G x kvs) (hg : sc.names.lookup x = some .globalImplicit) (hd : (x == ("__debug__" : Str)) = false) :
    SE G N sc (.Compare a [.In] [.Name x p] pos) (fun ρ st => (fa ρ st).bind fun d st => Mn.lift (cdIn (some kvs) false d) st) := fun X W ok tk => by
  obtain ⟨A, es, n, hm, hD, hk⟩ := hc
  have hD' : KDict X.K X.w A es n := by rw [ok.K, ok.w]; exact hD
  refine PE.imp (pe_cmpR (op_in_kd hD') (ha X W ok tk) (pe_glob (v := .ref A) (show X.env.scope.names.lookup x = some .globalImplicit by rw [ok.sc]; exact hg) (by rw [ok.mg]; exact hm) rfl hd) rfl) fun σ H Q h => ?_
  obtain ⟨F, ra, fp, ρ, st, o, h⟩ := cdin_read hk h
  refine ⟨F, ra, fp, ρ, st, o, h.mono fun v H1 q => ?_⟩
  obtain ⟨z, r, e, hn, q⟩ := q
  exact ⟨z, r, e, rfl, by rw [ok.K]; exact hn, q⟩
theorem se_cdnin (ha : SE G N sc a fa) (hc : CdOk G x kvs) (hg : sc.names.lookup x = some .globalImplicit) (hd : (x == ("__debug__" : Str)) = false) :
    SE G N sc (.Compare a [.NotIn] [.Name x p] pos) (fun ρ st => (fa ρ st).bind fun d st => Mn.lift (cdIn (some kvs) true d) st) := fun X W ok tk => by
  obtain ⟨A, es, n, hm, hD, hk⟩ := hc
  have hD' : KDict X.K X.w A es n := by rw [ok.K, ok.w]; exact hD
  refine PE.imp (pe_cmpR (op_notIn_kd hD') (ha X W ok tk) (pe_glob (v := .ref A) (show X.env.scope.names.lookup x = some .globalImplicit by rw [ok.sc]; exact hg) (by rw [ok.mg]; exact hm) rfl hd) rfl) fun σ H Q h => ?_
  obtain ⟨F, ra, fp, ρ, st, o, h⟩ := cdin_read hk h
  refine ⟨F, ra, fp, ρ, st, o, h.mono fun v H1 q => ?_⟩
  obtain ⟨z, r, e, hn, q⟩ := q
  exact ⟨z, r, e, rfl, by rw [ok.K]; exact hn, q⟩
/-- .. as tests -/
theorem st_cdin (ha : SE G N sc a fa) (hc : CdOk G x kvs) (hg : sc.names.lookup x = some .globalImplicit) (hd : (x == ("__debug__" : Str)) = false) :
    ST G N sc (.Compare a [.In] [.Name x p] pos) (fun ρ st => (fa ρ st).bind fun d st => Mn.lift (cdIn (some kvs) false d) st) := fun X W ok tk => by
  obtain ⟨A, es, n, hm, hD, hk⟩ := hc
  have hD' : KDict X.K X.w A es n := by rw [ok.K, ok.w]; exact hD
  refine PT.imp (pt_cmpR (op_in_kd hD') (ha X W ok tk) (pe_glob (v := .ref A) (show X.env.scope.names.lookup x = some .globalImplicit by rw [ok.sc]; exact hg) (by rw [ok.mg]; exact hm) rfl hd) rfl) fun σ H Q h => ?_
  obtain ⟨F, ra, fp, ρ, st, o, h⟩ := cdin_read hk h.toV
  refine ⟨F, ra, fp, ρ, st, o, h.mono fun v H1 q => ?_⟩
  obtain ⟨z, r, e, hn, q⟩ := q
  exact ⟨z, r, e, rfl, by rw [ok.K]; exact hn, q⟩
theorem st_cdnin (ha : SE G N sc a fa) (hc : CdOk G x kvs) (hg : sc.names.lookup x = some .globalImplicit) (hd : (x == ("__debug__" : Str)) = false) :
    ST G N sc (.Compare a [.NotIn] [.Name x p] pos) (fun ρ st => (fa ρ st).bind fun d st => Mn.lift (cdIn (some kvs) true d) st) := fun X W ok tk => by
  obtain ⟨A, es, n, hm, hD, hk⟩ := hc
  have hD' : KDict X.K X.w A es n := by rw [ok.K, ok.w]; exact hD
  refine PT.imp (pt_cmpR (op_notIn_kd hD') (ha X W ok tk) (pe_glob (v := .ref A) (show X.env.scope.names.lookup x = some .globalImplicit by rw [ok.sc]; exact hg) (by rw [ok.mg]; exact hm) rfl hd) rfl) fun σ H Q h => ?_
  obtain ⟨F, ra, fp, ρ, st, o, h⟩ := cdin_read hk h.toV
  refine ⟨F, ra, fp, ρ, st, o, h.mono fun v H1 q => ?_⟩
  obtain ⟨z, r, e, hn, q⟩ := q
  exact ⟨z, r, e, rfl, by rw [ok.K]; exact hn, q⟩
theorem ixr_cd {X : Cx} {d : Addr} {es : Array DictEntry} {n : Nat} (D : KDict X.K X.w d es n) : IxR X (fun x y H Q => ∃ (z : Str) (u0 : Value) (v0 : V), x = .ref d ∧ y = .str z ∧ PySem.W.nsIn X.K d z = some (some u0) ∧ RelV v0 u0 ∧ Q v0 H) := by
  intro value slice pins s σ H x y v u Q I rx ry h hs
  have h0 := h
  obtain ⟨z, u0, v0, rfl, rfl, _⟩ := h0
  obtain rfl : v = Value.ref d := rx
  exact tail_any (kd_type D I) PySem.F.slot_dict_getitem.lookup (op_item_kd D pins s σ H (.ref d) _ _ u Q I (show RelV (V.ref d) (Value.ref d) from rfl) ry h) hs
theorem se_cdix {b : Expr} {fb : Slots → Store → Res D} (hb : SE G N sc b fb) (hc : CdOk G x kvs) (hg : sc.names.lookup x = some .globalImplicit) (hd : (x == ("__debug__" : Str)) = false) (hs : PlainIx b) :
    SE G N sc (.Subscript (.Name x p) b pos) (fun ρ st => (fb ρ st).bind fun d st => Mn.lift (cdIx (some kvs) d) st) := fun X W ok tk => by
  obtain ⟨A, es, n, hm, hD, hk⟩ := hc
  have hD' : KDict X.K X.w A es n := by rw [ok.K, ok.w]; exact hD
  refine PE.imp (pe_ix (ixr_cd hD') (pe_glob (v := .ref A) (show X.env.scope.names.lookup x = some .globalImplicit by rw [ok.sc]; exact hg) (by rw [ok.mg]; exact hm) rfl hd) (hb X W ok tk) hs) fun σ H Q ⟨F, ra, fp, ρ, st, o, h⟩ => ?_
  refine ⟨F, ra, fp, ρ, st, o, h.bind o fun d st1 v F1 H1 ra1 fp1 e1 f1 p1 o1 r1 h1 => ?_⟩
  obtain ⟨d', e, q⟩ := Aft.lift h1 o1
  unfold cdIx at e
  split at e
  · rename_i kvs' z q0
    cases q0
    cases rpS r1
    have := hk z
    rw [e] at this
    obtain ⟨u, w, n1, n2, n3⟩ := this
    exact ⟨z, u, w, rfl, rfl, by rw [ok.K]; exact n1, n2, q.here o1.ex (n3 _ _)⟩
  · cases e
end
structure TOk (G : Gm) (Γ : Ctx) (T : Tb) : Prop where
  fn : ∀ x n, T.fns.lookup x = some n → FnHyp G x n (fun st xs => Γ.call x st xs)
  glo : ∀ x ∈ T.glos, ∀ y, Γ.glo x = some y → ∃ u v, G.mg x = some u ∧ RelV v u ∧ ∀ F ra, Rp G.K F ra v y
  free : ∀ x ∈ T.free, G.mg x = none
  cd : ∀ x ∈ T.cds, ∃ kvs, Γ.cd x = some kvs ∧ CdOk G x kvs
section
variable {G : Gm} {Γ : Ctx} {T : Tb} {N : List Str} {sc : Scope} {f : Expr → Option E} {e : Expr} {i : E} {es : List Expr} {is : List E}
theorem SE.cg {g h : Slots → Store → Res D} (q : SE G N sc e h) (k : ∀ ρ st, g ρ st = h ρ st) : SE G N sc e g := by
  have : g = h := funext fun ρ => funext fun st => k ρ st
  subst this; exact q
theorem ST.cg {g h : Slots → Store → Res D} (q : ST G N sc e h) (k : ∀ ρ st, g ρ st = h ρ st) : ST G N sc e g := by
  have : g = h := funext fun ρ => funext fun st => k ρ st
  subst this; exact q
theorem SI.cg {tg : Expr} {g h : Slots → Store → Res (List D)} (q : SI G N sc tg e h) (k : ∀ ρ st, g ρ st = h ρ st) : SI G N sc tg e g := by
  have : g = h := funext fun ρ => funext fun st => k ρ st
  subst this; exact q
theorem SF.cg {g h : Slots → Store → Res (List D)} (q : SF G N sc e h) (k : ∀ ρ st, g ρ st = h ρ st) : SF G N sc e g := by
  have : g = h := funext fun ρ => funext fun st => k ρ st
  subst this; exact q
theorem SA.cg {g h : Slots → Store → Res (List D)} (q : SA G N sc es h) (k : ∀ ρ st, g ρ st = h ρ st) : SA G N sc es g := by
  have : g = h := funext fun ρ => funext fun st => k ρ st
  subst this; exact q
theorem bind_assoc {α β γ : Type} (r : Res α) (f : α → Store → Res β) (g : β → Store → Res γ) : (r.bind f).bind g = r.bind fun a st => (f a st).bind g := by
  cases r <;> rfl
theorem ok_bind {α : Type} (r : Res α) : (r.bind fun a st => .ok a st) = r := by cases r <;> rfl
theorem evL_len : ∀ {is : List E} {ρ : Slots} {st st' : Store} {xs : List D}, evL Γ is ρ st = .ok xs st' → xs.length = is.length
  | [], ρ, st, st', xs, h => by simp only [evL] at h; cases h; rfl
  | i :: is, ρ, st, st', xs, h => by
    simp only [evL] at h
    cases e1 : ev Γ i ρ st with
    | ok x st1 =>
      rw [e1] at h
      simp only [bind_ok] at h
      cases e2 : evL Γ is ρ st1 with
      | ok ys st2 =>
        rw [e2] at h
        simp only [bind_ok] at h
        cases h
        simp [evL_len e2]
      | ex _ _ => rw [e2] at h; cases h
      | bad => rw [e2] at h; cases h
    | ex _ _ => rw [e1] at h; cases h
    | bad => rw [e1] at h; cases h
theorem mapO_len {α β : Type} {f : α → Option β} : ∀ {as : List α} {bs : List β}, mapO f as = some bs → bs.length = as.length
  | [], bs, h => by cases h; rfl
  | a :: as, bs, h => by
    unfold mapO at h
    simp only [Option.bind_eq_some_iff, Option.map_eq_some_iff] at h
    obtain ⟨b, h1, bs', h2, rfl⟩ := h
    simp [mapO_len h2]
theorem mapO_ok (hf : ∀ e i, f e = some i → SE G N sc e (ev Γ i)) : ∀ {es : List Expr} {is : List E}, mapO f es = some is → es.all noStar = true → SA G N sc es (evL Γ is)
  | [], is, h, _ => by
    cases h
    exact SA.cg sa_nil fun ρ st => by simp only [evL]
  | e :: es, is, h, hn => by
    unfold mapO at h
    simp only [Option.bind_eq_some_iff, Option.map_eq_some_iff] at h
    obtain ⟨i, h1, js, h2, rfl⟩ := h
    rw [List.all_cons, Bool.and_eq_true] at hn
    exact SA.cg (sa_cons (hf _ _ h1) (mapO_ok hf h2 hn.2) hn.1) fun ρ st => by simp only [evL]
theorem const_ok {c : Const} {k : Nat} {p : Pos} (h : cConst c = some i) : SE G N sc (.Constant c k p) (ev Γ i) := by
  cases c <;> first
    | (cases h; exact SE.cg se_int fun ρ st => by simp only [ev])
    | (cases h; exact SE.cg se_str fun ρ st => by simp only [ev])
    | (cases h; exact SE.cg se_bl fun ρ st => by simp only [ev])
    | (cases h; exact SE.cg se_non fun ρ st => by simp only [ev])
    | cases h
theorem name_ok (t : TOk G Γ T) {x : Str} {p : Pos} (h : cName T N sc x = some i) : SE G N sc (.Name x p) (ev Γ i) := by
  unfold cName at h
  split at h
  · rename_i hx
    obtain ⟨h1, h2⟩ := okName_of hx
    split at h
    · rename_i hv
      simp only [Option.map_eq_some_iff] at h
      obtain ⟨j, hj, rfl⟩ := h
      exact SE.cg (se_var (ixOf_get hj) (vis_of hv) h1 h2) fun ρ st => by simp only [ev]; try rfl
    · split at h
      · rename_i hg
        cases h
        exact SE.cg (se_glo (d := Γ.glo x) (glo_of hg.1) h1 (t.glo x hg.2)) fun ρ st => by first | (simp only [ev]; done) | (simp only [ev]; rfl)
      · cases h
  · cases h
/-- all that a test may be -/
def plainT : Expr → Bool
  | .UnaryOp .Not _ _ => false
  | .BoolOp .. => false
  | .IfExp .. => false
  | .Compare .. => false
  | _ => true
theorem plainT_ok (h : plainT e = true) (env : Env) (whole : Sem Value) : isTrue e env whole = (do let v ← whole; standAt e.pos; holding [v] (truthy v)) := by
  cases e with
  | UnaryOp op a p => cases op <;> first | rfl | cases h
  | BoolOp _ _ _ => cases h
  | IfExp _ _ _ _ => cases h
  | Compare _ _ _ _ => cases h
  | _ => rfl
theorem bo_se {op : BoolOp} {p : Pos} (hs : ∀ e i, f e = some i → SE G N sc e (ev Γ i)) (ht : ∀ e i, f e = some i → ST G N sc e (ev Γ i)) : ∀ {es : List Expr} {i : E}, cBO f op es = some i → SE G N sc (.BoolOp op es p) (ev Γ i)
  | [], i, h => by cases h
  | [a], i, h => se_one (hs a i h)
  | a :: b :: es, i, h => by
    unfold cBO at h
    simp only [Option.bind_eq_some_iff, Option.map_eq_some_iff] at h
    obtain ⟨j, h1, k, h2, rfl⟩ := h
    cases op with
    | And => exact SE.cg (se_and (hs _ _ h1) (bo_se hs ht h2)) fun ρ st => by first | (simp only [ev]; done) | (simp only [ev]; rfl)
    | Or => exact SE.cg (se_or (hs _ _ h1) (bo_se hs ht h2)) fun ρ st => by first | (simp only [ev]; done) | (simp only [ev]; rfl)
theorem SW.cg {g h : Slots → Store → Res D} (q : SW G N sc e h) (k : ∀ ρ st, g ρ st = h ρ st) : SW G N sc e g := by
  have : g = h := funext fun ρ => funext fun st => k ρ st
  subst this; exact q
theorem bo_sw {op : BoolOp} {p : Pos} (ht : ∀ e i, f e = some i → ST G N sc e (ev Γ i)) : ∀ {es : List Expr} {i : E}, cBO f op es = some i → SW G N sc (.BoolOp op es p) (ev Γ i)
  | [], i, h => by cases h
  | [a], i, h => sw_1 (ht a i h)
  | a :: b :: es, i, h => by
    unfold cBO at h
    simp only [Option.bind_eq_some_iff, Option.map_eq_some_iff] at h
    obtain ⟨j, h1, k, h2, rfl⟩ := h
    cases op with
    | And => exact SW.cg (sw_and (ht _ _ h1) (bo_sw ht h2)) fun ρ st => by first | (simp only [ev]; done) | (simp only [ev]; rfl)
    | Or => exact SW.cg (sw_or (ht _ _ h1) (bo_sw ht h2)) fun ρ st => by first | (simp only [ev]; done) | (simp only [ev]; rfl)
theorem cmp_ok {a : Expr} {ops : List CmpOp} {bs : List Expr} {p : Pos} (hs : ∀ e i, f e = some i → SE G N sc e (ev Γ i)) (h : cCmp f a ops bs = some i) : SE G N sc (.Compare a ops bs p) (ev Γ i) ∧ ST G N sc (.Compare a ops bs p) (ev Γ i) := by
  unfold cCmp at h
  split at h
  · split at h
    · rename_i hm
      simp only [Option.bind_eq_some_iff, Option.some.injEq] at h
      obtain ⟨j, h1, k, h2, rfl⟩ := h
      exact ⟨SE.cg (se_cmp (hs _ _ h1) (hs _ _ h2) hm) fun ρ st => by simp only [ev], ST.cg (st_cmp (hs _ _ h1) (hs _ _ h2) hm) fun ρ st => by simp only [ev]⟩
    · cases h
  · split at h
    · rename_i hm
      simp only [Option.bind_eq_some_iff, Option.some.injEq] at h
      obtain ⟨j, h1, k, h2, l, h3, rfl⟩ := h
      exact ⟨SE.cg (se_chain (hs _ _ h1) (hs _ _ h2) (hs _ _ h3) hm) fun ρ st => by simp only [ev]; try rfl, ST.cg (st_chain (hs _ _ h1) (hs _ _ h2) (hs _ _ h3) hm) fun ρ st => by simp only [ev]; try rfl⟩
    · cases h
  · cases h
theorem cdName_ok {b : Expr} {x : Str} (h : cdName T sc b = some x) : ∃ p, b = .Name x p ∧ (x == ("__debug__" : Str)) = false ∧ sc.names.lookup x = some .globalImplicit ∧ x ∈ T.cds := by
  unfold cdName at h
  split at h
  · split at h
    · rename_i hq
      cases h
      exact ⟨_, rfl, (okName_of hq.1).1, glo_of hq.2.1, hq.2.2⟩
    · cases h
  · cases h
theorem cmpA_ok (t : TOk G Γ T) {a : Expr} {ops : List CmpOp} {bs : List Expr} {p : Pos} (hs : ∀ e i, f e = some i → SE G N sc e (ev Γ i)) (h : (match cCmpD T sc f a ops bs with | some i => some i | none => cCmp f a ops bs) = some i) :
    SE G N sc (.Compare a ops bs p) (ev Γ i) ∧ ST G N sc (.Compare a ops bs p) (ev Γ i) := by
  split at h
  · rename_i j hj
    cases h
    unfold cCmpD at hj
    split at hj
    · simp only [Option.bind_eq_some_iff, Option.map_eq_some_iff] at hj
      obtain ⟨x, hx, k, hk, rfl⟩ := hj
      obtain ⟨p', rfl, h1, h2, h3⟩ := cdName_ok hx
      obtain ⟨kvs, k1, k2⟩ := t.cd x h3
      exact ⟨SE.cg (se_cdin (hs _ _ hk) k2 h2 h1) fun ρ st => by simp only [ev, k1], ST.cg (st_cdin (hs _ _ hk) k2 h2 h1) fun ρ st => by simp only [ev, k1]⟩
    · simp only [Option.bind_eq_some_iff, Option.map_eq_some_iff] at hj
      obtain ⟨x, hx, k, hk, rfl⟩ := hj
      obtain ⟨p', rfl, h1, h2, h3⟩ := cdName_ok hx
      obtain ⟨kvs, k1, k2⟩ := t.cd x h3
      exact ⟨SE.cg (se_cdnin (hs _ _ hk) k2 h2 h1) fun ρ st => by simp only [ev, k1], ST.cg (st_cdnin (hs _ _ hk) k2 h2 h1) fun ρ st => by simp only [ev, k1]⟩
    · cases hj
  · exact cmp_ok hs h
theorem lastStar_ok (hs : ∀ e i, f e = some i → SE G N sc e (ev Γ i)) : ∀ {es es' : List Expr} {e : Expr} {is : List E} {i : E}, lastStar es = some (es', e) → mapO f es' = some is → f e = some i →
    SA G N sc es (fun ρ st => (evL Γ is ρ st).bind fun xs st => (asL (ev Γ i ρ st)).bind fun ys st => .ok (xs ++ ys) st)
  | [], es', e, is, i, h, _, _ => by cases h
  | a :: as, es', e, is, i, h, hm, he => by
    unfold lastStar at h
    split at h
    · rename_i q; cases q
    · rename_i q
      cases q
      cases h
      cases hm
      exact SA.cg (sa_star (hs _ _ he)) fun ρ st => by simp only [evL, bind_ok, List.nil_append]; rw [ok_bind]
    · rename_i q1 q
      cases q
      split at h
      · rename_i hn
        simp only [Option.map_eq_some_iff] at h
        obtain ⟨⟨es2, e2⟩, h1, h2⟩ := h
        cases h2
        unfold mapO at hm
        simp only [Option.bind_eq_some_iff, Option.map_eq_some_iff] at hm
        obtain ⟨j, hj, js, hjs, rfl⟩ := hm
        refine SA.cg (sa_cons (hs _ _ hj) (lastStar_ok hs h1 hjs he) hn) fun ρ st => ?_
        simp only [evL, bind_assoc, bind_ok, List.cons_append]
      · cases h
theorem tup_ok {k : Nat} {p : Pos} (hs : ∀ e i, f e = some i → SE G N sc e (ev Γ i)) (h : cTup f es = some i) : SE G N sc (.Tuple es k p) (ev Γ i) := by
  unfold cTup at h
  split at h
  · rename_i hn
    simp only [Option.map_eq_some_iff] at h
    obtain ⟨is, h1, rfl⟩ := h
    exact SE.cg (se_tup (mapO_ok hs h1 hn)) fun ρ st => by first | (simp only [ev]; done) | (simp only [ev]; rfl)
  · split at h
    · rename_i es' e' hl
      simp only [Option.bind_eq_some_iff, Option.map_eq_some_iff] at h
      obtain ⟨is, h1, j, h2, rfl⟩ := h
      refine SE.cg (se_tup (lastStar_ok hs hl h1 h2)) fun ρ st => ?_
      simp only [ev, bind_assoc, bind_ok, List.length_append]
    · cases h
theorem sub_ok {a b : Expr} {p : Pos} (hs : ∀ e i, f e = some i → SE G N sc e (ev Γ i)) (h : cSub f a b = some i) : SE G N sc (.Subscript a b p) (ev Γ i) := by
  unfold cSub at h
  split at h
  · simp only [Option.bind_eq_some_iff, Option.map_eq_some_iff] at h
    obtain ⟨j, h1, k, h2, rfl⟩ := h
    exact SE.cg (se_slcL (hs _ _ h1) (hs _ _ h2)) fun ρ st => by first | (simp only [ev]; done) | (simp only [ev]; rfl)
  · simp only [Option.bind_eq_some_iff, Option.map_eq_some_iff] at h
    obtain ⟨j, h1, k, h2, rfl⟩ := h
    exact SE.cg (se_slcH (hs _ _ h1) (hs _ _ h2)) fun ρ st => by first | (simp only [ev]; done) | (simp only [ev]; rfl)
  · simp only [Option.bind_eq_some_iff, Option.map_eq_some_iff] at h
    obtain ⟨j, h1, k, h2, l, h3, rfl⟩ := h
    exact SE.cg (se_slcB (hs _ _ h1) (hs _ _ h2) (hs _ _ h3)) fun ρ st => by first | (simp only [ev]; done) | (simp only [ev]; rfl)
  · split at h
    · rename_i hb
      simp only [Option.bind_eq_some_iff, Option.map_eq_some_iff] at h
      obtain ⟨j, h1, k, h2, rfl⟩ := h
      refine SE.cg (se_ix (hs _ _ h1) (hs _ _ h2) ?_) fun ρ st => by first | (simp only [ev]; done) | (simp only [ev]; rfl)
      intro o i
      cases b <;> first | rfl | cases hb
    · cases h
theorem btOf_ok {x : Str} {b : Bt} (h : btOf x = some b) : btIs b = false ∧ bootBuiltins x = some (btV b) ∧ x ≠ "__name__" := by
  unfold btOf at h
  repeat (split at h; (rename_i q; subst q; cases h; exact ⟨rfl, by decide +kernel, by decide +kernel⟩))
  cases h
theorem isOf_ok {x : Str} {b : Bt} (h : isOf x = some b) : btIs b = true ∧ bootBuiltins x = some (.type (isTy b)) ∧ x ≠ "__name__" ∧ (x == ("__debug__" : Str)) = false := by
  unfold isOf at h
  repeat (split at h; (rename_i q; subst q; cases h; exact ⟨rfl, by decide +kernel, by decide +kernel, by decide +kernel⟩))
  cases h
theorem callN_ok (t : TOk G Γ T) {x : Str} {args : List Expr} {p pos : Pos} (hs : ∀ e i, f e = some i → SE G N sc e (ev Γ i)) (h : cCallN T f sc x args = some i) : SE G N sc (.Call (.Name x p) args [] pos) (ev Γ i) := by
  unfold cCallN at h
  split at h
  · rename_i hc
    obtain ⟨hx, hg, hne, hn⟩ := hc
    obtain ⟨h1, h2⟩ := okName_of hx
    have hg := glo_of hg
    cases args with
    | nil => exact absurd rfl hne
    | cons e es =>
    split at h
    · rename_i n hf
      split at h
      · rename_i hl
        simp only [Option.map_eq_some_iff] at h
        obtain ⟨is, hm, rfl⟩ := h
        refine SE.cg (se_call (t.fn x n hf) hg h1 (mapO_ok hs hm hn) hl hn fun ρ st xs st' q => ?_) fun ρ st => by first | (simp only [ev]; done) | (simp only [ev]; rfl)
        rw [evL_len q, mapO_len hm]; exact hl
      · cases h
    · split at h
      · rename_i hfr
        split at h
        · rename_i q
          subst q
          split at h
          · rename_i e' y py q
            cases q
            split at h
            · rename_i hy
              simp only [Option.bind_eq_some_iff, Option.map_eq_some_iff] at h
              obtain ⟨b, hb, j, hj, rfl⟩ := h
              obtain ⟨b1, b2, b3, b4⟩ := isOf_ok hb
              have hn' : noStar e = true := by
                rw [List.all_cons, Bool.and_eq_true] at hn; exact hn.1
              exact SE.cg (se_isi b1 hg (t.free _ hfr) b2 (glo_of hy.1) (t.free _ hy.2) b3 b4 (hs _ _ hj) hn') fun ρ st => by simp only [ev, evL, bind_assoc, bind_ok]
            · cases h
          · cases h
        · simp only [Option.bind_eq_some_iff, Option.map_eq_some_iff] at h
          obtain ⟨b, hb, is, hm, rfl⟩ := h
          obtain ⟨b1, b2, b3⟩ := btOf_ok hb
          exact SE.cg (se_blt b1 hg (t.free _ hfr) b2 b3 h1 (mapO_ok hs hm hn) hn) fun ρ st => by first | (simp only [ev]; done) | (simp only [ev]; rfl)
      · cases h
  · cases h
theorem smOf_ok {x : Str} {m : Sm} (h : smOf x = some m) : (m ≠ .replace ∧ m ≠ .replace3 ∧ m ≠ .upper) ∧ x = smName m := by
  unfold smOf at h
  repeat (split at h; (rename_i q; subst q; cases h; exact ⟨by decide, rfl⟩))
  cases h
theorem callM_ok {o : Expr} {m : Str} {ap pos : Pos} {args : List Expr} (hs : ∀ e i, f e = some i → SE G N sc e (ev Γ i)) (h : cCallM f o m ap args pos = some i) : SE G N sc (.Call (.Attribute o m ap) args [] pos) (ev Γ i) := by
  unfold cCallM at h
  split at h
  · rename_i hc
    split at h
    · split at h
      · rename_i q
        subst q
        simp only [Option.map_eq_some_iff] at h
        obtain ⟨j, hj, rfl⟩ := h
        exact SE.cg (se_upper (hs _ _ hj) hc.1 hc.2) fun ρ st => by simp only [ev, evL, bind_ok]; try rfl
      · cases h
    · rename_i hne
      split at h
      · rename_i hn
        simp only [Option.bind_eq_some_iff, Option.map_eq_some_iff] at h
        obtain ⟨s, h1, j, hj, is, hm, rfl⟩ := h
        obtain ⟨s1, s2⟩ := smOf_ok h1
        subst s2
        cases args with
        | nil => exact absurd rfl (hne)
        | cons e es =>
        exact SE.cg (se_sm s1 (hs _ _ hj) (mapO_ok hs hm hn.1) hn.1 hc.1 hn.2 hc.2) fun ρ st => by first | (simp only [ev]; done) | (simp only [ev]; rfl)
      · cases h
  · cases h
/-! ### what a loop walks -/
theorem asIt_ok {r : Res (List D)} : asIt (r.bind fun xs st => .ok (.lst xs) st) = r := by
  unfold asIt
  cases r <;> rfl
theorem it_ok (t : TOk G Γ T) {tg : Expr} {tup : Bool} (htg : tup = true → isTupE tg = true) (hs : ∀ e i, f e = some i → SE G N sc e (ev Γ i)) (h : cIt T f sc tup e = some i) : SI G N sc tg e (fun ρ st => asIt (ev Γ i ρ st)) := by
  unfold cIt at h
  split at h
  · rename_i x p args q
    split at h
    · rename_i hx
      subst hx
      split at h
      · rename_i hg
        split at h
        · split at h
          · rename_i hn
            simp only [Option.map_eq_some_iff] at h
            obtain ⟨j, hj, rfl⟩ := h
            refine SI.cg (si_rng1 (hs _ _ hj) (glo_of hg.1) (t.free _ hg.2) hn) fun ρ st => ?_
            simp only [ev]
            cases ev Γ j ρ st with
            | ok d st' =>
              simp only [bind_ok]
              cases d with
              | int k =>
                simp only
                split
                · rfl
                · rfl
              | _ => rfl
            | ex _ _ => rfl
            | bad => rfl
          · cases h
        · split at h
          · rename_i hn
            simp only [Option.bind_eq_some_iff, Option.map_eq_some_iff] at h
            obtain ⟨j, hj, k, hk, rfl⟩ := h
            refine SI.cg (si_rng2 (hs _ _ hj) (hs _ _ hk) (glo_of hg.1) (t.free _ hg.2) hn.1 hn.2) fun ρ st => ?_
            simp only [ev]
            cases ev Γ j ρ st with
            | ok d st' =>
              simp only [bind_ok]
              cases ev Γ k ρ st' with
              | ok d2 st2 =>
                simp only [bind_ok]
                cases d with
                | int _ =>
                  cases d2 with
                  | int _ =>
                    simp only
                    split
                    · rfl
                    · rfl
                  | _ => rfl
                | _ => rfl
              | ex _ _ => rfl
              | bad => rfl
            | ex _ _ => rfl
            | bad => rfl
          · cases h
        · cases h
      · cases h
    · split at h
      · rename_i hx
        subst hx
        split at h
        · rename_i hg
          split at h
          · split at h
            · rename_i hn
              simp only [Option.bind_eq_some_iff, Option.map_eq_some_iff] at h
              obtain ⟨j, hj, k, hk, rfl⟩ := h
              have ht := htg hg.2.2
              cases tg <;> first | cases ht | skip
              refine SI.cg (si_zip (hs _ _ hj) (hs _ _ hk) (glo_of hg.1) (t.free _ hg.2.1) hn.1 hn.2) fun ρ st => ?_
              simp only [ev]
              cases ev Γ j ρ st with
              | ok d st' =>
                simp only [bind_ok]
                cases ev Γ k ρ st' with
                | ok d2 st2 =>
                  simp only [bind_ok]
                  exact asIt_ok
                | ex _ _ => rfl
                | bad => rfl
              | ex _ _ => rfl
              | bad => rfl
            · cases h
          · cases h
        · cases h
      · exact si_any (hs _ _ h)
  · exact si_any (hs _ _ h)
theorem foldedSet_ok (h : notSet e = true) (env : Env) (x : Value) : foldedSetIterable e env x = pure x := by
  cases e <;> first | rfl | cases h
theorem relS_keep {scope sc : Scope} {x : Str} {k : NameKind} (hk : k ≠ .free) (h : scope.names.lookup x = some k) : (relS scope sc).names.lookup x = some k := by
  show (scope.names.map _).lookup x = some k
  generalize scope.names = l at h ⊢
  induction l with
  | nil => cases h
  | cons y r ih =>
    obtain ⟨n, k'⟩ := y
    rw [List.map_cons]
    by_cases hx : (x == n) = true
    · have e : k' = k := by
        rw [List.lookup_cons, hx] at h
        exact Option.some.inj h
      subst e
      have hf : (k' == NameKind.free) = false := by
        cases k' <;> first | rfl | exact absurd rfl hk
      simp only [hf, Bool.false_and, Bool.false_eq_true, if_false, List.lookup_cons, hx]
    · have hx : (x == n) = false := by simpa using hx
      rw [List.lookup_cons, hx] at h
      have := ih h
      dsimp only at this ⊢
      split
      · rw [List.lookup_cons, hx]; exact this
      · rw [List.lookup_cons, hx]; exact this
theorem namesOf_pgs {X : Cx} : ∀ {es : List Expr} {xs : List Str} {tgs : List Nat}, namesOf es = some xs → mapO (fun x => ixOf x N) xs = some tgs → (∀ x i p, x ∈ xs → ixOf x N = some i → PG X (.Name x p) (gName i)) →
    PGs X es (gNames tgs) ∧ (assignEach es X.env).length = tgs.length ∧ (assignEach es X.env).findIdx? (·.1) = none
  | [], xs, tgs, h, hm, _ => by
    cases h; cases hm
    exact ⟨pgs_nil, rfl, rfl⟩
  | e :: es, xs, tgs, h, hm, hp => by
    unfold namesOf at h
    split at h
    · rename_i q; cases q
    · rename_i x p es' q
      cases q
      simp only [Option.map_eq_some_iff] at h
      obtain ⟨ys, hy, rfl⟩ := h
      unfold mapO at hm
      simp only [Option.bind_eq_some_iff, Option.map_eq_some_iff] at hm
      obtain ⟨i, hi, is, his, rfl⟩ := hm
      obtain ⟨h1, h2, h3⟩ := namesOf_pgs (tgs := is) (xs := ys) (X := X) hy his fun z i p hz => hp z i p (List.mem_cons_of_mem _ hz)
      refine ⟨pgs_cons (hp x i p List.mem_cons_self hi) h1 rfl, by show (assignEach es X.env).length + 1 = is.length + 1; rw [h2], ?_⟩
      show ((false, assign (.Name x p) X.env) :: assignEach es X.env).findIdx? (·.1) = none
      rw [List.findIdx?_cons, h3]
      rfl
    · cases h
/-- a target, in a block -/
theorem tg_blk {scope : Scope} {tg : Expr} {tgs : List Nat} (h : cTg N scope tg = some tgs) : ∃ g, SG G N sc scope tg g ∧ GPut G.K g tgs := by
  have one : ∀ x i p, locB scope x = true → ixOf x N = some i → SG G N sc scope (.Name x p) (gName i) := fun x i p hx hi X ok s H C cl fp => by
    have hl := loc_of hx
    have hb : Loc (relS scope sc) x := by
      rcases hl with q | q
      · exact .inl (relS_keep (by simp) q)
      · exact .inr (relS_keep (by simp) q)
    have hb' : Loc (X.blk s H scope (compEnvC scope cl C X.env) fp).env.scope x := by
      rw [(ok.blk s H C cl fp).sc]; exact hb
    refine pg_name (by show X.N.Nodup; rw [ok.names]; exact ok.nd) (by show X.N[i]? = _; rw [ok.names]; exact ixOf_get hi) hb' ?_
    rcases hl with q | q
    · right
      rw [(ok.blk s H C cl fp).sc]
      exact relS_keep (by simp) q
    · left
      show (scope.names.lookup x == some .cell) = true
      rw [q]; rfl
  unfold cTg at h
  split at h
  · split at h
    · rename_i hx
      simp only [Option.map_eq_some_iff] at h
      obtain ⟨i, hi, rfl⟩ := h
      exact ⟨_, one _ _ _ hx hi, gput_name⟩
    · cases h
  · rename_i es k p
    simp only [Option.bind_eq_some_iff] at h
    obtain ⟨xs, hxs, h⟩ := h
    split at h
    · rename_i hq
      obtain ⟨hall, h2⟩ := hq
      have hl := mapO_len h
      refine ⟨gTup G.K tgs.length (gNames tgs), fun X ok s H C cl fp => ?_, ?_⟩
      · obtain ⟨q1, q2, q3⟩ := namesOf_pgs (X := X.blk s H scope (compEnvC scope cl C X.env) fp) (xs := xs) hxs h fun x i p hx hi => one x i p (List.all_eq_true.mp hall x hx) hi X ok s H C cl fp
        have e : G.K = X.K := ok.K.symm
        rw [e]
        exact pg_tup (X := X.blk s H scope (compEnvC scope cl C X.env) fp) (show X.calm = true from ok.calm) q1 q2 q3
      · cases tgs with
        | nil => simp at hl; omega
        | cons a r => cases r with
          | nil => simp at hl; omega
          | cons b r => exact gput_tup
    · cases h
  · cases h
/-- .. in the def -/
theorem tg_def {tg : Expr} {tgs : List Nat} (h : cTg N sc tg = some tgs) : ∃ g, SGs G N sc tg g ∧ GPut G.K g tgs := by
  have one : ∀ x i p, locB sc x = true → ixOf x N = some i → SGs G N sc (.Name x p) (gName i) := fun x i p hx hi => sgs_name (ixOf_get hi) (loc_of hx)
  unfold cTg at h
  split at h
  · split at h
    · rename_i hx
      simp only [Option.map_eq_some_iff] at h
      obtain ⟨i, hi, rfl⟩ := h
      exact ⟨_, one _ _ _ hx hi, gput_name⟩
    · cases h
  · rename_i es k p
    simp only [Option.bind_eq_some_iff] at h
    obtain ⟨xs, hxs, h⟩ := h
    split at h
    · rename_i hq
      obtain ⟨hall, h2⟩ := hq
      have hl := mapO_len h
      refine ⟨gTup G.K tgs.length (gNames tgs), fun X ok => ?_, ?_⟩
      · obtain ⟨q1, q2, q3⟩ := namesOf_pgs (X := X) (xs := xs) hxs h fun x i p hx hi => one x i p (List.all_eq_true.mp hall x hx) hi X ok
        have e : G.K = X.K := ok.ok.K.symm
        rw [e]
        exact pg_tup ok.ok.calm q1 q2 q3
      · cases tgs with
        | nil => simp at hl; omega
        | cons a r => cases r with
          | nil => simp at hl; omega
          | cons b r => exact gput_tup
    · cases h
  · cases h
theorem ownOf_ok {scope : Scope} : True := trivial
/-- a comprehension, its list new -/
theorem lc_ok (t : TOk G Γ T) {n : Nat} {el tg it : Expr} {ifs : List Expr} {scope : Scope} {pos : Pos} {tgs : List Nat} {j c k : E} (ih : ∀ sc e i, cE T N n sc e = some i → SE G N sc e (ev Γ i)) (iht : ∀ sc e i, tst (cE T N n sc) e = some i → ST G N sc e (ev Γ i))
    (hb : blkC N sc scope (ownOf N scope) = true) (hns : notSet it = true) (htg : cTg N scope tg = some tgs) (hto : tgs.all (fun t => decide (t ∈ (ownOf N scope).map (·.2))) = true) (hi : cIt T (cE T N n sc) sc (isTupE tg) it = some j)
    (hc : cIfs (cE T N n (relS scope sc)) ifs = some c) (he : cE T N n (relS scope sc) el = some k) :
    SF G N sc (.ListComp el [⟨tg, it, ifs, 0⟩] scope pos) (fun ρ st => (asIt (ev Γ j ρ st)).bind fun xs st => lcGo (lcStep (ev Γ c) (ev Γ k) tgs ((ownOf N scope).map (·.2)) ρ) xs [] st) := by
  obtain ⟨g, hg, gp⟩ := tg_blk (G := G) (sc := sc) htg
  have hts : STs G N (relS scope sc) ifs (ev Γ c) := by
    unfold cIfs at hc
    split at hc
    · cases hc
      intro X W ok tk
      have := sts_nil (G := G) (N := N) (sc := relS scope sc) X W ok tk
      refine PTs.imp this fun σ H Q ⟨F, ra, fp, ρ, st, o, h⟩ => ⟨F, ra, fp, ρ, st, o, ?_⟩
      simpa only [ev] using h
    · exact sts_one (iht _ _ _ hc)
    · cases hc
  exact sf_lc (it_ok t (fun q => q) (ih sc) hi) hg gp (fun t ht => by simpa using List.all_eq_true.mp hto t ht) hts (ih _ _ _ he) hb fun env x => foldedSet_ok hns env x
theorem cE_ok (t : TOk G Γ T) : ∀ n : Nat, (∀ sc e i, cE T N n sc e = some i → SE G N sc e (ev Γ i)) ∧ ∀ sc e i, tst (cE T N n sc) e = some i → ST G N sc e (ev Γ i)
  | 0 => ⟨fun _ _ _ h => (nomatch h), fun _ e _ h => by
      unfold tst at h
      split at h <;> cases h⟩
  | n + 1 => by
    obtain ⟨ih, iht⟩ := cE_ok t n
    have ihs : ∀ sc e i, tst (cE T N n sc) e = some i → SE G N sc e (ev Γ i) := fun sc e i h => by
      unfold tst at h
      split at h
      · cases h
      · exact ih sc e i h
    have main : ∀ sc e i, cE T N (n + 1) sc e = some i → SE G N sc e (ev Γ i) := fun sc e i h => by
      unfold cE at h
      split at h
      · exact const_ok h
      · exact name_ok t h
      · simp only [Option.bind_eq_some_iff, Option.some.injEq] at h
        obtain ⟨j, h1, k, h2, rfl⟩ := h
        exact SE.cg (se_bin (ih _ _ _ h1) (ih _ _ _ h2)) fun ρ st => by simp only [ev]
      · simp only [Option.map_eq_some_iff] at h
        obtain ⟨j, h1, rfl⟩ := h
        exact SE.cg (se_neg (ih _ _ _ h1)) fun ρ st => by simp only [ev]; try rfl
      · simp only [Option.map_eq_some_iff] at h
        obtain ⟨j, h1, rfl⟩ := h
        exact SE.cg (se_not (ihs _ _ _ h1)) fun ρ st => by simp only [ev]
      · simp only [Option.bind_eq_some_iff, Option.map_eq_some_iff] at h
        obtain ⟨j, h1, k, h2, l, h3, rfl⟩ := h
        exact SE.cg (se_ite (iht _ _ _ h1) (ih _ _ _ h2) (ih _ _ _ h3)) fun ρ st => by simp only [ev]; try rfl
      · exact bo_se (ihs sc) (iht sc) h
      · exact (cmpA_ok t (ih sc) h).1
      · exact tup_ok (ih sc) h
      · split at h
        · rename_i hn
          simp only [Option.map_eq_some_iff] at h
          obtain ⟨is, h1, rfl⟩ := h
          exact SE.cg (se_lst (mapO_ok (ih sc) h1 hn)) fun ρ st => by simp only [ev]
        · cases h
      · split at h
        · rename_i x hx
          obtain ⟨p', e', h1, h2, h3⟩ := cdName_ok hx
          cases e'
          split at h
          · rename_i hb
            simp only [Option.map_eq_some_iff] at h
            obtain ⟨j, hj, rfl⟩ := h
            obtain ⟨kvs, k1, k2⟩ := t.cd x h3
            refine SE.cg (se_cdix (ih _ _ _ hj) k2 h2 h1 ?_) fun ρ st => by simp only [ev, k1]
            rename_i b _ _
            intro o i
            cases b <;> first | rfl | cases hb
          · cases h
        · exact sub_ok (ih sc) h
      · exact callN_ok t (ih sc) h
      · exact callM_ok (ih sc) h
      · split at h
        · rename_i hb
          simp only [Option.bind_eq_some_iff] at h
          obtain ⟨tgs, h1, h⟩ := h
          split at h
          · rename_i hto
            simp only [Option.bind_eq_some_iff, Option.map_eq_some_iff] at h
            obtain ⟨j, hj, c, hc, k, hk, rfl⟩ := h
            refine SE.cg (SF.se (lc_ok t ih iht hb.1 hb.2 h1 hto hj hc hk)) fun ρ st => ?_
            simp only [ev, bind_assoc]
            rfl
          · cases h
        · cases h
      · cases h
    refine ⟨main, fun sc e i h => ?_⟩
    unfold tst at h
    split at h
    · cases h
    · rename_i hif
      by_cases hp : plainT e = true
      · exact st_val (main sc e i h) fun env whole => plainT_ok hp env whole
      · cases e <;> first | exact absurd rfl hp | exact absurd rfl hif | skip
        · exact st_w (bo_sw (iht sc) h)
        · rename_i op a p
          cases op <;> first | exact absurd rfl hp | skip
          simp only [cE, Option.map_eq_some_iff] at h
          obtain ⟨j, h1, rfl⟩ := h
          exact ST.cg (st_not (iht _ _ _ h1)) fun ρ st => by simp only [ev]
        · exact (cmpA_ok t (ih sc) (by simp only [cE] at h; exact h)).2
end
end Mn
end

section
set_option Elab.async false
set_option linter.all false
set_option maxRecDepth 100000
set_option maxHeartbeats 4000000
/-! MnN: the compiled statement does what the text does. -/
namespace Mn
open PySem PySem.Spec PyProof.Rows L2
/-- the slots that an expression reads as values -/
def vE : Nat → E → List Nat
  | 0, _ => []
  | n + 1, e => match e with
    | .var i => [i]
    | .bin _ a b => vE n a ++ vE n b
    | .neg a => vE n a
    | .cmp _ a b => vE n a ++ vE n b
    | .chn _ _ a b c => vE n a ++ vE n b ++ vE n c
    | .and a b => vE n a ++ vE n b
    | .or a b => vE n a ++ vE n b
    | .not a => vE n a
    | .ite c a b => vE n c ++ vE n a ++ vE n b
    | .tup es => es.flatMap (vE n)
    | .lst es => es.flatMap (vE n)
    | .tupS es e => es.flatMap (vE n) ++ vE n e
    | .ix a b => vE n a ++ vE n b
    | .slcL a b => vE n a ++ vE n b
    | .slcH a b => vE n a ++ vE n b
    | .slcB a b c => vE n a ++ vE n b ++ vE n c
    | .call _ es => es.flatMap (vE n)
    | .blt _ es => es.flatMap (vE n)
    | .sm _ a es => vE n a ++ es.flatMap (vE n)
    | .rng1 a => vE n a
    | .rng2 a b => vE n a ++ vE n b
    | .zip a b => vE n a ++ vE n b
    | .lc _ it c el _ => vE n it ++ vE n c ++ vE n el
    | _ => []
/-- own lists that are read as values are let be from here on -/
def wrapF (M : List Nat) (e : E) (s : S) : S := match (vE 40 e).filter (fun i => decide (i ∈ M)) with
  | [] => s
  | l => .frz l s
def FU : Nat := 60
def notTup : Expr → Bool
  | .Tuple .. => false
  | _ => true
/-- does a comprehension's store take the quick way -/
def lcB (sc scope : Scope) (x : Str) (l l' : Nat) : Bool := (if sc.kind.isAnnotationScope then ScopeKind.function else sc.kind) == .function && sc.names.lookup x == some .local && l == l' && !(scope.names.any fun (n, k) => n == x && (k == .local || k == .cell))
def cAsg (T : Tb) (N : List Str) (M : List Nat) (sc : Scope) (tg e : Expr) : Option S := match tg with
  | .Name x _ => if locB sc x = true then (ixOf x N).bind fun i => match e with
      | .ListComp el [⟨ctg, it, ifs, 0⟩] scope _ =>
        if blkC N sc scope (ownOf N scope) = true ∧ notSet it = true then
          (cTg N scope ctg).bind fun tgs => if tgs.all (fun t => decide (t ∈ (ownOf N scope).map (·.2))) = true then
            (cIt T (cE T N FU sc) sc (isTupE ctg) it).bind fun j => (cIfs (cE T N FU (relS scope sc)) ifs).bind fun c => (cE T N FU (relS scope sc) el).map fun k =>
              let l : E := .lc tgs j c k ((ownOf N scope).map (·.2))
              wrapF M l (if i ∈ M then .newl i l else .asg [i] l)
            else none
        else none
      | .List es _ => if es.all noStar = true then (mapO (cE T N FU sc) es).map fun is => wrapF M (.lst is) (if i ∈ M then .newl i (.lst is) else .asg [i] (.lst is)) else none
      | e => if i ∈ M then none else if notComp e = true then (cE T N FU sc e).map fun j => wrapF M j (.asg [i] j) else none
    else none
  | tg => if notTup e = true ∧ notComp e = true ∧ isTupE tg = true then (cTg N sc tg).bind fun tgs => (cE T N FU sc e).map fun j => wrapF M j (.asg tgs j) else none
def cExp (T : Tb) (N : List Str) (M : List Nat) (sc : Scope) (e : Expr) : Option S := if notComp e = true then (cE T N FU sc e).map fun j => wrapF M j (.exp j) else none
def cS (T : Tb) (N : List Str) (M : List Nat) (sc : Scope) : Nat → Stmt → Option S
  | 0, _ => none
  | n + 1, st => match st with
    | .Return (some e) _ => (cE T N FU sc e).map fun i => wrapF M i (.ret i)
    | .Return none _ => some .retN
    | .Pass _ => some .pass
    | .Break _ => some .brk
    | .Continue _ => some .cont
    | .Expr (.Call (.Attribute (.Name x _) m ap) [a] [] p3) _ =>
      if m = "append" then if okName x = true ∧ visB sc x = true ∧ noStar a = true ∧ (ap.endLine == p3.line) = true then (ixOf x N).bind fun i => (cE T N FU sc a).map fun j => wrapF M j (.app i j) else none
      else none
    | .Expr e _ => cExp T N M sc e
    | .Assign [tg] e _ => cAsg T N M sc tg e
    | .AugAssign (.Name x _) op e _ => if locB sc x = true ∧ (op = .Add ∨ op = .Sub) then (ixOf x N).bind fun i => (cE T N FU sc e).map fun j => wrapF M j (.aug i op j) else none
    | .If c a b _ => (tst (cE T N FU sc) c).bind fun i => (mapO (cS T N M sc n) a).bind fun s1 => (mapO (cS T N M sc n) b).map fun s2 => wrapF M i (.ite i s1 s2)
    | .For tg it b [] _ => if notSet it = true then (cTg N sc tg).bind fun tgs => (cIt T (cE T N FU sc) sc (isTupE tg) it).bind fun i => (mapO (cS T N M sc n) b).map fun s => wrapF M i (.loop tgs i s) else none
    | .While c b [] _ => (tst (cE T N FU sc) c).bind fun i => (mapO (cS T N M sc n) b).map fun s => .whl i s
    | _ => none
section
variable {G : Gm} {Γ : Ctx} {wf : Nat} {T : Tb} {N : List Str} {M : List Nat} {sc : Scope} {e : Expr} {i : E}
theorem SS.cg {s : Stmt} {g h : Slots → Store → Out} (q : SS G N sc s h) (k : ∀ ρ st, g ρ st = h ρ st) : SS G N sc s g := by
  have : g = h := funext fun ρ => funext fun st => k ρ st
  subst this; exact q
theorem SSs.cg {s : List Stmt} {g h : Slots → Store → Out} (q : SSs G N sc s h) (k : ∀ ρ st, g ρ st = h ρ st) : SSs G N sc s g := by
  have : g = h := funext fun ρ => funext fun st => k ρ st
  subst this; exact q
theorem wrap_ok {s : Stmt} {x : S} (h : SS G N sc s (xs1 Γ wf x)) : SS G N sc s (xs1 Γ wf (wrapF M i x)) := by
  unfold wrapF
  split
  · exact h
  · exact SS.cg (ss_frz (is := (vE 40 i).filter (fun i => decide (i ∈ M))) h) fun ρ st => by simp only [xs1]
theorem mapS_ok {n : Nat} {f : Stmt → Option S} (h : ∀ s x, f s = some x → SS G N sc s (xs1 Γ wf x)) : ∀ {ss : List Stmt} {xs : List S}, mapO f ss = some xs → SSs G N sc ss (xsL Γ wf xs)
  | [], xs, e => by
    cases e
    exact SSs.cg sss_nil fun ρ st => by simp only [xsL]
  | s :: ss, xs, e => by
    unfold mapO at e
    simp only [Option.bind_eq_some_iff, Option.map_eq_some_iff] at e
    obtain ⟨x, h1, ys, h2, rfl⟩ := e
    exact SSs.cg (sss_cons (h _ _ h1) (mapS_ok (n := n) h h2)) fun ρ st => by simp only [xsL]
theorem swaps_no {e : Expr} (h : notComp e = true) (t : Option Expr) (l : Nat) (env : Env) : swapsWith e t l env = pure false := by
  cases e <;> first | rfl | cases h
theorem swapped_no {tg e : Expr} (h : notTup e = true) (env : Env) : swappedStores [tg] e env = pure none := by
  unfold swappedStores
  split
  · rename_i q
    split at q <;> first | cases h | cases q
  · rfl
theorem swapped_name {x : Str} {p : Pos} (env : Env) : swappedStores [.Name x p] e env = pure none := by
  unfold swappedStores
  split
  · rename_i q
    split at q
    · rename_i q1; cases q1
    · rename_i q1; cases q1
    · cases q
  · rfl
theorem out_cg {α : Type} {r : Res α} {ρ : Slots} {f g : α → Store → Out} (h : ∀ a st, f a st = g a st) : r.out ρ f = r.out ρ g := by
  cases r with
  | ok a st => exact h a st
  | _ => rfl
theorem asgF_ok {x : Str} {k : Nat} {j : E} {stm : Stmt} {fi : Slots → Store → Res (List D)} (hj : ∀ ρ st, ev Γ j ρ st = (fi ρ st).bind fun xs st => .ok (.lst xs) st) (h : SFA G N sc stm k fi) : SS G N sc stm (xs1 Γ wf (if k ∈ M then .newl k j else .asg [k] j)) := by
  split
  · refine SS.cg (ss_newl h) fun ρ st => ?_
    simp only [xs1, hj]
    cases fi ρ st <;> rfl
  · refine SS.cg (ss_asgF h) fun ρ st => ?_
    simp only [xs1, hj]
    cases fi ρ st <;> rfl
theorem lc_sfa (t : TOk G Γ T) {el tg it : Expr} {ifs : List Expr} {scope : Scope} {pos spos p : Pos} {x : Str} {k : Nat} {tgs : List Nat} {j c l : E} (hx : locB sc x = true) (hk : ixOf x N = some k)
    (hb : blkC N sc scope (ownOf N scope) = true) (hns : notSet it = true) (htg : cTg N scope tg = some tgs) (hto : tgs.all (fun t => decide (t ∈ (ownOf N scope).map (·.2))) = true) (hi : cIt T (cE T N FU sc) sc (isTupE tg) it = some j)
    (hc : cIfs (cE T N FU (relS scope sc)) ifs = some c) (he : cE T N FU (relS scope sc) el = some l) :
    SFA G N sc (.Assign [.Name x p] (.ListComp el [⟨tg, it, ifs, 0⟩] scope pos) spos) k (fun ρ st => (asIt (ev Γ j ρ st)).bind fun xs st => lcGo (lcStep (ev Γ c) (ev Γ l) tgs ((ownOf N scope).map (·.2)) ρ) xs [] st) := by
  obtain ⟨ih, iht⟩ := cE_ok (N := N) t FU
  have key : ∀ (n : Nat) (env : Env), env.scope = sc → swapsWith (.ListComp el [⟨tg, it, ifs, 0⟩] scope pos) (some (.Name x p)) n env = pure (lcB sc scope x p.line pos.line) := fun n env he => by
    subst he; rfl
  by_cases hsw : lcB sc scope x p.line pos.line = true
  · obtain ⟨g, hg, gp⟩ := tg_blk (G := G) (sc := sc) htg
    have hts : STs G N (relS scope sc) ifs (ev Γ c) := by
      unfold cIfs at hc
      split at hc
      · cases hc
        intro X W ok tk
        have := sts_nil (G := G) (N := N) (sc := relS scope sc) X W ok tk
        refine PTs.imp this fun σ H Q ⟨F, ra, fp, ρ, st, o, h⟩ => ⟨F, ra, fp, ρ, st, o, ?_⟩
        simpa only [ev] using h
      · exact sts_one (iht _ _ _ hc)
      · cases hc
    have hl : sc.names.lookup x = some .local := by
      unfold lcB at hsw
      simp only [Bool.and_eq_true, beq_iff_eq] at hsw
      exact hsw.1.1.2
    intro X W ok tk
    exact ps_lcS (it_ok t (fun q => q) (ih sc) hi) hg gp (fun t ht => by simpa using List.all_eq_true.mp hto t ht) hts (ih _ _ _ he) hb (fun env x => foldedSet_ok hns env x) (ixOf_get hk) hl ok.ok tk (by rw [key _ _ ok.ok.sc, hsw])
  · have hsw : lcB sc scope x p.line pos.line = false := by simpa using hsw
    exact sfa_of (lc_ok t ih iht hb hns htg hto hi hc he) (ixOf_get hk) (loc_of hx) fun l env he => by
      rw [key l env he, hsw]
theorem asg_ok (t : TOk G Γ T) {tg : Expr} {pos : Pos} {s : S} (h : cAsg T N M sc tg e = some s) : SS G N sc (.Assign [tg] e pos) (xs1 Γ wf s) := by
  obtain ⟨ih, iht⟩ := cE_ok (N := N) t FU
  unfold cAsg at h
  split at h
  · rename_i x p
    split at h
    · rename_i hx
      simp only [Option.bind_eq_some_iff] at h
      obtain ⟨k, hk, h⟩ := h
      split at h
      · split at h
        · rename_i hb
          simp only [Option.bind_eq_some_iff] at h
          obtain ⟨tgs, h1, h⟩ := h
          split at h
          · rename_i hto
            simp only [Option.bind_eq_some_iff, Option.map_eq_some_iff] at h
            obtain ⟨j, hj, c, hc, l, hl, rfl⟩ := h
            refine wrap_ok (asgF_ok (x := x) (fun ρ st => ?_) (lc_sfa t hx hk hb.1 hb.2 h1 hto hj hc hl))
            simp only [ev, bind_assoc]
            rfl
          · cases h
        · cases h
      · split at h
        · rename_i es q hn
          simp only [Option.map_eq_some_iff] at h
          obtain ⟨is, h1, rfl⟩ := h
          refine wrap_ok (asgF_ok (x := x) (fun ρ st => ?_) (sfa_of (sf_lst (mapO_ok (ih sc) h1 hn)) (ixOf_get hk) (loc_of hx) fun l env _ => rfl))
          simp only [ev, bind_assoc]
          cases evL Γ is ρ st with
          | ok xs st' =>
            simp only [bind_ok]
            split <;> rfl
          | ex _ _ => rfl
          | bad => rfl
        · cases h
      · split at h
        · cases h
        · split at h
          · rename_i hnc
            simp only [Option.map_eq_some_iff] at h
            obtain ⟨j, hj, rfl⟩ := h
            refine wrap_ok (SS.cg (ss_asg (ih _ _ _ hj) (sgs_name (ixOf_get hk) (loc_of hx)) gput_name (fun l env => swaps_no hnc (some (.Name x p)) l env) (fun env => swapped_name env) (fun env => rfl)) fun ρ st => ?_)
            simp only [xs1]
            rfl
          · cases h
    · cases h
  · split at h
    · rename_i hq
      simp only [Option.bind_eq_some_iff, Option.map_eq_some_iff] at h
      obtain ⟨tgs, h1, j, hj, rfl⟩ := h
      obtain ⟨g, hg, gp⟩ := tg_def (G := G) h1
      refine wrap_ok (SS.cg (ss_asg (ih _ _ _ hj) hg gp (fun l env => swaps_no hq.2.1 (some tg) l env) (fun env => swapped_no hq.1 env) (fun env => ?_)) fun ρ st => ?_)
      · cases tg <;> first | rfl | exact absurd hq.2.2 Bool.false_ne_true
      · simp only [xs1]
        rfl
    · cases h
theorem exp_ok (t : TOk G Γ T) {pos : Pos} {s : S} (h : cExp T N M sc e = some s) : SS G N sc (.Expr e pos) (xs1 Γ wf s) := by
  obtain ⟨ih, iht⟩ := cE_ok (N := N) t FU
  unfold cExp at h
  split at h
  · rename_i hn
    simp only [Option.map_eq_some_iff] at h
    obtain ⟨j, hj, rfl⟩ := h
    exact wrap_ok (SS.cg (ss_exp (ih _ _ _ hj) fun l env => swaps_no hn _ _ _) fun ρ st => by simp only [xs1])
  · cases h
theorem cS_ok (t : TOk G Γ T) : ∀ (n : Nat) (st : Stmt) (s : S), cS T N M sc n st = some s → SS G N sc st (xs1 Γ wf s)
  | 0, _, _, h => by cases h
  | n + 1, st, s, h => by
    obtain ⟨ih, iht⟩ := cE_ok (N := N) t FU
    have hS := cS_ok t n
    unfold cS at h
    split at h
    · simp only [Option.map_eq_some_iff] at h
      obtain ⟨j, hj, rfl⟩ := h
      exact wrap_ok (SS.cg (ss_ret (ih _ _ _ hj)) fun ρ st => by simp only [xs1])
    · cases h; exact SS.cg ss_retN fun ρ st => by simp only [xs1]
    · cases h; exact SS.cg ss_pass fun ρ st => by simp only [xs1]
    · cases h; exact SS.cg ss_brk fun ρ st => by simp only [xs1]
    · cases h; exact SS.cg ss_cont fun ρ st => by simp only [xs1]
    · split at h
      · rename_i hm
        subst hm
        split at h
        · rename_i hq
          simp only [Option.bind_eq_some_iff, Option.map_eq_some_iff] at h
          obtain ⟨k, hk, j, hj, rfl⟩ := h
          obtain ⟨h1, h2⟩ := okName_of hq.1
          exact wrap_ok (SS.cg (ss_app (ih _ _ _ hj) (ixOf_get hk) (vis_of hq.2.1) h1 h2 hq.2.2.1 hq.2.2.2) fun ρ st => by simp only [xs1]; try rfl)
        · cases h
      · cases h
    · exact exp_ok t h
    · exact asg_ok t h
    · split at h
      · rename_i hq
        simp only [Option.bind_eq_some_iff, Option.map_eq_some_iff] at h
        obtain ⟨k, hk, j, hj, rfl⟩ := h
        exact wrap_ok (SS.cg (ss_aug (ih _ _ _ hj) hq.2 (ixOf_get hk) (loc_of hq.1)) fun ρ st => by simp only [xs1]; try rfl)
      · cases h
    · simp only [Option.bind_eq_some_iff, Option.map_eq_some_iff] at h
      obtain ⟨j, hj, s1, h1, s2, h2, rfl⟩ := h
      exact wrap_ok (SS.cg (ss_ite (iht _ _ _ hj) (mapS_ok (n := n) hS h1) (mapS_ok (n := n) hS h2)) fun ρ st => by simp only [xs1]; try rfl)
    · split at h
      · rename_i hns
        simp only [Option.bind_eq_some_iff, Option.map_eq_some_iff] at h
        obtain ⟨tgs, h1, j, hj, s1, h2, rfl⟩ := h
        obtain ⟨g, hg, gp⟩ := tg_def (G := G) h1
        exact wrap_ok (SS.cg (ss_for (it_ok t (fun q => q) (ih sc) hj) hg gp (mapS_ok (n := n) hS h2) fun env x => foldedSet_ok hns env x) fun ρ st => by simp only [xs1]; try rfl)
      · cases h
    · simp only [Option.bind_eq_some_iff, Option.map_eq_some_iff] at h
      obtain ⟨j, hj, s1, h1, rfl⟩ := h
      exact SS.cg (ss_whl (n := wf) (iht _ _ _ hj) (mapS_ok (n := n) hS h1)) fun ρ st => by simp only [xs1]
    · cases h
/-- a def's body -/
def cBody (T : Tb) (N : List Str) (M : List Nat) (sc : Scope) (body : List Stmt) : Option (List S) := mapO (cS T N M sc 40) body
theorem cBody_ok (t : TOk G Γ T) {body : List Stmt} {xs : List S} (h : cBody T N M sc body = some xs) : SSs G N sc body (xsL Γ wf xs) := mapS_ok (n := 0) (cS_ok t 40) h
end
end Mn
end

section
set_option Elab.async false
set_option linter.all false
set_option maxRecDepth 100000
set_option maxHeartbeats 4000000
/-! MnT: text.replace(..) of written texts, in a def whose first statement gives out a token. -/
namespace Mn
open PySem PySem.Spec PyProof.Rows L2
open PySem.Builtin PySem.Builtin.Str
theorem gives_replace1 (x y z : Str) (t u v k : Tok)
    (hf : ((occurrences x y 0 x.length 1).isEmpty || (y.length == 0 && z.length == 0)) = false →
      (u == 0 || v == 0) = false ∧ (u == v) = false ∧ (y == z) = false ∧ tooLong (x.length + (occurrences x y 0 x.length 1).length * z.length) = false) :
    Gives («str.replace» ⟨[.str x t, .str y u, .str z v, .int 1 k], []⟩) (if ((occurrences x y 0 x.length 1).isEmpty || (y.length == 0 && z.length == 0)) = true then .val (.str x t) else .str (glued z (partsBetween x (occurrences x y 0 x.length 1) y.length))) := by
  show Gives (if ((occurrences x y 0 x.length 1).isEmpty || (y.length == 0 && z.length == 0)) = true then (do rule "str.replace.nothing"; ret (.str x t)) else
          (do let same ← isSame (.str y u) (.str z v)
              if same = true then (do rule "str.replace.old-is-new"; ret (.str x t)) else
              if tooLong (x.length + (occurrences x y 0 x.length 1).length * z.length) = true then unsupported "str.replace:memory" else
              retStr (glued z (partsBetween x (occurrences x y 0 x.length 1) y.length)))) _
  cases hc : ((occurrences x y 0 x.length 1).isEmpty || (y.length == 0 && z.length == 0))
  · obtain ⟨h0, huv, hyz, hl⟩ := hf hc
    rw [isSame_str_other y z u v h0 huv hyz, hl]
    exact .of_eq rfl
  · exact .rule (.of_eq rfl)
section
variable {X : Cx} {o : Expr} {to : TE} {y z : Str} {j k l : Nat} {c0 c1 c2 apos pos : Pos}
theorem pet_rep1 (ho : PE X o to) (hyz : (y == z) = false) (hbase : attributeBase o "replace" X.env (eval o X.env) = eval o X.env) (hline : (apos.endLine == pos.line) = true) :
    PET X (.Call (.Attribute o "replace" apos) [.Constant (.str y) j c0, .Constant (.str z) k c1, .Constant (.int 1) l c2] [] pos) (fun σ H Q => to σ H fun v H1 => ∃ x, v = .str x ∧ x.length + (occurrences x y 0 x.length 1).length * z.length ≤ LIM ∧ (rep1 x y z).length ≤ LIM ∧ Q (.str (rep1 x y z)) H1) := by
  intro pins s σ H Q h0 I h
  refine PySem.wpAny_Call_method_lateS hbase (by rfl) hline ?_
  have e : backTo pos (starEach [.Constant (.str y) j c0, .Constant (.str z) k c1, .Constant (.int 1) l c2] X.env) = [(false, eval (.Constant (.str y) j c0) X.env), (false, eval (.Constant (.str z) k c1) X.env), (false, eval (.Constant (.int 1) l c2) X.env)] := rfl
  rw [e]
  refine (wpAny_mono (PySem.wpAny_toks (ho.run pins s σ H _ I h)) (fun v s1 q => ?_) fun _ _ z => z.2)
  obtain ⟨hk, v', H1, I1, r1, x, e1, hb, hb2, q⟩ := q
  subst e1
  obtain ⟨tx, e2⟩ := r1
  subst e2
  refine ⟨"str", _, PySem.F.plainAttrs_str, PySem.F.slot_str_replace, PySem.F.type_str_replace, typeIs_str _ _ _, (fun _ e => nomatch e), Calls.callWith_builtin rfl (Calls.evalArgs_plain (Calls.spliced_cons ?_))⟩
  refine Calls.Constant_str (Calls.spliced_cons (Calls.Constant_str (Calls.spliced_cons (wpAny_Constant_int (Calls.spliced_nil ?_)))))
  have h1 : (s1.toks == 0 || s1.toks + 1 == 0) = false := by
    rw [Bool.or_eq_false_iff]
    exact ⟨beq_eq_false_iff_ne.mpr (by omega), beq_eq_false_iff_ne.mpr (by omega)⟩
  refine call_gives F.slot_str_replace (typeIs_str _ _ _) F.entry_str_replace (F.args_str_replace_4 _ _ _ _) (gives_replace1 x y z tx s1.toks (s1.toks + 1) _ fun _ => ⟨h1, beq_eq_false_iff_ne.mpr (show s1.toks ≠ s1.toks + 1 by omega), hyz, ?_⟩) ?_
  · unfold tooLong
    refine decide_eq_false fun h => ?_
    have h2 : x.length + (occurrences x y 0 x.length 1).length * z.length > sizeLine := h
    have h3 := Nat.lt_of_lt_of_le h2 hb
    exact absurd h3 (by rw [sizeLine_eq]; decide)
  · have hr : rep1 x y z = if ((occurrences x y 0 x.length 1).isEmpty || (y.length == 0 && z.length == 0)) = true then x else glued z (partsBetween x (occurrences x y 0 x.length 1) y.length) := rfl
    cases hc : ((occurrences x y 0 x.length 1).isEmpty || (y.length == 0 && z.length == 0))
    · rw [hc] at hr
      simp only [Bool.false_eq_true, if_false] at hr ⊢
      rw [hr] at q hb2
      exact ⟨lim hb2, ⟨.str _, H1, I1.tok _, ⟨_, rfl⟩, q⟩⟩
    · rw [hc] at hr
      simp only [if_true] at hr ⊢
      rw [hr] at q
      exact ⟨.str _, H1, I1.tok _, ⟨_, rfl⟩, q⟩
end
/-! ### expressions, statements that want a token -/
def SET (G : Gm) (N : List Str) (sc : Scope) (e : Expr) (f : Slots → Store → Res D) : Prop := ∀ (X : Cx) (W : WX), XOk G N sc X → Takes X W → PET X e (tD G.K W f)
def SAT (G : Gm) (N : List Str) (sc : Scope) (e : List Expr) (f : Slots → Store → Res (List D)) : Prop := ∀ (X : Cx) (W : WX), XOk G N sc X → Takes X W → PAT X e (tDL G.K W f)
def SST (G : Gm) (N : List Str) (sc : Scope) (e : Stmt) (f : Slots → Store → Out) : Prop := ∀ (X : Cx) (W : WX), XF G N sc X → Takes X W → PST X e (tS G.K W f)
def SSsT (G : Gm) (N : List Str) (sc : Scope) (e : List Stmt) (f : Slots → Store → Out) : Prop := ∀ (X : Cx) (W : WX), XF G N sc X → Takes X W → PSsT X e (tS G.K W f)
section
variable {G : Gm} {Γ : Ctx} {wf : Nat} {T : Tb} {N : List Str} {M : List Nat} {sc : Scope} {e a b c o : Expr} {i : E} {fa fb fc fe fo : Slots → Store → Res D} {fs : Slots → Store → Res (List D)} {es : List Expr} {fx fy : Slots → Store → Out} {s : Stmt} {ss s2 : List Stmt} {pos p : Pos} {op : Operator}
theorem SET.cg {g h : Slots → Store → Res D} (q : SET G N sc e h) (k : ∀ ρ st, g ρ st = h ρ st) : SET G N sc e g := by
  have : g = h := funext fun ρ => funext fun st => k ρ st
  subst this; exact q
theorem SAT.cg {g h : Slots → Store → Res (List D)} (q : SAT G N sc es h) (k : ∀ ρ st, g ρ st = h ρ st) : SAT G N sc es g := by
  have : g = h := funext fun ρ => funext fun st => k ρ st
  subst this; exact q
theorem SST.cg {g h : Slots → Store → Out} (q : SST G N sc s h) (k : ∀ ρ st, g ρ st = h ρ st) : SST G N sc s g := by
  have : g = h := funext fun ρ => funext fun st => k ρ st
  subst this; exact q
theorem SSsT.cg {g h : Slots → Store → Out} (q : SSsT G N sc ss h) (k : ∀ ρ st, g ρ st = h ρ st) : SSsT G N sc ss g := by
  have : g = h := funext fun ρ => funext fun st => k ρ st
  subst this; exact q
theorem set_of (h : SE G N sc e fe) : SET G N sc e fe := fun X W ok tk => CwR.PET.of (h X W ok tk)
theorem sst_of (h : SS G N sc s fx) : SST G N sc s fx := fun X W ok tk => PST.of (h X W ok tk)
theorem set_bin (ha : SET G N sc a fa) (hb : SET G N sc b fb) : SET G N sc (.BinOp a op b pos) (fun ρ st => (fa ρ st).bind fun x st => (fb ρ st).bind fun y st => Mn.lift (bin op x y) st) := fun X W ok tk => by
  intro pins s σ H Q h0 I h
  refine CwR.pet_op (op_bin op) (ha X W ok tk) (hb X W ok tk) pins s σ H Q h0 I ?_
  obtain ⟨F, ra, fp, ρ, st, o, h⟩ := h
  refine ⟨F, ra, fp, ρ, st, o, Aft.bind h o fun d1 st1 v1 F1 H1 ra1 fp1 e1 f1 p1 o1 r1 h1 => ⟨F1, ra1, fp1, ρ, st1, o1, h1.bind o1 fun d2 st2 v2 F2 H2 ra2 fp2 e2 f2 p2 o2 r2 h2 => ?_⟩⟩
  obtain ⟨d, e, q⟩ := Aft.lift h2 o2
  rw [ok.K]
  exact ⟨F2, ra2, d1, d2, d, o2.ex, r1.mono f2.ex p2, r2, e, q⟩
theorem sat_nil : SAT G N sc [] (fun _ st => .ok [] st) := fun X W ok tk => fun pos pins s σ H Q h0 I h => (sa_nil (G := G) (N := N) (sc := sc) X W ok tk).run pos pins s σ H Q I h
theorem sat_cons (he : SET G N sc e fe) (hs : SAT G N sc es fs) (hn : noStar e = true) : SAT G N sc (e :: es) (fun ρ st => (fe ρ st).bind fun x st => (fs ρ st).bind fun xs st => .ok (x :: xs) st) := fun X W ok tk => by
  intro pos pins s σ H Q h0 I h
  refine pat_cons (he X W ok tk) (hs X W ok tk) (starEach_cons hn) pos pins s σ H Q h0 I ?_
  obtain ⟨F, ra, fp, ρ, st, o, h⟩ := h
  refine ⟨F, ra, fp, ρ, st, o, Aft.bind h o fun d1 st1 v1 F1 H1 ra1 fp1 e1 f1 p1 o1 r1 h1 => ⟨F1, ra1, fp1, ρ, st1, o1, h1.bind o1 fun d2 st2 v2 F2 H2 ra2 fp2 e2 f2 p2 o2 r2 h2 => ?_⟩⟩
  exact h2 (v1 :: v2) F2 H2 ra2 fp2 (Fr.refl _ _ _) (Pre.refl _) o2.s (.cons (r1.mono f2.ex p2) r2)
theorem set_lst (hs : SAT G N sc es fs) : SET G N sc (.List es pos) (fun ρ st => (fs ρ st).bind fun xs st => if xs.length ≤ LIM then .ok (.lst xs) st else .bad) := fun X W ok tk => by
  intro pins s σ H Q h0 I h
  refine pet_lst (hs X W ok tk) pins s σ H Q h0 I ?_
  obtain ⟨F, ra, fp, ρ, st, o, h⟩ := h
  refine ⟨F, ra, fp, ρ, st, o, Aft.bind h o fun d1 st1 v1 F1 H1 ra1 fp1 e1 f1 p1 o1 r1 h1 => ?_⟩
  split at h1
  · rename_i hz
    exact ⟨lim (by rw [r1.length]; exact hz), fun q hq => (Aft.ans h1 o1).newL o1.ex hq r1⟩
  · exact False.elim h1
theorem set_rep {y z : Str} {j k : Nat} {c0 c1 apos : Pos} (ho : SE G N sc o fo) (hyz : (y == z) = false) (hsup : noSup o = true) (hline : (apos.endLine == pos.line) = true) :
    SET G N sc (.Call (.Attribute o "replace" apos) [.Constant (.str y) j c0, .Constant (.str z) k c1] [] pos) (fun ρ st => (fo ρ st).bind fun x st => match x with
      | .str a => Mn.lift (smeth .replace (.str a) [.str y, .str z]) st
      | _ => .bad) := fun X W ok tk => by
  intro pins s σ H Q h0 I h
  refine CwR.pet_replC (ho X W ok tk) hyz rfl (base_plain hsup) hline pins s σ H Q h0 I ?_
  obtain ⟨F, ra, fp, ρ, st, o, h⟩ := h
  refine ⟨F, ra, fp, ρ, st, o, Aft.bind h o fun d1 st1 v1 F1 H1 ra1 fp1 e1 f1 p1 o1 r1 h1 => ?_⟩
  cases d1 with
  | str x =>
    cases rpS r1
    obtain ⟨d, e, q⟩ := Aft.lift h1 o1
    simp only [smeth] at e
    split at e
    · rename_i hq
      cases e
      exact ⟨x, rfl, Nat.le_trans hq.2 (by decide), q.str o1.ex⟩
    · cases e
  | _ => exact False.elim h1
theorem set_rep3 {y z : Str} {j k l : Nat} {c0 c1 c2 apos : Pos} (ho : SE G N sc o fo) (hyz : (y == z) = false) (hsup : noSup o = true) (hline : (apos.endLine == pos.line) = true) :
    SET G N sc (.Call (.Attribute o "replace" apos) [.Constant (.str y) j c0, .Constant (.str z) k c1, .Constant (.int 1) l c2] [] pos) (fun ρ st => (fo ρ st).bind fun x st => match x with
      | .str a => Mn.lift (smeth .replace3 (.str a) [.str y, .str z, .int 1]) st
      | _ => .bad) := fun X W ok tk => by
  intro pins s σ H Q h0 I h
  refine pet_rep1 (ho X W ok tk) hyz (base_plain hsup) hline pins s σ H Q h0 I ?_
  obtain ⟨F, ra, fp, ρ, st, o, h⟩ := h
  refine ⟨F, ra, fp, ρ, st, o, Aft.bind h o fun d1 st1 v1 F1 H1 ra1 fp1 e1 f1 p1 o1 r1 h1 => ?_⟩
  cases d1 with
  | str x =>
    cases rpS r1
    obtain ⟨d, e, q⟩ := Aft.lift h1 o1
    simp only [smeth] at e
    split at e
    · rename_i hq
      cases e
      exact ⟨x, rfl, hq.2.2.1, hq.2.2.2, q.str o1.ex⟩
    · cases e
  | _ => exact False.elim h1
/-! ### statements -/
theorem ssst_nil : SSsT G N sc [] (fun ρ st => .nx ρ st) := fun X W ok tk => PSsT.of (sss_nil X W ok tk)
theorem seq_read {K : PySem.W.Frag} {W : WX} {f g : Slots → Store → Out} {D : Ends} {σ : L2.St} {H : Hp} (h : tS K W (fun ρ st => (f ρ st).seq fun ρ st => g ρ st) D σ H) : tSeq (tS K W f) (tS K W g) D σ H := by
  obtain ⟨b, F, ra, fp, ρ, st, o, h⟩ := h
  refine ⟨b, F, ra, fp, ρ, st, o, ?_⟩
  have h : OAft K W b ((f ρ st).seq fun ρ st => g ρ st) D := h
  generalize f ρ st = r at h ⊢
  cases r with
  | nx ρ1 st1 => exact fun σ1 F1 H1 ra1 fp1 o1 => ⟨b, F1, ra1, fp1, ρ1, st1, o1, h⟩
  | bk ρ1 st1 => exact h
  | ct ρ1 st1 => exact h
  | rt d st1 => exact h
  | ex x ρ1 st1 => exact h
  | bad => exact h
theorem ssst_cons (h1 : SST G N sc s fx) (h2 : SSsT G N sc ss fy) : SSsT G N sc (s :: ss) (fun ρ st => (fx ρ st).seq fun ρ st => fy ρ st) := fun X W ok tk => by
  intro pins s σ H D h0 I h
  exact psst_cons (h1 X W ok tk) (h2 X W ok tk) pins s σ H D h0 I (seq_read h)
theorem sst_ret (he : SET G N sc e fe) : SST G N sc (.Return (some e) pos) (fun ρ st => (fe ρ st).out ρ fun d st => .rt d st) := fun X W ok tk => by
  intro pins s σ H D h0 I h
  refine CwR.pst_ret (he X W ok.ok tk) pins s σ H D h0 I ?_
  obtain ⟨b, F, ra, fp, ρ, st, o, h⟩ := h
  exact ⟨F, ra, fp, ρ, st, o.ok, OAft.out h o fun d st1 v F1 H1 ra1 fp1 e1 o1 _ _ r1 h1 => h1 v F1 H1 ra1 fp1 o1.s o1.fr o1.pre r1⟩
theorem sst_ite (hc : ST G N sc c fc) (h1 : SSsT G N sc ss fx) (h2 : SSsT G N sc s2 fy) : SST G N sc (.If c ss s2 pos) (fun ρ st => (asB (fc ρ st)).out ρ fun t st => match t with
    | true => fx ρ st
    | false => fy ρ st) := fun X W ok tk => by
  intro pins s σ H D h0 I h
  refine CwR.pst_if (hc X W ok.ok tk) (h1 X W ok tk) (h2 X W ok tk) pins s σ H D h0 I ?_
  obtain ⟨b, F, ra, fp, ρ, st, o, h⟩ := h
  refine ⟨F, ra, fp, ρ, st, o.ok, OAft.out h o fun d st1 v F1 H1 ra1 fp1 e1 o1 _ _ r1 h1 => ?_⟩
  cases r1
  cases d with
  | true => exact iteT ⟨b, F1, ra1, fp1, ρ, st1, o1, h1⟩
  | false => exact iteF ⟨b, F1, ra1, fp1, ρ, st1, o1, h1⟩
theorem sst_set {x : Str} {k : Nat} (he : SET G N sc e fe) (hi : N[k]? = some x) (hx : Loc sc x) (hs : ∀ l env, swapsWith e (some (.Name x p)) l env = pure false) : SST G N sc (.Assign [.Name x p] e pos) (fun ρ st => (fe ρ st).out ρ fun d st => .nx (ρ.set k (.d d)) st) := fun X W ok tk => by
  intro pins s σ H D h0 I h
  obtain ⟨b, F, ra, fp, ρ, st, o, h⟩ := h
  refine wpAny_Assign_Name (thn (he X W ok.ok tk pins s σ H (fun v H1 => D.nx (σ.set k (some v)) H1) h0 I ⟨F, ra, fp, ρ, st, o.ok, OAft.out h o fun d st1 v F1 H1 ra1 fp1 e1 o1 _ _ r1 h1 => ?_⟩) fun v s1 ⟨y, H1, I1, r1, q1⟩ => ?_) (hs _ _)
  · exact h1 _ F1 H1 ra1 fp1 (o1.setD r1)
  · exact store_ok I1 (by rw [ok.ok.names]; exact ok.ok.nd) (by rw [ok.ok.names]; exact hi) (by rw [ok.ok.sc]; exact hx) r1 (fun s2 I2 => ⟨_, H1, I2, q1⟩) (.inl (ok.fn x))
/-- name = e[k]: behind it a token is out -/
theorem sss_kick {x : Str} {k : Nat} {n : Int} {j : Nat} {cp q : Pos} (ha : SE G N sc a fa) (hi : N[k]? = some x) (hx : Loc sc x) (h2 : SSsT G N sc ss fy) :
    SSs G N sc (.Assign [.Name x p] (.Subscript a (.Constant (.int n) j cp) q) pos :: ss) (fun ρ st => ((fa ρ st).out ρ fun d st => (lift (ix d (.int n)) st).out ρ fun d st => .nx (ρ.set k (.d d)) st).seq fun ρ st => fy ρ st) := fun X W ok tk => by
  refine ⟨fun pins s σ H D I h => ?_⟩
  obtain ⟨b, F, ra, fp, ρ, st, o, h⟩ := seq_read h
  refine wpAny_execs_cons (wpAny_Assign_Name (Subscript_ (thn ((ha X W ok.ok tk).run pins s σ H (fun v H1 => rP X.K ix v (.int n) H1 fun v H2 => tS G.K W fy D (σ.set k (some v)) H2) I ⟨F, ra, fp, ρ, st, o.ok, OAft.out h o fun d st1 v F1 H1 ra1 fp1 e1 o1 _ _ r1 h1 => ?_⟩) fun v s1 ⟨y, H1, I1, r1, q1⟩ => wpAny_Constant_int ?_)) rfl)
  · cases hd : ix d (.int n) with
    | none => rw [hd] at h1; exact False.elim h1
    | some d' =>
      rw [hd] at h1
      rw [ok.ok.K]
      exact ⟨F1, ra1, d, .int n, d', o1.s.ex, r1, .int n, hd, fun w F2 H2 g2 r2 => h1 _ F2 H2 ra1 fp1 ((o1.grow g2).setD r2)⟩
  · have hz := ixr (X := X) ok.ok.units1 a (.Constant (.int n) j cp) pins { s1 with toks := s1.toks + 1 } σ H1 y (.int n) v (.int n s1.toks) _ (I1.tok _) r1 ⟨_, rfl⟩ q1 rfl
    refine wpAny_mono (PySem.wpAny_toks_of (n := 1) (by show 1 ≤ s1.toks + 1; omega) hz) (fun u s2 q => ?_) fun _ _ z => z.2
    obtain ⟨hk, y2, H2, I2, r2, q2⟩ := q
    refine wpAny_mono (PySem.wpAny_toks_of (n := 1) hk (store_ok (v := y2) (u := u) (Q := fun _ s3 => Inv X pins (σ.set k (some y2)) H2 s3) I2 (by rw [ok.ok.names]; exact ok.ok.nd) (by rw [ok.ok.names]; exact hi) (by rw [ok.ok.sc]; exact hx) r2 (fun _ I3 => I3) (.inl (ok.fn x)))) (fun _ s3 q => ?_) fun _ _ z => z.2
    exact h2 X W ok tk pins s3 _ H2 D q.1 q.2 q2
end
def cX (T : Tb) (N : List Str) (sc : Scope) : Nat → Expr → Option E
  | 0, _ => none
  | n + 1, e => match e with
    | .BinOp a op b _ => (cX T N sc n a).bind fun i => (cX T N sc n b).map fun j => .bin op i j
    | .List es _ => if es.all noStar = true then (mapO (cX T N sc n) es).map .lst else none
    | .Call (.Attribute o m ap) args [] pos => if m = "replace" then
        if noSup o = true ∧ (ap.endLine == pos.line) = true then match args with
          | [.Constant (.str y) _ _, .Constant (.str z) _ _] => if (y == z) = false then (cE T N FU sc o).map fun i => .sm .replace i [.k (.str y), .k (.str z)] else none
          | [.Constant (.str y) _ _, .Constant (.str z) _ _, .Constant (.int k) _ _] => if k = 1 ∧ (y == z) = false then (cE T N FU sc o).map fun i => .sm .replace3 i [.k (.str y), .k (.str z), .k (.int 1)] else none
          | _ => none
        else none
      else cE T N FU sc (.Call (.Attribute o m ap) args [] pos)
    | e => cE T N FU sc e
def cST (T : Tb) (N : List Str) (sc : Scope) : Nat → Stmt → Option S
  | 0, _ => none
  | n + 1, st => match st with
    | .Return (some e) _ => (cX T N sc FU e).map .ret
    | .Assign [.Name x p] e q => if notComp e = true then (if locB sc x = true then (ixOf x N).bind fun i => (cX T N sc FU e).map fun j => .asg [i] j else none) else cS T N [] sc 40 (.Assign [.Name x p] e q)
    | .If c a b _ => (tst (cE T N FU sc) c).bind fun i => (mapO (cST T N sc n) a).bind fun s1 => (mapO (cST T N sc n) b).map fun s2 => .ite i s1 s2
    | st => cS T N [] sc 40 st
def cBT (T : Tb) (N : List Str) (sc : Scope) (body : List Stmt) : Option (List S) := match body with
  | .Assign [.Name x _] (.Subscript a (.Constant (.int n) _ _) _) _ :: rest => if locB sc x = true then (ixOf x N).bind fun k => (cE T N FU sc a).bind fun i => (mapO (cST T N sc 40) rest).map fun r => .asg [k] (.ix i (.k (.int n))) :: r else none
  | _ => none
def cBody2 (T : Tb) (N : List Str) (M : List Nat) (sc : Scope) (body : List Stmt) : Option (List S) := match cBody T N M sc body with
  | some x => some x
  | none => cBT T N sc body
section
variable {G : Gm} {Γ : Ctx} {wf : Nat} {T : Tb} {N : List Str} {M : List Nat} {sc : Scope} {e : Expr} {i : E}
theorem mapX_ok {f : Expr → Option E} (hf : ∀ e i, f e = some i → SET G N sc e (ev Γ i)) : ∀ {es : List Expr} {is : List E}, mapO f es = some is → es.all noStar = true → SAT G N sc es (evL Γ is)
  | [], is, h, _ => by
    cases h
    exact SAT.cg sat_nil fun ρ st => by simp only [evL]
  | e :: es, is, h, hn => by
    unfold mapO at h
    simp only [Option.bind_eq_some_iff, Option.map_eq_some_iff] at h
    obtain ⟨i, h1, js, h2, rfl⟩ := h
    rw [List.all_cons, Bool.and_eq_true] at hn
    exact SAT.cg (sat_cons (hf _ _ h1) (mapX_ok hf h2 hn.2) hn.1) fun ρ st => by simp only [evL]
theorem cX_ok (t : TOk G Γ T) : ∀ (n : Nat) (e : Expr) (i : E), cX T N sc n e = some i → SET G N sc e (ev Γ i)
  | 0, e, i, h => by cases h
  | n + 1, e, i, h => by
    have ih := cX_ok t n
    obtain ⟨ihE, _⟩ := cE_ok (N := N) t FU
    unfold cX at h
    split at h
    · simp only [Option.bind_eq_some_iff, Option.map_eq_some_iff] at h
      obtain ⟨j, h1, k, h2, rfl⟩ := h
      exact SET.cg (set_bin (ih _ _ h1) (ih _ _ h2)) fun ρ st => by simp only [ev]
    · split at h
      · rename_i hn
        simp only [Option.map_eq_some_iff] at h
        obtain ⟨is, h1, rfl⟩ := h
        exact SET.cg (set_lst (mapX_ok ih h1 hn)) fun ρ st => by simp only [ev]
      · cases h
    · split at h
      · rename_i hm
        subst hm
        split at h
        · rename_i hc
          split at h
          · split at h
            · rename_i hyz
              simp only [Option.map_eq_some_iff] at h
              obtain ⟨j, hj, rfl⟩ := h
              exact SET.cg (set_rep (ihE _ _ _ hj) hyz hc.1 hc.2) fun ρ st => by simp only [ev, evL, bind_ok]; try rfl
            · cases h
          · split at h
            · rename_i hyz
              obtain ⟨hk, hyz⟩ := hyz
              subst hk
              simp only [Option.map_eq_some_iff] at h
              obtain ⟨j, hj, rfl⟩ := h
              exact SET.cg (set_rep3 (ihE _ _ _ hj) hyz hc.1 hc.2) fun ρ st => by simp only [ev, evL, bind_ok]; try rfl
            · cases h
          · cases h
        · cases h
      · exact set_of (ihE _ _ _ h)
    · exact set_of (ihE _ _ _ h)
theorem mapST_ok {f : Stmt → Option S} (h : ∀ s x, f s = some x → SST G N sc s (xs1 Γ wf x)) : ∀ {ss : List Stmt} {xs : List S}, mapO f ss = some xs → SSsT G N sc ss (xsL Γ wf xs)
  | [], xs, e => by
    cases e
    exact SSsT.cg ssst_nil fun ρ st => by simp only [xsL]
  | s :: ss, xs, e => by
    unfold mapO at e
    simp only [Option.bind_eq_some_iff, Option.map_eq_some_iff] at e
    obtain ⟨x, h1, ys, h2, rfl⟩ := e
    exact SSsT.cg (ssst_cons (h _ _ h1) (mapST_ok h h2)) fun ρ st => by simp only [xsL]
theorem cST_ok (t : TOk G Γ T) : ∀ (n : Nat) (st : Stmt) (s : S), cST T N sc n st = some s → SST G N sc st (xs1 Γ wf s)
  | 0, _, _, h => by cases h
  | n + 1, st, s, h => by
    obtain ⟨ih, iht⟩ := cE_ok (N := N) t FU
    have hS := cST_ok t n
    unfold cST at h
    split at h
    · simp only [Option.map_eq_some_iff] at h
      obtain ⟨j, hj, rfl⟩ := h
      exact SST.cg (sst_ret (cX_ok t _ _ _ hj)) fun ρ st => by simp only [xs1]
    · split at h
      · rename_i hn
        split at h
        · rename_i hx
          simp only [Option.bind_eq_some_iff, Option.map_eq_some_iff] at h
          obtain ⟨k, hk, j, hj, rfl⟩ := h
          exact SST.cg (sst_set (cX_ok t _ _ _ hj) (ixOf_get hk) (loc_of hx) fun l env => swaps_no hn _ _ _) fun ρ st => by simp only [xs1]; try rfl
        · cases h
      · exact sst_of (cS_ok t _ _ _ h)
    · simp only [Option.bind_eq_some_iff, Option.map_eq_some_iff] at h
      obtain ⟨j, hj, s1, h1, s2, h2, rfl⟩ := h
      exact SST.cg (sst_ite (iht _ _ _ hj) (mapST_ok hS h1) (mapST_ok hS h2)) fun ρ st => by simp only [xs1]; try rfl
    · exact sst_of (cS_ok t _ _ _ h)
theorem cBT_ok (t : TOk G Γ T) {body : List Stmt} {xs : List S} (h : cBT T N sc body = some xs) : SSs G N sc body (xsL Γ wf xs) := by
  obtain ⟨ih, iht⟩ := cE_ok (N := N) t FU
  unfold cBT at h
  split at h
  · split at h
    · rename_i hx
      simp only [Option.bind_eq_some_iff, Option.map_eq_some_iff] at h
      obtain ⟨k, hk, j, hj, r, hr, rfl⟩ := h
      refine SSs.cg (sss_kick (ih _ _ _ hj) (ixOf_get hk) (loc_of hx) (mapST_ok (cST_ok (wf := wf) t 40) hr)) fun ρ st => ?_
      simp only [xsL, xs1, ev, bind_ok]
      cases ev Γ j ρ st with
      | ok d st' => rfl
      | ex _ _ => rfl
      | bad => rfl
    · cases h
  · cases h
theorem cBody2_ok (t : TOk G Γ T) {body : List Stmt} {xs : List S} (h : cBody2 T N M sc body = some xs) : SSs G N sc body (xsL Γ wf xs) := by
  unfold cBody2 at h
  split at h
  · rename_i q
    cases h
    exact cBody_ok t q
  · exact cBT_ok t h
end
end Mn
end

section
set_option Elab.async false
set_option linter.all false
set_option maxRecDepth 100000
set_option maxHeartbeats 4000000
/-! MnP: the program; the head's facts; the law. -/
namespace Mn
open PySem PySem.Spec PyProof.Rows L2
/-! ### constants of the module -/
def all2 {α β : Type} (f : α → β → Bool) : List α → List β → Bool
  | [], [] => true
  | a :: r, b :: s => f a b && all2 f r s
  | _, _ => false
def chkC (K : PySem.W.Frag) : Nat → Value → D → Bool
  | 0, _, _ => false
  | n + 1, v, d => match v, d with
    | .none, .non => true
    | .bool b, .bl c => decide (b = c)
    | .int i _, .int j => decide (i = j)
    | .str s _, .str z => decide (s = z)
    | .ref a, .tup ds => (match K.lookup a with
      | some ⟨.type c, _, .seq its _, _⟩ => decide (c = "tuple") && decide (its.size ≤ 1000) && all2 (chkC K n) its.toList ds
      | _ => false)
    | _, _ => false
theorem chkC_ok {K : PySem.W.Frag} : ∀ {n : Nat} {v : Value} {d : D}, chkC K n v d = true → ∃ x, RelV x v ∧ ∀ F ra, Rp K F ra x d
  | 0, v, d, h => by cases h
  | n + 1, v, d, h => by
    unfold chkC at h
    split at h
    · exact ⟨.non, rfl, fun _ _ => .non⟩
    · exact ⟨.bl _, rfl, fun _ _ => by rw [of_decide_eq_true h]; exact .bl _⟩
    · exact ⟨.int _, ⟨_, rfl⟩, fun _ _ => by rw [of_decide_eq_true h]; exact .int _⟩
    · exact ⟨.str _, ⟨_, rfl⟩, fun _ _ => by rw [of_decide_eq_true h]; exact .str _⟩
    · rename_i a ds
      split at h
      · rename_i c od its m sl hl
        simp only [Bool.and_eq_true, decide_eq_true_eq] at h
        obtain ⟨⟨h1, h2⟩, h3⟩ := h
        have : ∀ (us : List Value) (ds : List D), all2 (chkC K n) us ds = true → ∃ vs, Vals vs us ∧ ∀ F ra, RpL K F ra vs ds := by
          intro us
          induction us with
          | nil =>
            intro ds h
            cases ds with
            | nil => exact ⟨[], .nil, fun _ _ => .nil⟩
            | cons _ _ => cases h
          | cons u us ih =>
            intro ds h
            cases ds with
            | nil => cases h
            | cons d ds =>
              unfold all2 at h
              rw [Bool.and_eq_true] at h
              obtain ⟨x, r, p⟩ := chkC_ok h.1
              obtain ⟨vs, rs, ps⟩ := ih ds h.2
              exact ⟨x :: vs, .cons r rs, fun F ra => .cons (p F ra) (ps F ra)⟩
        obtain ⟨vs, rs, ps⟩ := this _ _ h3
        subst h1
        exact ⟨.ref a, rfl, fun F ra => .tup (.inr ⟨_, its, m, hl, rfl, rfl, Nat.le_trans h2 (by rw [sizeLine_eq]; decide), rs⟩) (ps F ra)⟩
      · cases h
    · cases h
def chkG (K : PySem.W.Frag) (x : Str) (d : D) : Bool := match PySem.W.nsIn K mainGlobals x with
  | some (some v) => chkC K 8 v d
  | _ => false
def chkE1 (K : PySem.W.Frag) (e : DictEntry) (q : Str × D) : Bool := (match e.key with
  | .str k _ => decide (k = q.1)
  | _ => false) && chkC K 8 e.val q.2
def chkD (K : PySem.W.Frag) (x : Str) (kvs : List (Str × D)) : Bool := match PySem.W.nsIn K mainGlobals x with
  | some (some (.ref a)) => (match K.lookup a with
    | some ⟨_, _, .dict es _, _⟩ => all2 (chkE1 K) es.toList kvs
    | _ => false)
  | _ => false
theorem chkE1_ok {K : PySem.W.Frag} {e : DictEntry} {q : Str × D} (h : chkE1 K e q = true) : (∃ t, e.key = .str q.1 t) ∧ chkC K 8 e.val q.2 = true := by
  unfold chkE1 at h
  rw [Bool.and_eq_true] at h
  refine ⟨?_, h.2⟩
  have h1 := h.1
  split at h1
  · rename_i k t hk
    rw [of_decide_eq_true h1] at hk
    exact ⟨t, hk⟩
  · cases h1
theorem find_all2 {K : PySem.W.Frag} {z : Str} : ∀ {es : List DictEntry} {kvs : List (Str × D)}, all2 (chkE1 K) es kvs = true →
    (match kvs.lookup z with
      | some d => ∃ e, es.find? (·.key.isStr z) = some e ∧ chkC K 8 e.val d = true
      | none => es.find? (·.key.isStr z) = none) ∧ es.any (·.refKey) = false
  | [], [], _ => ⟨rfl, rfl⟩
  | [], _ :: _, h => by cases h
  | _ :: _, [], h => by cases h
  | e :: es, (k, d) :: kvs, h => by
    unfold all2 at h
    rw [Bool.and_eq_true] at h
    obtain ⟨⟨t, hk⟩, hv⟩ := chkE1_ok h.1
    obtain ⟨ih1, ih2⟩ := find_all2 (z := z) h.2
    have hs : e.key.isStr z = (k == z) := by rw [hk]; rfl
    have hr : e.refKey = false := by unfold DictEntry.refKey; rw [hk]
    refine ⟨?_, by rw [List.any_cons, hr, ih2]; rfl⟩
    rw [List.lookup_cons]
    by_cases hz : k = z
    · subst hz
      simp only [beq_self_eq_true] at hs ⊢
      exact ⟨e, by rw [List.find?_cons, hs], hv⟩
    · have h1 : (z == k) = false := beq_eq_false_iff_ne.mpr fun q => hz q.symm
      have h2 : e.key.isStr z = false := by rw [hs]; exact beq_eq_false_iff_ne.mpr hz
      rw [h1]
      simp only
      rw [List.find?_cons, h2]
      exact ih1
theorem chkD_ok {K : PySem.W.Frag} {x : Str} {kvs : List (Str × D)} (h : chkD K x kvs = true) : PySem.W.nsIn K mainGlobals x = some (some (.ref (He.ga K x))) ∧ ∀ z, KV K (He.ga K x) z (kvs.lookup z) := by
  unfold chkD at h
  split at h
  · rename_i a ha
    have hga : He.ga K x = a := by unfold He.ga; rw [ha]
    rw [hga]
    refine ⟨ha, fun z => ?_⟩
    split at h
    · rename_i oc od es n sl hl
      obtain ⟨h1, h2⟩ := find_all2 (z := z) h
      have hn : PySem.W.nsIn K a z = match es.toList.find? (·.key.isStr z) with
          | some e => some (some e.val)
          | none => if es.toList.any (·.refKey) then none else some none := by
        unfold PySem.W.nsIn
        rw [hl]
        rfl
      unfold KV
      split at h1
      · rename_i d hd
        obtain ⟨e, he, hc⟩ := h1
        obtain ⟨v, r, p⟩ := chkC_ok hc
        rw [he] at hn
        try rw [hd]
        exact ⟨e.val, v, hn, r, p⟩
      · rename_i hd
        try rw [hd]
        rw [h1, h2] at hn
        exact hn
    · cases h
  · cases h
/-! ### the defs -/
structure DefI where
  x : Str
  N : List Str
  ps : List Str
  M : List Nat
  sc : Scope
  body : List Stmt
  d : Def
def findI (x : Str) : List DefI → Option DefI
  | [] => none
  | i :: r => if i.x = x then some i else findI x r
def fnsOf (ds : List DefI) : List (Str × Nat) := ds.map fun i => (i.x, i.ps.length)
theorem findI_mem {x : Str} : ∀ {ds : List DefI} {i : DefI}, findI x ds = some i → i ∈ ds ∧ i.x = x
  | [], i, h => by cases h
  | j :: r, i, h => by
    unfold findI at h
    split at h
    · cases h; exact ⟨List.mem_cons_self, by assumption⟩
    · obtain ⟨h1, h2⟩ := findI_mem h
      exact ⟨List.mem_cons_of_mem _ h1, h2⟩
theorem fns_find {x : Str} {n : Nat} : ∀ {ds : List DefI}, (fnsOf ds).lookup x = some n → ∃ i, findI x ds = some i ∧ i.ps.length = n
  | [], h => by cases h
  | j :: r, h => by
    have h : List.lookup x ((j.x, j.ps.length) :: fnsOf r) = some n := h
    rw [List.lookup_cons] at h
    unfold findI
    by_cases e : j.x = x
    · subst e
      simp only [beq_self_eq_true] at h
      rw [if_pos rfl]
      exact ⟨j, rfl, by simpa using h⟩
    · have : (x == j.x) = false := beq_eq_false_iff_ne.mpr fun q => e q.symm
      rw [this] at h
      rw [if_neg e]
      exact fns_find h
def progOf (ds : List DefI) (glo : List (Str × D)) (cds : List (Str × List (Str × D))) (wf : Nat) : Prog :=
  ⟨fun x => (findI x ds).map (·.d), fun x => glo.lookup x, fun x => cds.lookup x, wf⟩
def tbOf (ds : List DefI) (glo : List (Str × D)) (cds : List (Str × List (Str × D))) (free : List Str) : Tb := ⟨fnsOf ds, glo.map (·.1), cds.map (·.1), free⟩
theorem DefOk.lv {G : Gm} {x : Str} {N ps : List Str} {sc : Scope} {body : List Stmt} (h : DefOk G x N ps sc body) (k : Nat) : DefOk { G with k := k } x N ps sc body := ⟨h.ex, h.scope⟩
/-- each def's compiled body is that of the text -/
def DefC (T : Tb) (i : DefI) : Prop := cBody2 T i.N i.M i.sc i.body = some i.d.body ∧ i.d.np = i.ps.length ∧ i.d.nn = i.N.length
theorem lookup_fst {α : Type} {x : Str} : ∀ {l : List (Str × α)}, x ∈ l.map (·.1) → ∃ y, l.lookup x = some y
  | [], h => by cases h
  | (k, v) :: r, h => by
    rw [List.lookup_cons]
    cases e : (x == k) with
    | true => exact ⟨v, rfl⟩
    | false =>
      simp only
      rcases List.mem_cons.mp h with q | q
      · have q : x = k := q
        subst q; simp at e
      · exact lookup_fst q
section
variable {G : Gm} {ds : List DefI} {glo : List (Str × D)} {cds : List (Str × List (Str × D))} {free : List Str} {wf : Nat}
theorem prog_ok (hD : ∀ i ∈ ds, DefOk G i.x i.N i.ps i.sc i.body) (hC : ∀ i ∈ ds, DefC (tbOf ds glo cds free) i)
    (hg : ∀ x y, glo.lookup x = some y → ∃ u v, G.mg x = some u ∧ RelV v u ∧ ∀ F ra, Rp G.K F ra v y) (hf : ∀ x ∈ free, G.mg x = none) (hcd : ∀ x kvs, cds.lookup x = some kvs → CdOk G x kvs) :
    ∀ k, TOk { G with k := k + 1 } ⟨run (progOf ds glo cds wf) k, (progOf ds glo cds wf).glo, (progOf ds glo cds wf).cd⟩ (tbOf ds glo cds free)
  | 0 => by
    refine ⟨fun x n h => ?_, fun x _ y hy => hg x y hy, hf, fun x hx => ?_⟩
    · obtain ⟨i, hi, rfl⟩ := fns_find h
      obtain ⟨hm, rfl⟩ := findI_mem hi
      exact fn_bad (G := { G with k := 0 }) ((hD i hm).lv 0) _ fun _ _ => rfl
    · obtain ⟨kvs, hk⟩ := lookup_fst hx
      exact ⟨kvs, hk, hcd x kvs hk⟩
  | k + 1 => by
    have ih := prog_ok hD hC hg hf hcd k
    refine ⟨fun x n h => ?_, fun x _ y hy => hg x y hy, hf, fun x hx => ?_⟩
    · obtain ⟨i, hi, rfl⟩ := fns_find h
      obtain ⟨hm, rfl⟩ := findI_mem hi
      obtain ⟨c1, c2, c3⟩ := hC i hm
      have := fn_hyp (G := { G with k := k + 1 }) (x := i.x) (wf := wf) ((hD i hm).lv (k + 1)) c2 c3 (cBody2_ok ih c1)
      rw [c2] at this
      have e : (fun st xs => run (progOf ds glo cds wf) (k + 1) i.x st xs) = runB ⟨run (progOf ds glo cds wf) k, (progOf ds glo cds wf).glo, (progOf ds glo cds wf).cd⟩ wf i.d := by
        funext st xs
        show (match (progOf ds glo cds wf).defs i.x with | some d => _ | none => _) = _
        have : (progOf ds glo cds wf).defs i.x = some i.d := by show (findI i.x ds).map (·.d) = _; rw [hi]; rfl
        rw [this]
        rfl
      show FnHyp _ i.x i.ps.length (fun st xs => run (progOf ds glo cds wf) (k + 1) i.x st xs)
      rw [e]
      exact this
    · obtain ⟨kvs, hk⟩ := lookup_fst hx
      exact ⟨kvs, hk, hcd x kvs hk⟩
end
/-! ### the law -/
/-- a def's exceptions, of any program and world -/
def CXA : CXT := fun outer H s E e s' => ∃ P w, L2.CX P w outer H s E e s'
theorem fnok_any {P : Program} {w : World} {K : PySem.W.Frag} {mg : Str → Option Value} {base : Heap} {k : Nat} {f : Addr} {fd : FuncData} {ps : List Str} {sp : Sp} (F : FnOk P w K mg base (L2.CX P w) k f fd ps sp) : FnOk P w K mg base CXA k f fd ps sp :=
  ⟨F.len, fun A outer s H args us vs Q E hr he hb hv hs => codeAny_mono (F.run A outer s H args us vs Q E hr he hb hv hs) fun r s' h => by
    cases r with
    | ok fl => cases fl <;> exact h
    | error e => exact ⟨P, w, h⟩⟩
theorem cxa_none (H : Hp) (s : Shared) (e : Value) (s' : Shared) (h : CXA [] H s (fun _ _ _ => False) e s') : False := by
  obtain ⟨P, w, a, B, H', cls, d, _, _, _, _, _, _, _, z⟩ := h
  exact z
/-- the law's promise, when it answers True at a script -/
theorem law_sp {K : PySem.W.Frag} {f : Store → List D → Res D} {H : Hp} {a : Addr} {ns : List Int} (hS : SqL K H a (ns.map V.int)) (h : ∃ st, f [] [.lst (ns.map .int)] = .ok (.bl true) st) : spD K 1 f [.ref a] H (fun v _ => v = .bl true) fun _ _ _ => False := by
  obtain ⟨st, h⟩ := h
  have r : ∀ l : List Int, RpL K H [] (l.map V.int) (l.map D.int) := by
    intro l
    induction l with
    | nil => exact .nil
    | cons x l ih => exact .cons (.int x) ih
  refine ⟨H, [], [], [], [.lst (ns.map .int)], ⟨Ex.refl H, .nil, List.nodup_nil⟩, .cons (.lst hS (r ns)) .nil, rfl, ?_⟩
  rw [h]
  intro v F' H' ra' fp' _ _ _ rv
  exact rpB rv
theorem chkG_ok {K : PySem.W.Frag} {h : Heap} {mg : Str → Option Value} (X : K.In h) (G : h.Ns mainGlobals mg) {x : Str} {d : D} (c : chkG K x d = true) : ∃ u v, mg x = some u ∧ RelV v u ∧ ∀ F ra, Rp K F ra v d := by
  unfold chkG at c
  split at c
  · rename_i v hv
    obtain ⟨x', r, p⟩ := chkC_ok c
    exact ⟨v, x', PySem.W.mg_of X G hv, r, p⟩
  · cases c
end Mn
end

section
set_option Elab.async false
set_option linter.all false
set_option maxRecDepth 100000
set_option maxHeartbeats 4000000
/-! MnR: from the head's facts to the law's def. -/
namespace Mn
open PySem PySem.Spec PyProof.Rows L2
/-- a def of the row: its statement, its names, what it is compiled to -/
structure RD where
  x : Str
  st : Stmt
  N : List Str
  ps : List Str
  M : List Nat
  d : Def
def RD.i (r : RD) : DefI := ⟨r.x, r.N, r.ps, r.M, defScope r.st, defBody r.st, r.d⟩
def RD.h (r : RD) : He.DefD := ⟨(r.x, none), r.x, r.x, defArgs r.st, defBody r.st, defScope r.st, [], []⟩
abbrev RD.Bind (r : RD) : Prop := ∀ (kV doc pm : Value) (an : Option Addr) (cdv ct : Value) (us : List Value), us.length = r.ps.length → bindArgs (PySem.W.fnOf r.x r.x (defArgs r.st) (defBody r.st) (defScope r.st) .none kV doc pm an cdv ct) ⟨us, []⟩ = pure (r.ps.zip us)
def faOf (rs : List RD) (free : List Str) : List He.Fa := rs.map (fun r => .glo r.x) ++ free.map .free
def tsOf (cds : List (Str × List (Str × D))) : List He.Tab := cds.map fun c => (fun K => He.ga K c.1, c.2.map (·.1))
def exOf (glo : List (Str × D)) (cds : List (Str × List (Str × D))) (K : PySem.W.Frag) : Bool := glo.all (fun g => chkG K g.1 g.2) && cds.all fun c => chkD K c.1 c.2
theorem lookup_mem {α : Type} {x : Str} {y : α} : ∀ {l : List (Str × α)}, l.lookup x = some y → (x, y) ∈ l
  | [], h => by cases h
  | (k, v) :: r, h => by
    rw [List.lookup_cons] at h
    cases e : (x == k) with
    | true =>
      rw [e] at h
      have : x = k := eq_of_beq e
      subst this
      cases h
      exact List.mem_cons_self
    | false =>
      rw [e] at h
      exact List.mem_cons_of_mem _ (lookup_mem h)
/-- what each def of the row must be shown to be -/
structure RD.Ok (T : Tb) (r : RD) : Prop where
  bind : r.Bind
  scope : FnScope r.N r.ps (defScope r.st)
  comp : cBody2 T r.N r.M (defScope r.st) (defBody r.st) = some r.d.body
  np : r.d.np = r.ps.length
  nn : r.d.nn = r.N.length
theorem row_law {rs : List RD} {glo : List (Str × D)} {cds : List (Str × List (Str × D))} {free : List Str} {wf k : Nat} {P : Program} {w : World} {K : PySem.W.Frag} {h : Heap} {mg : Str → Option Value} {li : RD} {x : Str}
    (X : K.In h) (Gh : h.Ns mainGlobals mg) (c : He.SaysX (faOf rs free) (rs.map RD.h) (tsOf cds) [] (exOf glo cds) w h K)
    (hr : ∀ r ∈ rs, r.Ok (tbOf (rs.map RD.i) glo cds free)) (hlm : li ∈ rs) (hlx : li.x = "law") (hlp : li.ps = [x])
    (hfi : findI ("law" : Str) (rs.map RD.i) = some li.i)
    (hrun : ∀ ns : List Int, ns.length ≤ 63 → ∃ st, run (progOf (rs.map RD.i) glo cds wf) (k + 1) "law" [] [.lst (ns.map .int)] = .ok (.bl true) st) {f0 : Addr} (hm : mg "law" = some (.ref f0)) :
    ∃ (fd : FuncData) (sp : Sp), (∀ (s : Shared) (v : Value), BindsTo s fd ⟨[v], []⟩ [(x, v)]) ∧
      (∀ (H : Hp) (a : Addr) (ns : List Int), ns.length ≤ 63 → SqL K H a (ns.map V.int) → sp [.ref a] H (fun v _ => v = .bl true) fun _ _ _ => False) ∧
      ∀ base : Heap, K.In base → base.Ns mainGlobals mg → FnOk P w K mg base CXA (k + 2) f0 fd [x] sp := by
  have hD : ∀ (base : Heap) (i : DefI), i ∈ rs.map RD.i → DefOk ⟨P, w, K, mg, base, 0⟩ i.x i.N i.ps i.sc i.body := fun base i hi => by
    obtain ⟨r, hr1, rfl⟩ := List.mem_map.mp hi
    have ro := hr r hr1
    obtain ⟨fd, F⟩ := c.t.d.defs (d := r.h) (List.mem_map_of_mem hr1)
    have hg : mg r.x = some (.ref (He.ga K r.x)) := He.glo_ok X Gh (c.t.d.facts (f := .glo r.x) (List.mem_append_left _ (List.mem_map_of_mem (f := fun r : RD => He.Fa.glo r.x) hr1)))
    have F' : FunD K r.x r.x (defArgs r.st) (defBody r.st) (defScope r.st) [] [] (He.ga K r.x) fd := F
    exact ⟨⟨He.ga K r.x, fd, r.x, defArgs r.st, [], [], hg, F', FunD.bindsN F' ro.bind⟩, ro.scope⟩
  obtain ⟨hx1, hx2⟩ := Bool.and_eq_true_iff.mp (show (glo.all (fun g => chkG K g.1 g.2) && cds.all fun c => chkD K c.1 c.2) = true from c.more)
  have main : ∀ base : Heap, TOk ⟨P, w, K, mg, base, k + 1⟩ ⟨run (progOf (rs.map RD.i) glo cds wf) k, (progOf (rs.map RD.i) glo cds wf).glo, (progOf (rs.map RD.i) glo cds wf).cd⟩ (tbOf (rs.map RD.i) glo cds free) := fun base =>
    prog_ok (G := ⟨P, w, K, mg, base, 0⟩) (hD base) (fun i hi => by
      obtain ⟨r, hr1, rfl⟩ := List.mem_map.mp hi
      have ro := hr r hr1
      exact ⟨ro.comp, ro.np, ro.nn⟩) (fun x y hy => chkG_ok X Gh (List.all_eq_true.mp hx1 _ (lookup_mem hy)))
      (fun x hx => He.free_ok X Gh (c.t.d.facts (f := .free x) (List.mem_append_right _ (List.mem_map_of_mem hx))))
      (fun x kvs hk => by
        have hmem := lookup_mem hk
        obtain ⟨h1, h2⟩ := chkD_ok (List.all_eq_true.mp hx2 _ hmem)
        obtain ⟨j, hj, e⟩ := List.mem_iff_getElem.mp hmem
        obtain ⟨es, n, hd⟩ := c.t.tab j (t := (fun K => He.ga K x, kvs.map (·.1))) (by
          show (cds.map _)[j]? = _
          rw [List.getElem?_map, List.getElem?_eq_getElem hj, e]
          rfl)
        exact ⟨He.ga K x, es, n, PySem.W.mg_of X Gh h1, hd, h2⟩) k
  obtain ⟨fd, F⟩ := c.t.d.defs (d := li.h) (List.mem_map_of_mem hlm)
  have hg : mg li.x = some (.ref (He.ga K li.x)) := He.glo_ok X Gh (c.t.d.facts (f := .glo li.x) (List.mem_append_left _ (List.mem_map_of_mem (f := fun r : RD => He.Fa.glo r.x) hlm)))
  have F' : FunD K li.x li.x (defArgs li.st) (defBody li.st) (defScope li.st) [] [] (He.ga K li.x) fd := F
  have ef : f0 = He.ga K li.x := by
    have hg : mg ("law" : Str) = some (.ref (He.ga K li.x)) := by rw [← hlx]; exact hg
    rw [hm] at hg
    exact Value.ref.inj (Option.some.inj hg)
  subst ef
  have ro := hr li hlm
  have bA := FunD.bindsN F' ro.bind
  refine ⟨fd, spD K 1 (fun st xs => run (progOf (rs.map RD.i) glo cds wf) (k + 1) "law" st xs), fun s v => ?_, fun H a ns hn hS => law_sp hS (hrun ns hn), fun base hb hns => ?_⟩
  · have := FunD.bindsA (ps := [x]) F' (by rw [← hlp]; exact ro.bind)
    exact this s [v] rfl
  · have hsc : FnScope li.N [x] (defScope li.st) := by rw [← hlp]; exact ro.scope
    have hnp : li.d.np = [x].length := by rw [ro.np, hlp]
    have := fn_okD (G := ⟨P, w, K, mg, base, k + 1⟩) (wf := wf) F' hsc hnp ro.nn (cBody2_ok (main base) ro.comp)
    have e : (fun st xs => run (progOf (rs.map RD.i) glo cds wf) (k + 1) "law" st xs) = runB ⟨run (progOf (rs.map RD.i) glo cds wf) k, (progOf (rs.map RD.i) glo cds wf).glo, (progOf (rs.map RD.i) glo cds wf).cd⟩ wf li.d := by
      funext st xs
      show (match (progOf (rs.map RD.i) glo cds wf).defs "law" with | some d => _ | none => _) = _
      have : (progOf (rs.map RD.i) glo cds wf).defs "law" = some li.d := by show (findI "law" (rs.map RD.i)).map (·.d) = _; rw [hfi]; rfl
      rw [this]
      rfl
    rw [e]
    rw [hnp] at this
    exact fnok_any this
end Mn
end

section
set_option Elab.async false
set_option linter.all false
set_option maxRecDepth 100000
/-! MnQ: what compiled texts do, step by step (plain). -/
namespace Mn
open PySem
section
variable {Γ : Ctx} {wf : Nat} {st : Store} {ρ : Slots}
theorem asB_ok (b : Bool) : asB (.ok (.bl b) st) = .ok b st := rfl
theorem asI_ok (i : Int) : asI (.ok (.int i) st) = .ok i st := rfl
theorem asL_lst (l : List D) : asL (.ok (.lst l) st) = .ok l st := rfl
theorem asL_tup (l : List D) : asL (.ok (.tup l) st) = .ok l st := rfl
theorem asIt_lst (l : List D) : asIt (.ok (.lst l) st) = .ok l st := rfl
theorem asIt_tup (l : List D) : asIt (.ok (.tup l) st) = .ok l st := rfl
theorem asIt_str (z : Str) : asIt (.ok (.str z) st) = .ok (chars z) st := rfl
theorem andB_ok (x y : Bool) : andB (.ok (.bl x) st) (fun st => .ok (.bl y) st) = .ok (.bl (x && y)) st := by cases x <;> rfl
theorem andB_t (f : Store → Res D) : andB (.ok (.bl true) st) f = f st := rfl
theorem andB_f (f : Store → Res D) : andB (.ok (.bl false) st) f = .ok (.bl false) st := rfl
theorem orB_ok (x y : Bool) : orB (.ok (.bl x) st) (fun st => .ok (.bl y) st) = .ok (.bl (x || y)) st := by cases x <;> rfl
theorem orB_t (f : Store → Res D) : orB (.ok (.bl true) st) f = .ok (.bl true) st := rfl
theorem orB_f (f : Store → Res D) : orB (.ok (.bl false) st) f = f st := rfl
theorem iteB_t (f g : Store → Res D) : iteB (.ok (.bl true) st) f g = f st := rfl
theorem iteB_f (f g : Store → Res D) : iteB (.ok (.bl false) st) f g = g st := rfl
theorem iteB_ok (x : Bool) (f g : Store → Res D) : iteB (.ok (.bl x) st) f g = if x = true then f st else g st := by cases x <;> rfl
theorem varD_d (x : D) : varD (some (.d x)) st = .ok x st := rfl
theorem ifO_t (f g : Store → Out) : ifO (.ok (.bl true) st) ρ f g = f st := rfl
theorem ifO_f (f g : Store → Out) : ifO (.ok (.bl false) st) ρ f g = g st := rfl
theorem ifO_ok (x : Bool) (f g : Store → Out) : ifO (.ok (.bl x) st) ρ f g = if x = true then f st else g st := by cases x <;> rfl
theorem nxO_some (ρ' : Slots) : nxO (some ρ') st = .nx ρ' st := rfl
theorem putO_some (ρ' : Slots) (f : Slots → Store → Out) : putO (some ρ') f st = f ρ' st := rfl
theorem out_ok {α : Type} (a : α) (f : α → Store → Out) : (Res.ok a st).out ρ f = f a st := rfl
theorem seq_nx (ρ' : Slots) (f : Slots → Store → Out) : (Out.nx ρ' st).seq f = f ρ' st := rfl
theorem seq_rt (d : D) (f : Slots → Store → Out) : (Out.rt d st).seq f = .rt d st := rfl
theorem seq_ite (c : Prop) [Decidable c] (a b : Out) (f : Slots → Store → Out) : (if c then a else b).seq f = if c then a.seq f else b.seq f := by split <;> rfl
theorem put_1 (i : Nat) (x : D) : put [i] x ρ = some (ρ.set i (.d x)) := rfl
theorem put_2 (i j : Nat) (x y : D) : put [i, j] (.tup [x, y]) ρ = some ((ρ.set i (.d x)).set j (.d y)) := rfl
theorem put_3 (i j k : Nat) (x y z : D) : put [i, j, k] (.tup [x, y, z]) ρ = some (((ρ.set i (.d x)).set j (.d y)).set k (.d z)) := rfl
theorem strR_str (z : Str) (f : Str → Res D) : strR (.str z) f = f z := rfl
theorem lcTurn_t {fc fe : Slots → Store → Res D} {y : D} (h1 : fc ρ st = .ok (.bl true) st) (h2 : fe ρ st = .ok y st) : lcTurn (some ρ) fc fe st = .ok (some y) st := by
  show ((noex (asB (fc ρ st))).bind _) = _
  rw [h1]
  show ((noex (fe ρ st)).bind _) = _
  rw [h2]
  rfl
theorem bl_len_s {z : Str} (h : z.length ≤ LIM) : bfun .len [.str z] = some (.int z.length) := by simp only [bfun, if_pos h]
theorem bl_len_l (l : List D) : bfun .len [.lst l] = some (.int l.length) := rfl
theorem bl_len_t (l : List D) : bfun .len [.tup l] = some (.int l.length) := rfl
theorem c_lt (i j : Int) : cmp .Lt (.int i) (.int j) = some (.bl (decide (i < j))) := rfl
theorem c_le (i j : Int) : cmp .LtE (.int i) (.int j) = some (.bl (decide (i ≤ j))) := rfl
theorem c_gt (i j : Int) : cmp .Gt (.int i) (.int j) = some (.bl (decide (j < i))) := rfl
theorem c_ge (i j : Int) : cmp .GtE (.int i) (.int j) = some (.bl (decide (j ≤ i))) := rfl
theorem c_is (a : D) : cmp .Is a .non = some (.bl (isN a)) := rfl
theorem c_isn (a : D) : cmp .IsNot a .non = some (.bl (!isN a)) := rfl
theorem c_eq (a b : D) : cmp .Eq a b = (eqD a b).map .bl := rfl
theorem c_ne (a b : D) : cmp .NotEq a b = (eqD a b).map fun r => .bl (!r) := rfl
theorem c_in (a b : D) : cmp .In a b = (inD a b).map .bl := rfl
theorem c_nin (a b : D) : cmp .NotIn a b = (inD a b).map fun r => .bl (!r) := rfl
theorem b_add_i (i j : Int) : bin .Add (.int i) (.int j) = some (.int (i + j)) := rfl
theorem b_sub_i (i j : Int) : bin .Sub (.int i) (.int j) = some (.int (i - j)) := rfl
theorem b_add_s {x y : Str} (h : x.length + y.length ≤ LIM) : bin .Add (.str x) (.str y) = some (.str (x ++ y)) := by simp only [bin, if_pos h]
theorem b_add_l {x y : List D} (h : x.length + y.length ≤ LIM) : bin .Add (.lst x) (.lst y) = some (.lst (x ++ y)) := by simp only [bin, if_pos h]
theorem eqD_str {a b : Str} (ha : PyData.strOk a = true) (hb : PyData.strOk b = true) : eqD (.str a) (.str b) = some (decide (a = b)) := by
  unfold eqD pyOk
  simp only [py, Option.bind_some]
  have h1 : ∀ s : Str, PyData.strOk s = true → SeqAt.shaped (.str s) = true := fun s h => by unfold SeqAt.shaped; simp [PyData.canLay0, PyData.depth, h]
  rw [if_pos (h1 a ha), if_pos (h1 b hb)]
  simp only [Option.bind_some, Option.map_some]
  rfl
end
end Mn
end

section
set_option Elab.async false
set_option linter.all false
set_option maxRecDepth 100000
set_option maxHeartbeats 0
namespace G
open PySem PySem.Spec PyProof.Rows L2
-- law_k83_lines_read
def topS (i : Nat) : Stmt := PySem.Challenge.pw_diesnon_k83_lines_read.main.body.getD i (.Pass ⟨0, 0, 0, 0⟩)
def gloL : List (PySem.Str × Mn.D) := [("MAX_NUMBER", .int 1000000), ("MAX_NAME", .int 20), ("WORDS", .tup [(.str "next"), (.str "prev"), (.str "open"), (.str "later"), (.str "earlier"), (.str "if"), (.str "is"), (.str "not"), (.str "and"), (.str "or"), (.str "yes"), (.str "calendar"), (.str "run"), (.str "within"), (.str "known"), (.str "to"), (.str "closed"), (.str "assume"), (.str "claim"), (.str "event"), (.str "rule"), (.str "on"), (.str "when"), (.str "due"), (.str "met"), (.str "called"), (.str "missed"), (.str "filed")]), ("SMALL", .str "abcdefghijklmnopqrstuvwxyz"), ("REST", .str "abcdefghijklmnopqrstuvwxyz0123456789"), ("DIGITS", .str "0123456789"), ("MAX_INDEX", .int 999), ("WHOLE", .tup [(.str "calendar"), (.str "event"), (.str "rule")])]
def cdsL : List (PySem.Str × List (PySem.Str × Mn.D)) := [("FORMS", [("assume", .str "t"), ("drop", .str "k"), ("decide", .str "t"), ("most", .str "u"), ("span", .str "u"), ("orders", .str "u"), ("run", .str "nt"), ("need", .str "t"), ("always", .str "t"), ("behind", .str "nn"), ("unused", .str ""), ("open", .str "d"), ("file", .str "nd"), ("correct", .str "nd"), ("withdraw", .str "n"), ("advance", .str "d"), ("undo", .str ""), ("stand", .str "t"), ("due", .str "n"), ("fixed", .str "n"), ("text", .str "")])]
def freeL : List PySem.Str := ["len", "int", "abs", "str", "tuple", "all", "isinstance", "range", "zip"]
abbrev s_is_name : Stmt := topS 6
abbrev s_read_index : Stmt := topS 12
abbrev s_read_day : Stmt := topS 13
abbrev s_read_part : Stmt := topS 14
abbrev s_read_stretch : Stmt := topS 15
abbrev s_read_publish : Stmt := topS 16
abbrev s_read_rest : Stmt := topS 17
abbrev s_read_command : Stmt := topS 18
abbrev s__law_row : Stmt := topS 20
abbrev s__law_at : Stmt := topS 21
abbrev s__law_lines : Stmt := topS 22
abbrev s__law_written : Stmt := topS 23
abbrev s__law_spoilt : Stmt := topS 24
abbrev s_law : Stmt := topS 25
def ir_is_name : Mn.Def := ⟨1, 2, [
    (.ite (.or (.cmp .Lt (.blt .len [(.var 0)]) (.k (.int 1))) (.or (.cmp .Gt (.blt .len [(.var 0)]) (.glo "MAX_NAME")) (.cmp .In (.var 0) (.glo "WORDS")))) [(.ret (.k (.bl false)))] []),
    (.ret (.and (.cmp .In (.ix (.var 0) (.k (.int 0))) (.glo "SMALL")) (.blt .all [(.lc [1] (.var 0) (.k (.bl true)) (.cmp .In (.var 1) (.glo "REST")) [1])])))]⟩
def r_is_name : Mn.RD := ⟨"is_name", s_is_name, ["text", "sign"], ["text"], [], ir_is_name⟩
def ir_read_index : Mn.Def := ⟨1, 2, [
    (.ite (.or (.cmp .Lt (.blt .len [(.var 0)]) (.k (.int 1))) (.or (.cmp .Gt (.blt .len [(.var 0)]) (.k (.int 7))) (.not (.blt .all [(.lc [1] (.var 0) (.k (.bl true)) (.cmp .In (.var 1) (.glo "DIGITS")) [1])])))) [(.ret (.k .non))] []),
    (.ite (.and (.cmp .Gt (.blt .len [(.var 0)]) (.k (.int 1))) (.cmp .Eq (.ix (.var 0) (.k (.int 0))) (.k (.str "0")))) [(.ret (.k .non))] []),
    (.ret (.blt .int [(.var 0)]))]⟩
def r_read_index : Mn.RD := ⟨"read_index", s_read_index, ["word", "sign"], ["word"], [], ir_read_index⟩
def ir_read_day : Mn.Def := ⟨1, 3, [
    (.asg [1] (.k (.int 1))),
    (.ite (.cmp .Eq (.slcH (.var 0) (.k (.int 1))) (.k (.str "-"))) [(.asg [1] (.neg (.k (.int 1)))), (.asg [0] (.slcL (.var 0) (.k (.int 1))))] []),
    (.asg [2] (.call "read_index" [(.var 0)])),
    (.ite (.or (.cmp .Is (.var 2) (.k .non)) (.cmp .Gt (.var 2) (.glo "MAX_NUMBER"))) [(.ret (.k .non))] []),
    (.ret (.bin .Mult (.var 1) (.var 2)))]⟩
def r_read_day : Mn.RD := ⟨"read_day", s_read_day, ["word", "sign", "number"], ["word"], [], ir_read_day⟩
def ir_read_part : Mn.Def := ⟨2, 3, [
    (.ite (.cmp .Eq (.var 0) (.k (.str "n"))) [(.ite (.call "is_name" [(.var 1)]) [(.ret (.var 1))] []), (.ret (.k .non))] []),
    (.ite (.cmp .Eq (.var 0) (.k (.str "d"))) [(.ret (.call "read_day" [(.var 1)]))] []),
    (.asg [2] (.call "read_index" [(.var 1)])),
    (.ite (.or (.cmp .Is (.var 2) (.k .non)) (.cmp .Gt (.var 2) (.glo "MAX_INDEX"))) [(.ret (.k .non))] []),
    (.ret (.var 2))]⟩
def r_read_part : Mn.RD := ⟨"read_part", s_read_part, ["sign", "word", "number"], ["sign", "word"], [], ir_read_part⟩
def ir_read_stretch : Mn.Def := ⟨1, 5, [
    (.asg [2, 3, 4] (.sm .partition (.var 0) [(.k (.str ".."))])),
    (.asg [1] (.tup [(.call "read_day" [(.var 2)]), (.call "read_day" [(.var 4)])])),
    (.ite (.or (.cmp .Eq (.var 3) (.k (.str ""))) (.cmp .In (.k .non) (.var 1))) [(.ret (.k .non))] []),
    (.ret (.var 1))]⟩
def r_read_stretch : Mn.RD := ⟨"read_stretch", s_read_stretch, ["word", "pair", "first", "sign", "last"], ["word"], [], ir_read_stretch⟩
def ir_read_publish : Mn.Def := ⟨1, 5, [
    (.ite (.or (.cmp .Lt (.blt .len [(.var 0)]) (.k (.int 3))) (.cmp .Eq (.blt .len [(.var 0)]) (.k (.int 4)))) [(.ret (.k .non))] []),
    (.ite (.and (.cmp .Gt (.blt .len [(.var 0)]) (.k (.int 3))) (.cmp .NotEq (.ix (.var 0) (.k (.int 3))) (.k (.str "closed")))) [(.ret (.k .non))] []),
    (.asg [1] (.call "read_part" [(.k (.str "n")), (.ix (.var 0) (.k (.int 1)))])),
    (.asg [2] (.call "read_day" [(.ix (.var 0) (.k (.int 2)))])),
    (.asg [3] (.lc [4] (.slcL (.var 0) (.k (.int 4))) (.k (.bl true)) (.call "read_stretch" [(.var 4)]) [4])),
    (.ite (.or (.cmp .Is (.var 1) (.k .non)) (.or (.cmp .Is (.var 2) (.k .non)) (.cmp .In (.k .non) (.var 3)))) [(.ret (.k .non))] []),
    (.ret (.tup [(.k (.str "publish")), (.var 1), (.var 2), (.blt .tuple [(.var 3)])]))]⟩
def r_read_publish : Mn.RD := ⟨"read_publish", s_read_publish, ["words", "name", "day", "closed", "word"], ["words"], [], ir_read_publish⟩
def ir_read_rest : Mn.Def := ⟨3, 9, [
    (.ite (.cmp .Eq (.var 0) (.k (.str "t"))) [(.ret (.tup [(.var 1), (.var 2)]))] []),
    (.ite (.cmp .Eq (.var 0) (.k (.str "u"))) [(.asg [6, 7, 8] (.sm .partition (.var 2) [(.k (.str "|"))])), (.ite (.cmp .Eq (.var 7) (.k (.str ""))) [(.ret (.k .non))] []), (.ret (.tup [(.var 1), (.var 6), (.var 8)]))] []),
    (.asg [3, 4, 5] (.sm .partition (.var 2) [(.k (.str " "))])),
    (.ite (.not (.call "is_name" [(.var 3)])) [(.ret (.k .non))] []),
    (.ret (.tup [(.var 1), (.var 3), (.var 5)]))]⟩
def r_read_rest : Mn.RD := ⟨"read_rest", s_read_rest, ["form", "word", "rest", "name", "_", "text", "first", "bar", "second"], ["form", "word", "rest"], [], ir_read_rest⟩
def ir_read_command : Mn.Def := ⟨1, 9, [
    (.ite (.cmp .Eq (.var 0) (.k (.str ""))) [(.ret (.tup []))] []),
    (.asg [4, 5, 6] (.sm .partition (.var 0) [(.k (.str " "))])),
    (.ite (.cmp .In (.var 4) (.glo "WHOLE")) [(.ret (.tup [(.var 4), (.var 0)]))] []),
    (.asg [1] (.sm .split (.var 0) [(.k (.str " "))])),
    (.ite (.cmp .Eq (.var 4) (.k (.str "publish"))) [(.ret (.call "read_publish" [(.var 1)]))] []),
    (.ite (.cdin true "FORMS" (.var 4)) [(.ret (.k .non))] []),
    (.asg [2] (.cdix "FORMS" (.var 4))),
    (.ite (.cmp .In (.var 2) (.tup [(.k (.str "t")), (.k (.str "u")), (.k (.str "nt"))])) [(.ret (.call "read_rest" [(.var 2), (.var 4), (.var 6)]))] []),
    (.ite (.cmp .NotEq (.blt .len [(.var 1)]) (.bin .Add (.blt .len [(.var 2)]) (.k (.int 1)))) [(.ret (.k .non))] []),
    (.asg [3] (.lc [7, 8] (.zip (.var 2) (.slcL (.var 1) (.k (.int 1)))) (.k (.bl true)) (.call "read_part" [(.var 7), (.var 8)]) [7, 8])),
    (.ite (.cmp .In (.k .non) (.var 3)) [(.ret (.k .non))] []),
    (.ret (.tupS [(.var 4)] (.var 3)))]⟩
def r_read_command : Mn.RD := ⟨"read_command", s_read_command, ["line", "words", "form", "parts", "word", "_", "rest", "sign", "part"], ["line"], [], ir_read_command⟩
def ir__law_row : Mn.Def := ⟨1, 6, [
    (.newl 1 (.lst [])),
    (.loop [2] (.rng1 (.blt .len [(.var 0)])) [(.asg [3] (.blt .abs [(.blt .int [(.ix (.var 0) (.var 2))])])), (.ite (.cmp .GtE (.var 3) (.bin .Pow (.k (.int 10)) (.k (.int 18)))) [(.loop [4] (.rng1 (.k (.int 40))) [(.ite (.cmp .Gt (.var 3) (.k (.int 0))) [(.app 1 (.bin .Mod (.blt .int [(.var 3)]) (.k (.int 1009)))), (.asg [3] (.bin .FloorDiv (.var 3) (.k (.int 1009))))] [])])] [(.asg [5] (.bin .Mod (.blt .int [(.bin .Add (.bin .Add (.bin .Mult (.var 3) (.k (.int 48271))) (.bin .Mult (.var 2) (.k (.int 69621)))) (.k (.int 12345)))]) (.k (.int 2147483647)))), (.loop [4] (.rng1 (.k (.int 6))) [(.asg [5] (.bin .Mod (.blt .int [(.bin .Add (.bin .Add (.bin .Mult (.var 5) (.k (.int 16807))) (.bin .Mult (.k (.int 11)) (.var 4))) (.k (.int 1)))]) (.k (.int 2147483647)))), (.app 1 (.bin .Mod (.blt .int [(.bin .FloorDiv (.var 5) (.k (.int 7)))]) (.k (.int 1009))))])])]),
    (.frz [1] (.ret (.var 1)))]⟩
def r__law_row : Mn.RD := ⟨"_law_row", s__law_row, ["_law_script", "_law_row_here", "_law_k", "_law_cell", "_law_turn", "_law_mixed"], ["_law_script"], [1], ir__law_row⟩
def ir__law_at : Mn.Def := ⟨2, 2, [
    (.ite (.chn .LtE .Lt (.k (.int 0)) (.var 1) (.blt .len [(.var 0)])) [(.ret (.ix (.var 0) (.var 1)))] []),
    (.ret (.k (.int 0)))]⟩
def r__law_at : Mn.RD := ⟨"_law_at", s__law_at, ["_law_row_here", "_law_at_here"], ["_law_row_here", "_law_at_here"], [], ir__law_at⟩
def ir__law_lines : Mn.Def := ⟨1, 11, [
    (.asg [1] (.lst [(.k (.str "")), (.k (.str "a <= b")), (.k (.str "yes")), (.k (.str " x")), (.k (.str "next c(a) ")), (.k (.str "?")), (.k (.str "((")), (.k (.str "a  b"))])),
    (.asg [2] (.ix (.var 1) (.bin .Mod (.blt .int [(.call "_law_at" [(.var 0), (.k (.int 0))])]) (.k (.int 8))))),
    (.asg [3] (.ix (.var 1) (.bin .Mod (.blt .int [(.call "_law_at" [(.var 0), (.k (.int 1))])]) (.k (.int 8))))),
    (.asg [4] (.ix (.lst [(.k (.str "served")), (.k (.str "a")), (.k (.str "z9")), (.k (.str "court"))]) (.bin .Mod (.blt .int [(.call "_law_at" [(.var 0), (.k (.int 2))])]) (.k (.int 4))))),
    (.asg [5] (.ix (.lst [(.k (.str "reply")), (.k (.str "b")), (.k (.str "c"))]) (.bin .Mod (.blt .int [(.call "_law_at" [(.var 0), (.k (.int 3))])]) (.k (.int 3))))),
    (.asg [6] (.ix (.lst [(.bin .Sub (.blt .int [(.call "_law_at" [(.var 0), (.k (.int 4))])]) (.k (.int 500))), (.k (.int 0)), (.neg (.k (.int 1000000))), (.k (.int 1000000)), (.neg (.k (.int 7)))]) (.bin .Mod (.blt .int [(.call "_law_at" [(.var 0), (.k (.int 5))])]) (.k (.int 5))))),
    (.asg [7] (.ix (.lst [(.k (.int 0)), (.k (.int 9)), (.k (.int 10)), (.k (.int 999))]) (.bin .Mod (.blt .int [(.call "_law_at" [(.var 0), (.k (.int 6))])]) (.k (.int 4))))),
    (.newl 8 (.lst [])),
    (.loop [9] (.rng1 (.bin .Mod (.blt .int [(.call "_law_at" [(.var 0), (.k (.int 7))])]) (.k (.int 4)))) [(.app 8 (.tup [(.bin .Sub (.blt .int [(.call "_law_at" [(.var 0), (.bin .Add (.k (.int 8)) (.var 9))])]) (.k (.int 400))), (.bin .Sub (.blt .int [(.call "_law_at" [(.var 0), (.bin .Add (.k (.int 12)) (.var 9))])]) (.k (.int 300)))]))]),
    (.asg [10] (.lst [(.tup [(.k (.str "assume")), (.var 2)]), (.tup [(.k (.str "drop")), (.var 7)]), (.tup [(.k (.str "decide")), (.var 2)]), (.tup [(.k (.str "most")), (.var 2), (.var 3)]), (.tup [(.k (.str "span")), (.var 2), (.var 3)]), (.tup [(.k (.str "orders")), (.var 3), (.var 2)])])),
    (.asg [10] (.bin .Add (.var 10) (.lst [(.tup [(.k (.str "run")), (.var 4), (.var 2)]), (.tup [(.k (.str "need")), (.var 3)]), (.tup [(.k (.str "always")), (.var 2)]), (.tup [(.k (.str "behind")), (.var 4), (.var 5)]), (.tup [(.k (.str "unused"))]), (.tup [(.k (.str "open")), (.var 6)]), (.tup [(.k (.str "undo"))])]))),
    (.asg [10] (.bin .Add (.var 10) (.lst [(.tup [(.k (.str "file")), (.var 4), (.var 6)]), (.tup [(.k (.str "correct")), (.var 5), (.var 6)]), (.tup [(.k (.str "withdraw")), (.var 4)]), (.tup [(.k (.str "advance")), (.var 6)]), (.tup [(.k (.str "stand")), (.var 3)]), (.tup [(.k (.str "due")), (.var 5)]), (.tup [(.k (.str "fixed")), (.var 4)])]))),
    (.frz [8] (.ret (.bin .Add (.var 10) (.lst [(.tup [(.k (.str "text"))]), (.tup [(.k (.str "publish")), (.var 4), (.var 6), (.blt .tuple [(.var 8)])])]))))]⟩
def r__law_lines : Mn.RD := ⟨"_law_lines", s__law_lines, ["_law_row_here", "_law_texts", "_law_text", "_law_other", "_law_name", "_law_second", "_law_day", "_law_index", "_law_closed", "_law_k", "_law_lines_here"], ["_law_row_here"], [8], ir__law_lines⟩
def ir__law_written : Mn.Def := ⟨1, 6, [
    (.asg [1] (.ix (.var 0) (.k (.int 0)))),
    (.ite (.cmp .In (.var 1) (.lst [(.k (.str "most")), (.k (.str "span")), (.k (.str "orders"))])) [(.ret (.bin .Add (.bin .Add (.bin .Add (.bin .Add (.var 1) (.k (.str " "))) (.ix (.var 0) (.k (.int 1)))) (.k (.str "|"))) (.ix (.var 0) (.k (.int 2)))))] []),
    (.ite (.cmp .Eq (.var 1) (.k (.str "publish"))) [(.asg [2] (.bin .Add (.bin .Add (.bin .Add (.k (.str "publish ")) (.ix (.var 0) (.k (.int 1)))) (.k (.str " "))) (.blt .str [(.ix (.var 0) (.k (.int 2)))]))), (.ite (.cmp .Gt (.blt .len [(.ix (.var 0) (.k (.int 3)))]) (.k (.int 0))) [(.asg [2] (.bin .Add (.bin .Add (.var 2) (.k (.str " closed "))) (.sm .join (.k (.str " ")) [(.lc [4, 5] (.ix (.var 0) (.k (.int 3))) (.k (.bl true)) (.bin .Add (.bin .Add (.blt .str [(.var 4)]) (.k (.str ".."))) (.blt .str [(.var 5)])) [4, 5])])))] []), (.ret (.var 2))] []),
    (.ret (.sm .join (.k (.str " ")) [(.lc [3] (.var 0) (.k (.bl true)) (.blt .str [(.var 3)]) [3])]))]⟩
def r__law_written : Mn.RD := ⟨"_law_written", s__law_written, ["_law_parts", "_law_word", "_law_text", "_law_part", "_law_first", "_law_last"], ["_law_parts"], [], ir__law_written⟩
def ir__law_spoilt : Mn.Def := ⟨2, 6, [
    (.asg [2] (.ix (.var 0) (.k (.int 0)))),
    (.asg [3] (.lst [(.bin .Add (.k (.str " ")) (.var 1)), (.bin .Add (.sm .upper (.var 2) []) (.slcL (.var 1) (.blt .len [(.var 2)]))), (.bin .Add (.bin .Add (.var 2) (.k (.str "x"))) (.slcL (.var 1) (.blt .len [(.var 2)])))])),
    (.ite (.cmp .In (.var 2) (.lst [(.k (.str "assume")), (.k (.str "decide")), (.k (.str "need")), (.k (.str "always")), (.k (.str "stand"))])) [(.ret (.var 3))] []),
    (.ite (.cmp .In (.var 2) (.lst [(.k (.str "most")), (.k (.str "span")), (.k (.str "orders"))])) [(.ret (.bin .Add (.var 3) (.lst [(.sm .replace (.var 1) [(.k (.str "|")), (.k (.str " "))]), (.var 2)])))] []),
    (.ite (.cmp .Eq (.var 2) (.k (.str "run"))) [(.ret (.bin .Add (.var 3) (.lst [(.k (.str "run")), (.k (.str "run ")), (.bin .Add (.k (.str "run  ")) (.ix (.var 0) (.k (.int 2)))), (.bin .Add (.k (.str "run A ")) (.ix (.var 0) (.k (.int 2)))), (.bin .Add (.k (.str "run next ")) (.ix (.var 0) (.k (.int 2)))), (.k (.str "run 9 x"))])))] []),
    (.asg [3] (.bin .Add (.var 3) (.lst [(.bin .Add (.var 1) (.k (.str " "))), (.bin .Add (.var 1) (.k (.str " x"))), (.bin .Add (.sm .replace3 (.var 1) [(.k (.str " ")), (.k (.str "  ")), (.k (.int 1))]) (.k (.str " ")))]))),
    (.ite (.cmp .In (.var 2) (.lst [(.k (.str "unused")), (.k (.str "undo")), (.k (.str "text"))])) [(.ret (.bin .Add (.var 3) (.lst [(.bin .Add (.var 1) (.k (.str " 1")))])))] []),
    (.asg [3] (.bin .Add (.var 3) (.lst [(.var 2), (.bin .Add (.bin .Add (.var 2) (.k (.str " "))) (.slcL (.var 1) (.blt .len [(.var 2)])))]))),
    (.ite (.cmp .Eq (.var 2) (.k (.str "publish"))) [(.asg [4] (.lst [(.k (.str "closed")), (.k (.str "closed 1")), (.k (.str "closed 1..")), (.k (.str "closed 1..2 3")), (.k (.str "close 1..2")), (.k (.str "closed ..2")), (.k (.str "closed 1...2")), (.k (.str "closed 01..2"))])), (.ret (.bin .Add (.bin .Add (.var 3) (.lc [5] (.var 4) (.k (.bl true)) (.bin .Add (.k (.str "publish a 5 ")) (.var 5)) [5])) (.lst [(.k (.str "publish a")), (.k (.str "publish A 5")), (.k (.str "publish a 05")), (.k (.str "publish a 1000001"))])))] []),
    (.ite (.cmp .In (.var 2) (.lst [(.k (.str "drop"))])) [(.ret (.bin .Add (.var 3) (.lc [5] (.lst [(.k (.str "1000")), (.k (.str "01")), (.k (.str "-1")), (.k (.str "x")), (.k (.str ""))]) (.k (.bl true)) (.bin .Add (.k (.str "drop ")) (.var 5)) [5])))] []),
    (.ite (.cmp .In (.var 2) (.lst [(.k (.str "open")), (.k (.str "advance"))])) [(.ret (.bin .Add (.var 3) (.lc [5] (.lst [(.k (.str "1000001")), (.k (.str "-1000001")), (.k (.str "01")), (.k (.str "-01")), (.k (.str "+1")), (.k (.str "x")), (.k (.str "")), (.k (.str "1.0")), (.k (.str "--1"))]) (.k (.bl true)) (.bin .Add (.bin .Add (.var 2) (.k (.str " "))) (.var 5)) [5])))] []),
    (.ite (.cmp .In (.var 2) (.lst [(.k (.str "file")), (.k (.str "correct"))])) [(.ret (.bin .Add (.bin .Add (.var 3) (.lc [5] (.lst [(.k (.str "1000001")), (.k (.str "01")), (.k (.str "-00")), (.k (.str "x")), (.k (.str ""))]) (.k (.bl true)) (.bin .Add (.bin .Add (.var 2) (.k (.str " a "))) (.var 5)) [5])) (.lst [(.bin .Add (.var 2) (.k (.str " A 5"))), (.bin .Add (.var 2) (.k (.str " met 5"))), (.bin .Add (.var 2) (.k (.str " 5 a")))])))] []),
    (.ret (.bin .Add (.var 3) (.lc [5] (.lst [(.k (.str "A")), (.k (.str "due")), (.k (.str "9a")), (.k (.str "")), (.bin .Mult (.k (.str "a")) (.k (.int 21)))]) (.k (.bl true)) (.bin .Add (.bin .Add (.var 2) (.k (.str " "))) (.var 5)) [5])))]⟩
def r__law_spoilt : Mn.RD := ⟨"_law_spoilt", s__law_spoilt, ["_law_parts", "_law_text", "_law_word", "_law_found", "_law_more", "_law_one"], ["_law_parts", "_law_text"], [], ir__law_spoilt⟩
def ir_law : Mn.Def := ⟨1, 7, [
    (.asg [1] (.call "_law_row" [(.var 0)])),
    (.ite (.or (.cmp .NotEq (.call "read_command" [(.k (.str ""))]) (.tup [])) (.or (.cmp .IsNot (.call "read_command" [(.k (.str " "))]) (.k .non)) (.cmp .IsNot (.call "read_command" [(.k (.str "tell a"))]) (.k .non)))) [(.ret (.k (.bl false)))] []),
    (.loop [2] (.call "_law_lines" [(.var 1)]) [(.asg [4] (.call "_law_written" [(.var 2)])), (.asg [5] (.call "read_command" [(.var 4)])), (.ite (.or (.not (.blt .isT [(.var 5)])) (.cmp .NotEq (.var 5) (.var 2))) [(.ret (.k (.bl false)))] []), (.loop [6] (.call "_law_spoilt" [(.var 2), (.var 4)]) [(.ite (.cmp .IsNot (.call "read_command" [(.var 6)]) (.k .non)) [(.ret (.k (.bl false)))] [])])]),
    (.loop [3] (.lst [(.k (.str "calendar")), (.k (.str "calendar x run")), (.k (.str "event  a")), (.k (.str "rule")), (.k (.str "rule a b"))]) [(.ite (.cmp .NotEq (.call "read_command" [(.var 3)]) (.tup [(.ix (.sm .split (.var 3) [(.k (.str " "))]) (.k (.int 0))), (.var 3)])) [(.ret (.k (.bl false)))] [])]),
    (.ret (.and (.cmp .Is (.call "read_command" [(.k (.str "calendars"))]) (.k .non)) (.cmp .Eq (.call "read_command" [(.k (.str "need"))]) (.tup [(.k (.str "need")), (.k (.str ""))]))))]⟩
def r_law : Mn.RD := ⟨"law", s_law, ["_law_script", "_law_row_here", "_law_parts", "_law_line", "_law_text", "_law_told", "_law_bad"], ["_law_script"], [], ir_law⟩
def rsl0 : List Mn.RD := [r_is_name, r_read_index, r_read_day, r_read_part, r_read_stretch, r_read_publish, r_read_rest, r_read_command, r__law_row, r__law_at, r__law_lines, r__law_written, r__law_spoilt, r_law]
def rsl : List Mn.RD := rsl0
def loose0 : List PySem.Str := ["MAX_NUMBER", "MAX_NAME", "WORDS", "SMALL", "REST", "is_name", "DIGITS", "MAX_INDEX", "WHOLE", "FORMS", "read_index", "read_day", "read_part", "read_stretch", "read_publish", "read_rest", "read_command", "_law_row", "_law_at", "_law_lines"]
def loose1 : List PySem.Str := ["_law_written", "_law_spoilt"]
def loose : List PySem.Str := loose0 ++ loose1
def tb : Mn.Tb := Mn.tbOf (rsl.map Mn.RD.i) gloL cdsL freeL
theorem ok_is_name : (r_is_name).Ok tb := ⟨fun _ _ _ _ _ _ us hl => match us, hl with | [_], _ => rfl, ⟨rfl, rfl, rfl, by decide +kernel, rfl, by decide +kernel, by decide +kernel⟩, by kernel_rfl, rfl, rfl⟩
theorem ok_read_index : (r_read_index).Ok tb := ⟨fun _ _ _ _ _ _ us hl => match us, hl with | [_], _ => rfl, ⟨rfl, rfl, rfl, by decide +kernel, rfl, by decide +kernel, by decide +kernel⟩, by kernel_rfl, rfl, rfl⟩
theorem ok_read_day : (r_read_day).Ok tb := ⟨fun _ _ _ _ _ _ us hl => match us, hl with | [_], _ => rfl, ⟨rfl, rfl, rfl, by decide +kernel, rfl, by decide +kernel, by decide +kernel⟩, by kernel_rfl, rfl, rfl⟩
theorem ok_read_part : (r_read_part).Ok tb := ⟨fun _ _ _ _ _ _ us hl => match us, hl with | [_, _], _ => rfl, ⟨rfl, rfl, rfl, by decide +kernel, rfl, by decide +kernel, by decide +kernel⟩, by kernel_rfl, rfl, rfl⟩
theorem ok_read_stretch : (r_read_stretch).Ok tb := ⟨fun _ _ _ _ _ _ us hl => match us, hl with | [_], _ => rfl, ⟨rfl, rfl, rfl, by decide +kernel, rfl, by decide +kernel, by decide +kernel⟩, by kernel_rfl, rfl, rfl⟩
theorem ok_read_publish : (r_read_publish).Ok tb := ⟨fun _ _ _ _ _ _ us hl => match us, hl with | [_], _ => rfl, ⟨rfl, rfl, rfl, by decide +kernel, rfl, by decide +kernel, by decide +kernel⟩, by kernel_rfl, rfl, rfl⟩
theorem ok_read_rest : (r_read_rest).Ok tb := ⟨fun _ _ _ _ _ _ us hl => match us, hl with | [_, _, _], _ => rfl, ⟨rfl, rfl, rfl, by decide +kernel, rfl, by decide +kernel, by decide +kernel⟩, by kernel_rfl, rfl, rfl⟩
theorem ok_read_command : (r_read_command).Ok tb := ⟨fun _ _ _ _ _ _ us hl => match us, hl with | [_], _ => rfl, ⟨rfl, rfl, rfl, by decide +kernel, rfl, by decide +kernel, by decide +kernel⟩, by kernel_rfl, rfl, rfl⟩
theorem ok__law_row : (r__law_row).Ok tb := ⟨fun _ _ _ _ _ _ us hl => match us, hl with | [_], _ => rfl, ⟨rfl, rfl, rfl, by decide +kernel, rfl, by decide +kernel, by decide +kernel⟩, by kernel_rfl, rfl, rfl⟩
theorem ok__law_at : (r__law_at).Ok tb := ⟨fun _ _ _ _ _ _ us hl => match us, hl with | [_, _], _ => rfl, ⟨rfl, rfl, rfl, by decide +kernel, rfl, by decide +kernel, by decide +kernel⟩, by kernel_rfl, rfl, rfl⟩
theorem ok__law_lines : (r__law_lines).Ok tb := ⟨fun _ _ _ _ _ _ us hl => match us, hl with | [_], _ => rfl, ⟨rfl, rfl, rfl, by decide +kernel, rfl, by decide +kernel, by decide +kernel⟩, by kernel_rfl, rfl, rfl⟩
theorem ok__law_written : (r__law_written).Ok tb := ⟨fun _ _ _ _ _ _ us hl => match us, hl with | [_], _ => rfl, ⟨rfl, rfl, rfl, by decide +kernel, rfl, by decide +kernel, by decide +kernel⟩, by kernel_rfl, rfl, rfl⟩
theorem ok__law_spoilt : (r__law_spoilt).Ok tb := ⟨fun _ _ _ _ _ _ us hl => match us, hl with | [_, _], _ => rfl, ⟨rfl, rfl, rfl, by decide +kernel, rfl, by decide +kernel, by decide +kernel⟩, by kernel_rfl, rfl, rfl⟩
theorem ok_law : (r_law).Ok tb := ⟨fun _ _ _ _ _ _ us hl => match us, hl with | [_], _ => rfl, ⟨rfl, rfl, rfl, by decide +kernel, rfl, by decide +kernel, by decide +kernel⟩, by kernel_rfl, rfl, rfl⟩
theorem oks : ∀ r ∈ rsl, r.Ok tb := by
  intro r hr
  simp only [rsl, rsl0, List.mem_append, List.mem_cons, List.not_mem_nil, or_false] at hr
  rcases hr with rfl | rfl | rfl | rfl | rfl | rfl | rfl | rfl | rfl | rfl | rfl | rfl | rfl | rfl
  · exact ok_is_name
  · exact ok_read_index
  · exact ok_read_day
  · exact ok_read_part
  · exact ok_read_stretch
  · exact ok_read_publish
  · exact ok_read_rest
  · exact ok_read_command
  · exact ok__law_row
  · exact ok__law_at
  · exact ok__law_lines
  · exact ok__law_written
  · exact ok__law_spoilt
  · exact ok_law
def lawIx : Nat := 25
abbrev R : PySem.W.OpenRow := PySem.W.OpenLaw.row PySem.Challenge.rw_diesnon_k83_lines_read
abbrev hk : PySem.W.Hook := He.hookX 5 (Mn.faOf rsl freeL) (rsl.map Mn.RD.h) (Mn.tsOf cdsL) [] (Mn.exOf gloL cdsL)
def ob (s : PySem.W.SharedT) : He.AlX := He.obsX 5 (Mn.faOf rsl freeL) (rsl.map Mn.RD.h) (Mn.tsOf cdsL) [] (Mn.exOf gloL cdsL) (HandSHeadRun.getT s)
theorem ob_eq (s : PySem.W.SharedT) : ob s = hk.obs s.abs := He.obsX_eq (HandSHeadRun.getT_eq s)
theorem runF (w : World) : HandSHeadRun.RunEq R (PySem.W.view R.prog [25]) hk ob 6000 loose (w.withFollow "special-get-raises" false) := by
  intro os
  kernel_rfl
theorem runT (w : World) : HandSHeadRun.RunEq R (PySem.W.view R.prog [25]) hk ob 6000 loose (w.withFollow "special-get-raises" true) := by
  intro os
  kernel_rfl
theorem run (w : World) : HandSHeadRun.RunEq R (PySem.W.view R.prog [25]) hk ob 6000 loose w :=
  PySem.W.byRow2 "special-get-raises" (P := fun w => HandSHeadRun.RunEq R (PySem.W.view R.prog [25]) hk ob 6000 loose w) runF runT w
end G
end

section
set_option maxRecDepth 100000
set_option maxHeartbeats 400000
set_option linter.all false
open PySem Mn
namespace K83
def P : Prog := progOf (G.rsl.map RD.i) G.gloL G.cdsL 1000
theorem run_def {n : Nat} {f : Str} {d : Def} {st : Store} {xs : List D} (h : P.defs f = some d) : run P (n + 1) f st xs = runB ⟨run P n, P.glo, P.cd⟩ P.wf d st xs := by
  show (match P.defs f with | some d => _ | none => _) = _
  rw [h]
def WORDS : D := .tup [.str "next", .str "prev", .str "open", .str "later", .str "earlier", .str "if", .str "is", .str "not", .str "and", .str "or", .str "yes", .str "calendar", .str "run", .str "within", .str "known", .str "to", .str "closed", .str "assume", .str "claim", .str "event", .str "rule", .str "on", .str "when", .str "due", .str "met", .str "called", .str "missed", .str "filed"]
def SMALL : Str := "abcdefghijklmnopqrstuvwxyz"
def REST : Str := "abcdefghijklmnopqrstuvwxyz0123456789"
def DIGITS : Str := "0123456789"
theorem g_words : P.glo "WORDS" = some WORDS := by kernel_rfl
theorem g_small : P.glo "SMALL" = some (.str SMALL) := by kernel_rfl
theorem g_rest : P.glo "REST" = some (.str REST) := by kernel_rfl
theorem g_digits : P.glo "DIGITS" = some (.str DIGITS) := by kernel_rfl
theorem g_maxname : P.glo "MAX_NAME" = some (.int 20) := by kernel_rfl
theorem g_maxnum : P.glo "MAX_NUMBER" = some (.int 1000000) := by kernel_rfl
theorem g_maxix : P.glo "MAX_INDEX" = some (.int 999) := by kernel_rfl
theorem g_whole : P.glo "WHOLE" = some (.tup [.str "calendar", .str "event", .str "rule"]) := by kernel_rfl
theorem d_is_name : P.defs "is_name" = some G.ir_is_name := by kernel_rfl
theorem d_read_index : P.defs "read_index" = some G.ir_read_index := by kernel_rfl
theorem d_read_day : P.defs "read_day" = some G.ir_read_day := by kernel_rfl
theorem d_read_part : P.defs "read_part" = some G.ir_read_part := by kernel_rfl
theorem d_read_stretch : P.defs "read_stretch" = some G.ir_read_stretch := by kernel_rfl
theorem d_read_publish : P.defs "read_publish" = some G.ir_read_publish := by kernel_rfl
theorem d_read_rest : P.defs "read_rest" = some G.ir_read_rest := by kernel_rfl
theorem d_read_command : P.defs "read_command" = some G.ir_read_command := by kernel_rfl
theorem d_law_row : P.defs "_law_row" = some G.ir__law_row := by kernel_rfl
theorem d_law_at : P.defs "_law_at" = some G.ir__law_at := by kernel_rfl
theorem d_law_lines : P.defs "_law_lines" = some G.ir__law_lines := by kernel_rfl
theorem d_law_written : P.defs "_law_written" = some G.ir__law_written := by kernel_rfl
theorem d_law_spoilt : P.defs "_law_spoilt" = some G.ir__law_spoilt := by kernel_rfl
theorem d_law : P.defs "law" = some G.ir_law := by kernel_rfl
/-! ### a list of all turns -/
theorem lcGo_all {step : D → Store → Res (Option D)} {g : D → D} {st : Store} : ∀ {xs acc : List D}, (∀ x ∈ xs, step x st = .ok (some (g x)) st) → acc.length + xs.length ≤ LIM → lcGo step xs acc st = .ok (acc ++ xs.map g) st
  | [], acc, _, _ => by simp [lcGo]
  | x :: xs, acc, h, hl => by
    have hl' : acc.length + (xs.length + 1) ≤ LIM := by simpa using hl
    unfold lcGo
    rw [h x List.mem_cons_self, bind_ok]
    simp only
    rw [if_pos (by omega), lcGo_all (fun y hy => h y (List.mem_cons_of_mem _ hy)) (by simp; omega)]
    simp
abbrev sp : Str := " "
abbrev jn (ws : List Str) : Str := PySem.Txt.join sp ws
abbrev free (w : Str) : Prop := (32 : Nat) ∉ w.cps.toList
theorem tl_sp : TL.tl sp = [32] := by decide +kernel
def Γ (n : Nat) : Mn.Ctx := ⟨run P n, P.glo, P.cd⟩
def fin (o : Out) : Res D := match o with
  | .nx _ st => .ok .non st
  | .rt x st => .ok x st
  | .ex x _ st => .ex x st
  | _ => .bad
theorem run_fin {n : Nat} {f : Str} {d : Def} {st : Store} {xs : List D} (h : P.defs f = some d) (hl : xs.length = d.np) : run P (n + 1) f st xs = fin (xsL (Γ n) 1000 d.body (startD d.nn xs) st) := by
  rw [run_def h]
  unfold runB
  rw [if_pos hl]
  rfl
/-- the statements of read_command from the fifth on -/
def rcB : List S := G.ir_read_command.body.drop 4
def rcR (line w sep rest : Str) : Slots := [.d (.str line), .d (.lst ((PySem.Txt.split line sp).map .str)), .un, .un, .d (.str w), .d (.str sep), .d (.str rest), .un, .un]
theorem rc_core {n : Nat} {line w sep rest : Str} (hne : line ≠ "") (hl : line.length ≤ 1000) (hok : PyData.strOk line = true) (hp : PySem.Txt.partition line sp = (w, sep, rest))
    (hw : xs1 (Γ n) 1000 (G.ir_read_command.body[2]!) [.d (.str line), .un, .un, .un, .d (.str w), .d (.str sep), .d (.str rest), .un, .un] [] = .nx [.d (.str line), .un, .un, .un, .d (.str w), .d (.str sep), .d (.str rest), .un, .un] []) :
    run P (n + 1) "read_command" [] [.str line] = fin (xsL (Γ n) 1000 rcB (rcR line w sep rest) []) := by
  rw [run_fin d_read_command rfl]
  congr 1
  have e : G.ir_read_command.body = G.ir_read_command.body[0]! :: G.ir_read_command.body[1]! :: G.ir_read_command.body[2]! :: G.ir_read_command.body[3]! :: rcB := by kernel_rfl
  rw [e]
  simp only [xsL]
  have h0 : xs1 (Γ n) 1000 (G.ir_read_command.body[0]!) (startD 9 [.str line]) [] = .nx (startD 9 [.str line]) [] := by
    show ifO ((Res.ok (.str line) []).bind fun x st => (Res.ok (.str "") st).bind fun y st => lift (cmp .Eq x y) st) _ _ _ = _
    simp only [bind_ok, c_eq, eqD_str hok (show PyData.strOk "" = true by decide +kernel), Option.map_some, lift_some, hne, decide_false]
    rfl
  have h1 : xs1 (Γ n) 1000 (G.ir_read_command.body[1]!) (startD 9 [.str line]) [] = .nx [.d (.str line), .un, .un, .un, .d (.str w), .d (.str sep), .d (.str rest), .un, .un] [] := by
    show (((Res.ok (.str line) []).bind fun x st => strR x fun z => ((Res.ok (.str sp) st).bind fun x st => (Res.ok [] st).bind fun xs st => .ok (x :: xs) st).bind fun xs st => lift (smeth .partition (.str z) xs) st).out _ fun x st => nxO (put [4, 5, 6] x _) st) = _
    have hc : sp.length ≠ 0 ∧ line.length ≤ LIM := ⟨by decide +kernel, Nat.le_trans hl (by decide)⟩
    simp only [bind_ok, strR_str, smeth, if_pos hc, lift_some, out_ok, hp]
    rfl
  have h3 : xs1 (Γ n) 1000 (G.ir_read_command.body[3]!) [.d (.str line), .un, .un, .un, .d (.str w), .d (.str sep), .d (.str rest), .un, .un] [] = .nx (rcR line w sep rest) [] := by
    show (((Res.ok (.str line) []).bind fun x st => strR x fun z => ((Res.ok (.str sp) st).bind fun x st => (Res.ok [] st).bind fun xs st => .ok (x :: xs) st).bind fun xs st => lift (smeth .split (.str z) xs) st).out _ fun x st => nxO (put [1] x _) st) = _
    have hc : sp.length ≠ 0 ∧ line.length ≤ LIM := ⟨by decide +kernel, Nat.le_trans hl (by decide)⟩
    simp only [bind_ok, strR_str, smeth, if_pos hc, lift_some, out_ok, hp]
    rfl
  have e0 : startD G.ir_read_command.nn [D.str line] = startD 9 [.str line] := rfl
  rw [e0, h0, seq_nx, h1, seq_nx, hw, seq_nx, h3, seq_nx]
end K83
end

section
set_option maxRecDepth 100000
set_option maxHeartbeats 1000000
set_option linter.all false
open PySem Mn
namespace K83
def Good (z : Str) : Prop := z.length ≤ 1000 ∧ PyData.strOk z = true
def RC (line : Str) (d : D) : Prop := ∀ n, run P (n + 6) "read_command" [] [.str line] = .ok d []
theorem xsL_nil {Γ : Mn.Ctx} {wf : Nat} {ρ : Slots} {st : Store} : xsL Γ wf [] ρ st = .nx ρ st := by simp only [xsL]
theorem fin_ite (c : Prop) [Decidable c] (a b : Out) : fin (if c then a else b) = if c then fin a else fin b := by split <;> rfl
theorem fin_rt (d : D) (st : Store) : fin (.rt d st) = .ok d st := rfl
theorem fin_nx (ρ : Slots) (st : Store) : fin (.nx ρ st) = .ok .non st := rfl
theorem xsL_cons {Γ : Mn.Ctx} {wf : Nat} {s : S} {r : List S} {ρ : Slots} {st : Store} : xsL Γ wf (s :: r) ρ st = (xs1 Γ wf s ρ st).seq fun ρ st => xsL Γ wf r ρ st := by simp only [xsL]
theorem L0 : (0 ≤ LIM) = True := by decide
theorem L1 : (1 ≤ LIM) = True := by decide
theorem L2 : (2 ≤ LIM) = True := by decide
theorem L3 : (3 ≤ LIM) = True := by decide
theorem L4 : (4 ≤ LIM) = True := by decide
theorem L5 : (5 ≤ LIM) = True := by decide
theorem L6 : (6 ≤ LIM) = True := by decide
theorem L7 : (7 ≤ LIM) = True := by decide
theorem L8 : (8 ≤ LIM) = True := by decide
theorem L9 : (9 ≤ LIM) = True := by decide
theorem L10 : (10 ≤ LIM) = True := by decide
theorem L11 : (11 ≤ LIM) = True := by decide
theorem L12 : (12 ≤ LIM) = True := by decide
theorem L13 : (13 ≤ LIM) = True := by decide
theorem L14 : (14 ≤ LIM) = True := by decide
theorem L15 : (15 ≤ LIM) = True := by decide
theorem L16 : (16 ≤ LIM) = True := by decide
theorem L17 : (17 ≤ LIM) = True := by decide
theorem L18 : (18 ≤ LIM) = True := by decide
theorem L19 : (19 ≤ LIM) = True := by decide
theorem L20 : (20 ≤ LIM) = True := by decide
theorem L21 : (21 ≤ LIM) = True := by decide
theorem L22 : (22 ≤ LIM) = True := by decide
theorem L23 : (23 ≤ LIM) = True := by decide
theorem L24 : (24 ≤ LIM) = True := by decide
theorem L25 : (25 ≤ LIM) = True := by decide
theorem fin_ret {r : Res D} {ρ : Slots} {f : Slots → Store → Out} : fin ((r.out ρ fun x st => .rt x st).seq f) = r := by cases r <;> rfl
theorem part_app {w rest : Str} (h : free w) : PySem.Txt.partition (w ++ sp ++ rest) sp = (w, sp, rest) := TL.partition_app tl_sp h
theorem part_one {w : Str} (h : free w) : PySem.Txt.partition w sp = (w, Str.empty, Str.empty) := TL.partition_none tl_sp h
/-- the words that begin no line -/
def badW0 : List Str := ["", "ASSUME", "assumex", "DROP", "dropx", "DECIDE", "decidex", "MOST", "mostx", "SPAN", "spanx", "ORDERS"]
def badW1 : List Str := ["ordersx", "RUN", "runx", "NEED", "needx", "ALWAYS", "alwaysx", "BEHIND", "behindx", "UNUSED", "unusedx", "OPEN"]
def badW2 : List Str := ["openx", "UNDO", "undox", "FILE", "filex", "CORRECT", "correctx", "WITHDRAW", "withdrawx", "ADVANCE", "advancex", "STAND"]
def badW3 : List Str := ["standx", "DUE", "duex", "FIXED", "fixedx", "TEXT", "textx", "PUBLISH", "publishx", "tell", "calendars"]
def badW : List Str := badW0 ++ badW1 ++ badW2 ++ badW3
/-- what the closed word decides -/
def WOk (n : Nat) (w : Str) : Prop := ∀ line sep rest : Str, xs1 (Γ n) 1000 (G.ir_read_command.body[2]!) [.d (.str line), .un, .un, .un, .d (.str w), .d (.str sep), .d (.str rest), .un, .un] [] = .nx [.d (.str line), .un, .un, .un, .d (.str w), .d (.str sep), .d (.str rest), .un, .un] []
theorem bad_all : ∀ w ∈ badW, ∀ n, WOk n w ∧ (∀ line sep rest, fin (xsL (Γ n) 1000 rcB (rcR line w sep rest) []) = .ok .non []) ∧ free w := by
  intro w hw n
  simp only [badW, badW0, badW1, badW2, badW3, List.mem_append, List.mem_cons, List.not_mem_nil, or_false] at hw
  rcases hw with (((rfl | rfl | rfl | rfl | rfl | rfl | rfl | rfl | rfl | rfl | rfl | rfl) | (rfl | rfl | rfl | rfl | rfl | rfl | rfl | rfl | rfl | rfl | rfl | rfl)) | (rfl | rfl | rfl | rfl | rfl | rfl | rfl | rfl | rfl | rfl | rfl | rfl)) | (rfl | rfl | rfl | rfl | rfl | rfl | rfl | rfl | rfl | rfl | rfl)
  all_goals exact ⟨fun line sep rest => by kernel_rfl, fun line sep rest => by kernel_rfl, by decide +kernel⟩
theorem rc_bad {w rest : Str} (hw : w ∈ badW) (hg : Good (w ++ sp ++ rest)) (hne : w ++ sp ++ rest ≠ "") : RC (w ++ sp ++ rest) .non := fun n => by
  obtain ⟨h1, h2, h3⟩ := bad_all w hw (n + 5)
  rw [rc_core hne hg.1 hg.2 (part_app h3) (h1 _ _ _), h2]
theorem rc_bad1 {w : Str} (hw : w ∈ badW) (hg : Good w) (hne : w ≠ "") : RC w .non := fun n => by
  obtain ⟨h1, h2, h3⟩ := bad_all w hw (n + 5)
  rw [rc_core hne hg.1 hg.2 (part_one h3) (h1 _ _ _), h2]
/-- a line of a word and a text -/
def tW : List Str := ["assume", "decide", "need", "always", "stand"]
theorem t_all : ∀ w ∈ tW, ∀ n, WOk (n + 2) w ∧ (∀ line sep rest, fin (xsL (Γ (n + 2)) 1000 rcB (rcR line w sep rest) []) = .ok (.tup [.str w, .str rest]) []) ∧ free w := by
  intro w hw n
  simp only [tW, List.mem_cons, List.not_mem_nil, or_false] at hw
  rcases hw with rfl | rfl | rfl | rfl | rfl
  all_goals exact ⟨fun line sep rest => by kernel_rfl, fun line sep rest => by kernel_rfl, by decide +kernel⟩
theorem rc_t {w rest : Str} (hw : w ∈ tW) (hg : Good (w ++ sp ++ rest)) (hne : w ++ sp ++ rest ≠ "") : RC (w ++ sp ++ rest) (.tup [.str w, .str rest]) := fun n => by
  obtain ⟨h1, h2, h3⟩ := t_all w hw (n + 3)
  rw [rc_core hne hg.1 hg.2 (part_app h3) (h1 _ _ _), h2]
/-! ### two texts -/
def uW : List Str := ["most", "span", "orders"]
theorem rr_u {n : Nat} {w rest a bar b : Str} (hl : rest.length ≤ 1000) (hb : PyData.strOk bar = true) (hp : PySem.Txt.partition rest "|" = (a, bar, b)) : run P (n + 1) "read_rest" [] [.str "u", .str w, .str rest] = if bar = "" then .ok .non [] else .ok (.tup [.str w, .str a, .str b]) [] := by
  rw [run_fin d_read_rest rfl]
  have hc : ("|" : Str).length ≠ 0 ∧ rest.length ≤ LIM := ⟨by decide +kernel, Nat.le_trans hl (by decide)⟩
  have k1 : eqD (.str "u") (.str "t") = some false := by kernel_rfl
  have k2 : eqD (.str "u") (.str "u") = some true := by kernel_rfl
  simp only [xsL_cons, xsL_nil, xs1, ev, evL, bind_ok, lift_some, out_ok, seq_nx, seq_rt, seq_ite, asB_ok, asI_ok, asL_lst, asL_tup, asIt_lst, asIt_tup, asIt_str, andB_ok, andB_t, andB_f, orB_ok, orB_t, orB_f, iteB_ok, ifO_ok, iteB_t, iteB_f, ifO_t, ifO_f, varD_d, nxO_some, putO_some, put_1, put_2, put_3, strR_str,
  bl_len_l, bl_len_t, c_lt, c_le, c_gt, c_ge, c_is, c_isn, c_eq, c_ne, c_in, c_nin, b_add_i, b_sub_i, isN, Option.map_some, Option.bind_some, fin_ite, fin_rt, fin_nx,
  startD, List.map_cons, List.map_nil, List.length_cons, List.length_nil, List.replicate_succ, List.replicate_zero, Nat.sub_zero, Nat.reduceAdd, Nat.reduceSub, List.replicate, List.cons_append, List.nil_append, List.set_cons_zero, List.set_cons_succ, List.getElem?_cons_succ, List.getElem?_cons_zero, Bool.false_eq_true, if_true, if_false, Bool.not_true, Bool.not_false, L0, L1, L2, L3, L4, L5, L6, L7, L8, L9, L10, L11, L12, L13, L14, L15, L16, L17, L18, L19, L20, L21, L22, L23, L24, L25, G.ir_read_rest, k1, k2, smeth, if_pos hc, hp, eqD_str hb (show PyData.strOk "" = true by decide +kernel), decide_eq_true_eq]
end K83
end

section
set_option maxRecDepth 100000
set_option maxHeartbeats 1000000
set_option linter.all false
open PySem Mn
namespace K83
theorem cutD_from (xs : List D) (k : Nat) : cutD xs (some (k : Int)) none = xs.drop k := by
  unfold cutD
  rw [HT.sIx_nat, HT.sIx_none]
  by_cases h : k ≤ xs.length
  · rw [Nat.min_eq_left h, List.take_of_length_le (by simp)]
  · rw [Nat.min_eq_right (by omega), List.drop_eq_nil_of_le (Nat.le_refl _), List.drop_eq_nil_of_le (by omega)]
    simp
theorem fin_ret2 {r : Res D} {ρ : Slots} {f g : Slots → Store → Out} : fin (((r.out ρ fun x st => .rt x st).seq g).seq f) = r := by cases r <;> rfl
section
variable {n : Nat} {line w sep rest f : Str}
theorem rcB_rest (k1 : eqD (.str w) (.str "publish") = some false) (k2 : cdIn (P.cd "FORMS") true (.str w) = some (.bl false)) (k3 : cdIx (P.cd "FORMS") (.str w) = some (.str f)) (k4 : inD (.str f) (.tup [.str "t", .str "u", .str "nt"]) = some true) :
    fin (xsL (Γ n) 1000 rcB (rcR line w sep rest) []) = run P n "read_rest" [] [.str f, .str w, .str rest] := by
  simp only [xsL_cons, xsL_nil, xs1, ev, evL, bind_ok, lift_some, out_ok, seq_nx, seq_rt, seq_ite, asB_ok, asI_ok, asL_lst, asL_tup, asIt_lst, asIt_tup, asIt_str, andB_ok, andB_t, andB_f, orB_ok, orB_t, orB_f, iteB_ok, ifO_ok, iteB_t, iteB_f, ifO_t, ifO_f, varD_d, nxO_some, putO_some, put_1, put_2, put_3, strR_str,
  bl_len_l, bl_len_t, c_lt, c_le, c_gt, c_ge, c_is, c_isn, c_eq, c_ne, c_in, c_nin, b_add_i, b_sub_i, isN, Option.map_some, Option.bind_some, fin_ite, fin_rt, fin_nx,
  startD, List.map_cons, List.map_nil, List.length_cons, List.length_nil, List.replicate_succ, List.replicate_zero, Nat.sub_zero, Nat.reduceAdd, Nat.reduceSub, List.replicate, List.cons_append, List.nil_append, List.set_cons_zero, List.set_cons_succ, List.getElem?_cons_succ, List.getElem?_cons_zero, Bool.false_eq_true, if_true, if_false, Bool.not_true, Bool.not_false, L0, L1, L2, L3, L4, L5, L6, L7, L8, L9, L10, L11, L12, L13, L14, L15, L16, L17, L18, L19, L20, L21, L22, L23, L24, L25, rcB, rcR, G.ir_read_command, List.drop_succ_cons, List.drop_zero, k1, show cdIn ((Γ n).cd "FORMS") true (.str w) = some (.bl false) from k2, show cdIx ((Γ n).cd "FORMS") (.str w) = some (.str f) from k3, k4]
  exact fin_ret2
theorem rcB_short {ws : List Str} (hs : PySem.Txt.split line sp = ws) (k1 : eqD (.str w) (.str "publish") = some false) (k2 : cdIn (P.cd "FORMS") true (.str w) = some (.bl false)) (k3 : cdIx (P.cd "FORMS") (.str w) = some (.str f)) (k4 : inD (.str f) (.tup [.str "t", .str "u", .str "nt"]) = some false)
    (k5 : f.length ≤ LIM) (hn : eqD (.int (ws.length : Int)) (.int ((f.length : Int) + 1)) = some false) :
    fin (xsL (Γ n) 1000 rcB (rcR line w sep rest) []) = .ok .non [] := by
  simp only [xsL_cons, xsL_nil, xs1, ev, evL, bind_ok, lift_some, out_ok, seq_nx, seq_rt, seq_ite, asB_ok, asI_ok, asL_lst, asL_tup, asIt_lst, asIt_tup, asIt_str, andB_ok, andB_t, andB_f, orB_ok, orB_t, orB_f, iteB_ok, ifO_ok, iteB_t, iteB_f, ifO_t, ifO_f, varD_d, nxO_some, putO_some, put_1, put_2, put_3, strR_str,
  bl_len_l, bl_len_t, c_lt, c_le, c_gt, c_ge, c_is, c_isn, c_eq, c_ne, c_in, c_nin, b_add_i, b_sub_i, isN, Option.map_some, Option.bind_some, fin_ite, fin_rt, fin_nx,
  startD, List.map_cons, List.map_nil, List.length_cons, List.length_nil, List.replicate_succ, List.replicate_zero, Nat.sub_zero, Nat.reduceAdd, Nat.reduceSub, List.replicate, List.cons_append, List.nil_append, List.set_cons_zero, List.set_cons_succ, List.getElem?_cons_succ, List.getElem?_cons_zero, Bool.false_eq_true, if_true, if_false, Bool.not_true, Bool.not_false, L0, L1, L2, L3, L4, L5, L6, L7, L8, L9, L10, L11, L12, L13, L14, L15, L16, L17, L18, L19, L20, L21, L22, L23, L24, L25, rcB, rcR, G.ir_read_command, List.drop_succ_cons, List.drop_zero, k1, show cdIn ((Γ n).cd "FORMS") true (.str w) = some (.bl false) from k2, show cdIx ((Γ n).cd "FORMS") (.str w) = some (.str f) from k3, k4, hs, bl_len_s k5, List.length_map, hn]
theorem inList_none {ds : List D} {r : Bool} (h : inList .non ds = some r) : inD .non (.lst ds) = some r := h
theorem rcB_parts {ws : List Str} {ds : List D} {r : Bool} (hs : PySem.Txt.split line sp = ws) (k1 : eqD (.str w) (.str "publish") = some false) (k2 : cdIn (P.cd "FORMS") true (.str w) = some (.bl false)) (k3 : cdIx (P.cd "FORMS") (.str w) = some (.str f)) (k4 : inD (.str f) (.tup [.str "t", .str "u", .str "nt"]) = some false)
    (k5 : f.length ≤ LIM) (hn : eqD (.int (ws.length : Int)) (.int ((f.length : Int) + 1)) = some true)
    (hp : lcGo (fun x st => lcTurn (put [7, 8] x (Mn.wipe [.d (.str line), .d (.lst (ws.map .str)), .d (.str f), .un, .d (.str w), .d (.str sep), .d (.str rest), .un, .un] [7, 8])) (fun ρ st => .ok (.bl true) st) (fun ρ st => ((varD ρ[7]? st).bind fun x st => ((varD ρ[8]? st).bind fun x st => Res.ok [x] st).bind fun xs st => .ok (x :: xs) st).bind fun xs st => (Γ n).call "read_part" st xs) st) (zipD (chars f) ((ws.map D.str).drop 1)) [] [] = .ok ds [])
    (hin : inList .non ds = some r) (hl2 : 1 + ds.length ≤ LIM) :
    fin (xsL (Γ n) 1000 rcB (rcR line w sep rest) []) = if r = true then .ok .non [] else .ok (.tup (.str w :: ds)) [] := by
  have hsl : slc (.lst (ws.map .str)) (some 1) none = some (.lst ((ws.map D.str).drop 1)) := by
    show some (D.lst (cutD (ws.map .str) (some ((1 : Nat) : Int)) none)) = _
    rw [cutD_from]
  simp only [xsL_cons, xsL_nil, xs1, ev, evL, bind_ok, lift_some, out_ok, seq_nx, seq_rt, seq_ite, asB_ok, asI_ok, asL_lst, asL_tup, asIt_lst, asIt_tup, asIt_str, andB_ok, andB_t, andB_f, orB_ok, orB_t, orB_f, iteB_ok, ifO_ok, iteB_t, iteB_f, ifO_t, ifO_f, varD_d, nxO_some, putO_some, put_1, put_2, put_3, strR_str,
  bl_len_l, bl_len_t, c_lt, c_le, c_gt, c_ge, c_is, c_isn, c_eq, c_ne, c_in, c_nin, b_add_i, b_sub_i, isN, Option.map_some, Option.bind_some, fin_ite, fin_rt, fin_nx,
  startD, List.map_cons, List.map_nil, List.length_cons, List.length_nil, List.replicate_succ, List.replicate_zero, Nat.sub_zero, Nat.reduceAdd, Nat.reduceSub, List.replicate, List.cons_append, List.nil_append, List.set_cons_zero, List.set_cons_succ, List.getElem?_cons_succ, List.getElem?_cons_zero, Bool.false_eq_true, if_true, if_false, Bool.not_true, Bool.not_false, L0, L1, L2, L3, L4, L5, L6, L7, L8, L9, L10, L11, L12, L13, L14, L15, L16, L17, L18, L19, L20, L21, L22, L23, L24, L25, rcB, rcR, G.ir_read_command, List.drop_succ_cons, List.drop_zero, k1, show cdIn ((Γ n).cd "FORMS") true (.str w) = some (.bl false) from k2, show cdIx ((Γ n).cd "FORMS") (.str w) = some (.str f) from k3, k4, hs, bl_len_s k5, List.length_map, hn, hsl, zipQ, hp, inList_none hin, if_pos hl2, Nat.zero_add]
end
end K83
end

section
set_option maxRecDepth 100000
set_option maxHeartbeats 1000000
set_option linter.all false
open PySem Mn
namespace K83
def allDays : List Int := (List.range 1209).map (fun (i : Nat) => (i : Int) - 500) ++ [-1000000, 1000000]
def ts (d : Int) : Str := toString d
def isIntR (r : Res D) (d : Int) : Bool := match r with
  | .ok (.int i) [] => decide (i = d)
  | _ => false
def dayOk (n : Nat) (d : Int) : Bool := isIntR (run P (n + 2) "read_day" [] [.str (ts d)]) d && ((ts d).cps.toList.all fun c => decide (c < 128) && decide (c ≠ 32) && decide (c ≠ 46) && decide (c ≠ 99)) && decide (1 ≤ (ts d).length) && decide ((ts d).length ≤ 8) && decide (d.natAbs.log2 < 1920)
def dayChunk (i : Nat) : List Int := (List.range 50).map fun (j : Nat) => ((50 * i + j : Nat) : Int) - 500
theorem dc0 (n : Nat) : ((dayChunk 0).all (dayOk n)) = true := by kernel_rfl
theorem dc1 (n : Nat) : ((dayChunk 1).all (dayOk n)) = true := by kernel_rfl
theorem dc2 (n : Nat) : ((dayChunk 2).all (dayOk n)) = true := by kernel_rfl
theorem dc3 (n : Nat) : ((dayChunk 3).all (dayOk n)) = true := by kernel_rfl
theorem dc4 (n : Nat) : ((dayChunk 4).all (dayOk n)) = true := by kernel_rfl
theorem dc5 (n : Nat) : ((dayChunk 5).all (dayOk n)) = true := by kernel_rfl
theorem dc6 (n : Nat) : ((dayChunk 6).all (dayOk n)) = true := by kernel_rfl
theorem dc7 (n : Nat) : ((dayChunk 7).all (dayOk n)) = true := by kernel_rfl
theorem dc8 (n : Nat) : ((dayChunk 8).all (dayOk n)) = true := by kernel_rfl
theorem dc9 (n : Nat) : ((dayChunk 9).all (dayOk n)) = true := by kernel_rfl
theorem dc10 (n : Nat) : ((dayChunk 10).all (dayOk n)) = true := by kernel_rfl
theorem dc11 (n : Nat) : ((dayChunk 11).all (dayOk n)) = true := by kernel_rfl
theorem dc12 (n : Nat) : ((dayChunk 12).all (dayOk n)) = true := by kernel_rfl
theorem dc13 (n : Nat) : ((dayChunk 13).all (dayOk n)) = true := by kernel_rfl
theorem dc14 (n : Nat) : ((dayChunk 14).all (dayOk n)) = true := by kernel_rfl
theorem dc15 (n : Nat) : ((dayChunk 15).all (dayOk n)) = true := by kernel_rfl
theorem dc16 (n : Nat) : ((dayChunk 16).all (dayOk n)) = true := by kernel_rfl
theorem dc17 (n : Nat) : ((dayChunk 17).all (dayOk n)) = true := by kernel_rfl
theorem dc18 (n : Nat) : ((dayChunk 18).all (dayOk n)) = true := by kernel_rfl
theorem dc19 (n : Nat) : ((dayChunk 19).all (dayOk n)) = true := by kernel_rfl
theorem dc20 (n : Nat) : ((dayChunk 20).all (dayOk n)) = true := by kernel_rfl
theorem dc21 (n : Nat) : ((dayChunk 21).all (dayOk n)) = true := by kernel_rfl
theorem dc22 (n : Nat) : ((dayChunk 22).all (dayOk n)) = true := by kernel_rfl
theorem dc23 (n : Nat) : ((dayChunk 23).all (dayOk n)) = true := by kernel_rfl
theorem dc24 (n : Nat) : ((dayChunk 24).all (dayOk n)) = true := by kernel_rfl
theorem dcx (n : Nat) : (([-1000000, 1000000] : List Int).all (dayOk n)) = true := by kernel_rfl
theorem dc (n : Nat) : ∀ c : Nat, c < 25 → ((dayChunk c).all (dayOk n)) = true
  | 0, _ => dc0 n
  | 1, _ => dc1 n
  | 2, _ => dc2 n
  | 3, _ => dc3 n
  | 4, _ => dc4 n
  | 5, _ => dc5 n
  | 6, _ => dc6 n
  | 7, _ => dc7 n
  | 8, _ => dc8 n
  | 9, _ => dc9 n
  | 10, _ => dc10 n
  | 11, _ => dc11 n
  | 12, _ => dc12 n
  | 13, _ => dc13 n
  | 14, _ => dc14 n
  | 15, _ => dc15 n
  | 16, _ => dc16 n
  | 17, _ => dc17 n
  | 18, _ => dc18 n
  | 19, _ => dc19 n
  | 20, _ => dc20 n
  | 21, _ => dc21 n
  | 22, _ => dc22 n
  | 23, _ => dc23 n
  | 24, _ => dc24 n
  | c + 25, h => absurd h (by omega)
theorem days_ok (n : Nat) : (allDays.all (dayOk n)) = true := by
  rw [List.all_eq_true]
  intro d hd
  unfold allDays at hd
  rcases List.mem_append.mp hd with q | q
  · obtain ⟨i, hi, rfl⟩ := List.mem_map.mp q
    have hi := List.mem_range.mp hi
    refine List.all_eq_true.mp (dc n (i / 50) (by omega)) _ (List.mem_map.mpr ⟨i % 50, List.mem_range.mpr (by omega), ?_⟩)
    have := Nat.div_add_mod i 50
    show ((50 * (i / 50) + i % 50 : Nat) : Int) - 500 = (i : Int) - 500
    rw [this]
  · exact List.all_eq_true.mp (dcx n) d q
end K83
end

section
set_option maxRecDepth 100000
set_option maxHeartbeats 1000000
set_option linter.all false
open PySem Mn
namespace K83
theorem loopGo_nx {body : D → Slots → Store → Out} {st : Store} {I : Slots → Prop} : ∀ {xs : List D} {ρ : Slots}, (∀ x ∈ xs, ∀ ρ, I ρ → ∃ ρ', body x ρ st = .nx ρ' st ∧ I ρ') → I ρ → ∃ ρ', loopGo body xs ρ st = .nx ρ' st ∧ I ρ'
  | [], ρ, _, h => ⟨ρ, rfl, h⟩
  | x :: xs, ρ, hb, h => by
    obtain ⟨ρ1, e1, i1⟩ := hb x List.mem_cons_self ρ h
    obtain ⟨ρ2, e2, i2⟩ := loopGo_nx (fun y hy => hb y (List.mem_cons_of_mem _ hy)) i1
    refine ⟨ρ2, ?_, i2⟩
    show (match body x ρ st with | .nx ρ st => loopGo body xs ρ st | .ct ρ st => loopGo body xs ρ st | .bk ρ st => .nx ρ st | o => o) = _
    rw [e1]
    exact e2
theorem seq_id (o : Out) : (o.seq fun ρ st => .nx ρ st) = o := by cases o <;> rfl
structure LineOk (n : Nat) (parts : List D) : Prop where
  ex : ∃ (text : Str) (bads : List Str), run P (n + 6) "_law_written" [] [.tup parts] = .ok (.str text) [] ∧ RC text (.tup parts) ∧ eqD (.tup parts) (.tup parts) = some true ∧
    run P (n + 6) "_law_spoilt" [] [.tup parts, .str text] = .ok (.lst (bads.map .str)) [] ∧ ∀ b ∈ bads, RC b .non
def IL (ρ : Slots) : Prop := ∃ s0 s1 s2 s3 s4 s5 s6, ρ = [s0, s1, s2, s3, s4, s5, s6]
def lawBody : List S := match G.ir_law.body[2]! with
  | .loop _ _ b => b
  | _ => []
theorem body_ok {n : Nat} {parts : List D} (h : LineOk n parts) {ρ : Slots} (hρ : IL ρ) : ∃ ρ', putO (put [2] (.tup parts) ρ) (fun ρ st => xsL (Γ (n + 6)) 1000 lawBody ρ st) [] = .nx ρ' [] ∧ IL ρ' := by
  obtain ⟨text, bads, h1, h2, h3, h4, h5⟩ := h.ex
  obtain ⟨s0, s1, s2, s3, s4, s5, s6, rfl⟩ := hρ
  have e : lawBody = [lawBody[0]!, lawBody[1]!, lawBody[2]!, lawBody[3]!] := by kernel_rfl
  have h1' : (Γ (n + 6)).call "_law_written" [] [.tup parts] = .ok (.str text) [] := h1
  have h2' : (Γ (n + 6)).call "read_command" [] [.str text] = .ok (.tup parts) [] := h2 n
  have h4' : (Γ (n + 6)).call "_law_spoilt" [] [.tup parts, .str text] = .ok (.lst (bads.map .str)) [] := h4
  have hinner : ∃ ρ', loopGo (fun x ρ st => putO (put [6] x ρ) (fun ρ st => xsL (Γ (n + 6)) 1000 (match lawBody[3]! with | .loop _ _ b => b | _ => []) ρ st) st) (bads.map .str) [s0, s1, .d (.tup parts), s3, .d (.str text), .d (.tup parts), s6] [] = .nx ρ' [] ∧ IL ρ' := by
    refine loopGo_nx (I := IL) (fun x hx ρ hρ => ?_) ⟨_, _, _, _, _, _, _, rfl⟩
    obtain ⟨b, hb, rfl⟩ := List.mem_map.mp hx
    obtain ⟨t0, t1, t2, t3, t4, t5, t6, rfl⟩ := hρ
    have hb' : (Γ (n + 6)).call "read_command" [] [.str b] = .ok .non [] := h5 b hb n
    refine ⟨[t0, t1, t2, t3, t4, t5, .d (.str b)], ?_, _, _, _, _, _, _, _, rfl⟩
    simp only [xsL_cons, xsL_nil, xs1, ev, evL, bind_ok, lift_some, out_ok, seq_nx, seq_rt, seq_ite, asB_ok, asI_ok, asL_lst, asL_tup, asIt_lst, asIt_tup, asIt_str, andB_ok, andB_t, andB_f, orB_ok, orB_t, orB_f, iteB_ok, ifO_ok, iteB_t, iteB_f, ifO_t, ifO_f, varD_d, nxO_some, putO_some, put_1, put_2, put_3, strR_str,
  bl_len_l, bl_len_t, c_lt, c_le, c_gt, c_ge, c_is, c_isn, c_eq, c_ne, c_in, c_nin, b_add_i, b_sub_i, isN, Option.map_some, Option.bind_some, fin_ite, fin_rt, fin_nx,
  startD, List.map_cons, List.map_nil, List.length_cons, List.length_nil, List.replicate_succ, List.replicate_zero, Nat.sub_zero, Nat.reduceAdd, Nat.reduceSub, List.replicate, List.cons_append, List.nil_append, List.set_cons_zero, List.set_cons_succ, List.getElem?_cons_succ, List.getElem?_cons_zero, Bool.false_eq_true, if_true, if_false, Bool.not_true, Bool.not_false, L0, L1, L2, L3, L4, L5, L6, L7, L8, L9, L10, L11, L12, L13, L14, L15, L16, L17, L18, L19, L20, L21, L22, L23, L24, L25, lawBody, G.ir_law, List.getElem!_cons_succ, List.getElem!_cons_zero, hb']
  obtain ⟨ρ', e2, i2⟩ := hinner
  refine ⟨ρ', ?_, i2⟩
  rw [← e2]
  simp only [xsL_cons, xsL_nil, xs1, ev, evL, bind_ok, lift_some, out_ok, seq_nx, seq_rt, seq_ite, asB_ok, asI_ok, asL_lst, asL_tup, asIt_lst, asIt_tup, asIt_str, andB_ok, andB_t, andB_f, orB_ok, orB_t, orB_f, iteB_ok, ifO_ok, iteB_t, iteB_f, ifO_t, ifO_f, varD_d, nxO_some, putO_some, put_1, put_2, put_3, strR_str,
  bl_len_l, bl_len_t, c_lt, c_le, c_gt, c_ge, c_is, c_isn, c_eq, c_ne, c_in, c_nin, b_add_i, b_sub_i, isN, Option.map_some, Option.bind_some, fin_ite, fin_rt, fin_nx,
  startD, List.map_cons, List.map_nil, List.length_cons, List.length_nil, List.replicate_succ, List.replicate_zero, Nat.sub_zero, Nat.reduceAdd, Nat.reduceSub, List.replicate, List.cons_append, List.nil_append, List.set_cons_zero, List.set_cons_succ, List.getElem?_cons_succ, List.getElem?_cons_zero, Bool.false_eq_true, if_true, if_false, Bool.not_true, Bool.not_false, L0, L1, L2, L3, L4, L5, L6, L7, L8, L9, L10, L11, L12, L13, L14, L15, L16, L17, L18, L19, L20, L21, L22, L23, L24, L25, lawBody, G.ir_law, List.getElem!_cons_succ, List.getElem!_cons_zero, h1', h2', h4', bfun, isT, h3, Bool.or_false, Bool.false_or, Bool.or_self, seq_id]
end K83
end

section
set_option maxRecDepth 100000
set_option maxHeartbeats 1000000
set_option linter.all false
open PySem Mn
namespace K83
theorem ext_tl {a b : Str} (h : a.cps.toList = b.cps.toList) : a = b := by
  cases a with | mk x => cases b with | mk y => simp only at h; rw [Array.toList_inj] at h; rw [h]
theorem tlA (a b : Str) : (a ++ b).cps.toList = a.cps.toList ++ b.cps.toList := TL.tl_append a b
theorem lenA (a b : Str) : (a ++ b).length = a.length + b.length := by
  show (a ++ b).cps.size = a.cps.size + b.cps.size
  rw [← Array.length_toList, tlA, List.length_append]
  simp
theorem okA {a b : Str} (ha : PyData.strOk a = true) (hb : PyData.strOk b = true) : PyData.strOk (a ++ b) = true := by
  unfold PyData.strOk at *
  rw [← Array.all_toList] at *
  rw [tlA, List.all_append, ha, hb]
  rfl
theorem appA (a b c : Str) : a ++ b ++ c = a ++ (b ++ c) := ext_tl (by simp only [tlA, List.append_assoc])
theorem cut_at (w z : Str) (k : Nat) (hk : w.length = k) : L2.cutS (w ++ z) (some (k : Int)) none = z := by
  unfold L2.cutS
  rw [HT.sIx_nat, HT.sIx_none]
  apply ext_tl
  have h1 : (w ++ z).length = w.length + z.length := lenA w z
  have hw : w.cps.toList.length = k := by rw [← hk]; simp; rfl
  have hz : z.cps.toList.length = z.length := by simp; rfl
  rw [h1, hk, Nat.min_eq_left (by omega)]
  simp only [tlA]
  rw [List.drop_append_of_le_length (by omega), List.drop_eq_nil_of_le (by omega), List.nil_append, List.take_of_length_le (by omega)]
theorem slc_at (w z : Str) (k : Nat) (hk : w.length = k) (hl : (w ++ z).length ≤ LIM) : slc (.str (w ++ z)) (some (k : Int)) none = some (.str z) := by
  show (if (w ++ z).length ≤ LIM then some (D.str (L2.cutS (w ++ z) (some (k : Int)) none)) else none) = _
  rw [if_pos hl, cut_at w z k hk]
/-- the first three spoilt lines -/
def sp3 (w up z : Str) : List Str := [sp ++ (w ++ z), up ++ z, w ++ "x" ++ z]
theorem spoilt_t {n : Nat} {w up z : Str} {ps : List D} (hw : w ∈ tW) (hu : PySem.Txt.upper w = up) (hul : up.length ≤ 20) (hwl : w.length ≤ 20) (hl : (w ++ z).length ≤ 1000) :
    run P (n + 1) "_law_spoilt" [] [.tup (.str w :: ps), .str (w ++ z)] = .ok (.lst ((sp3 w up z).map .str)) [] := by
  rw [run_fin d_law_spoilt rfl]
  have k1 : inD (.str w) (.lst [.str "assume", .str "decide", .str "need", .str "always", .str "stand"]) = some true := by
    simp only [tW, List.mem_cons, List.not_mem_nil, or_false] at hw
    rcases hw with rfl | rfl | rfl | rfl | rfl <;> kernel_rfl
  have hz : z.length ≤ 1000 := by rw [lenA] at hl; omega
  have hx : (w ++ "x").length = w.length + 1 := lenA _ _
  have q1 : sp.length + (w ++ z).length ≤ LIM := Nat.le_trans (Nat.add_le_add (show sp.length ≤ 1 by decide +kernel) hl) (by decide)
  have q2 : up.length + z.length ≤ LIM := Nat.le_trans (Nat.add_le_add hul hz) (by decide)
  have q3 : w.length + ("x" : Str).length ≤ LIM := Nat.le_trans (Nat.add_le_add hwl (show ("x" : Str).length ≤ 1 by decide +kernel)) (by decide)
  have q4 : (w ++ "x").length + z.length ≤ LIM := by rw [hx]; exact Nat.le_trans (Nat.add_le_add (Nat.add_le_add_right hwl 1) hz) (by decide)
  have q5 : w.length ≤ LIM := Nat.le_trans hwl (by decide)
  have q6 : ix (.tup (.str w :: ps)) (.int 0) = some (.str w) := L2.atI_nat (j := 0) rfl
  simp only [xsL_cons, xsL_nil, xs1, ev, evL, bind_ok, lift_some, out_ok, seq_nx, seq_rt, seq_ite, asB_ok, asI_ok, asL_lst, asL_tup, asIt_lst, asIt_tup, asIt_str, andB_ok, andB_t, andB_f, orB_ok, orB_t, orB_f, iteB_ok, ifO_ok, iteB_t, iteB_f, ifO_t, ifO_f, varD_d, nxO_some, putO_some, put_1, put_2, put_3, strR_str,
  bl_len_l, bl_len_t, c_lt, c_le, c_gt, c_ge, c_is, c_isn, c_eq, c_ne, c_in, c_nin, b_add_i, b_sub_i, isN, Option.map_some, Option.bind_some, fin_ite, fin_rt, fin_nx,
  startD, List.map_cons, List.map_nil, List.length_cons, List.length_nil, List.replicate_succ, List.replicate_zero, Nat.sub_zero, Nat.reduceAdd, Nat.reduceSub, List.replicate, List.cons_append, List.nil_append, List.set_cons_zero, List.set_cons_succ, List.getElem?_cons_succ, List.getElem?_cons_zero, Bool.false_eq_true, if_true, if_false, Bool.not_true, Bool.not_false, L0, L1, L2, L3, L4, L5, L6, L7, L8, L9, L10, L11, L12, L13, L14, L15, L16, L17, L18, L19, L20, L21, L22, L23, L24, L25, G.ir__law_spoilt, q6, b_add_s q1, smeth, if_pos q5, hu, bl_len_s q5, slc_at w z w.length rfl (Nat.le_trans hl (by decide)), b_add_s q2, b_add_s q3, b_add_s q4, k1, sp3]
end K83
end

section
set_option maxRecDepth 100000
set_option maxHeartbeats 1000000
set_option linter.all false
open PySem Mn
namespace K83
theorem jn_one (w : Str) : jn [w] = w := by
  show PySem.Txt.join sp [w] = w
  rw [TL.join_eq]
  rfl
theorem jn_cons (w x : Str) (r : List Str) : jn (w :: x :: r) = w ++ sp ++ jn (x :: r) := by
  show PySem.Txt.join sp (w :: x :: r) = w ++ sp ++ PySem.Txt.join sp (x :: r)
  rw [TL.join_eq, TL.join_eq]
  rfl
theorem split_jn {ws : List Str} (hne : ws ≠ []) (hf : ∀ w ∈ ws, free w) : PySem.Txt.split (jn ws) sp = ws := TL.split_join tl_sp (by decide +kernel) hne hf
/-- the words with their forms -/
def fW : List (Str × Str) := [("drop", "k"), ("behind", "nn"), ("unused", ""), ("open", "d"), ("file", "nd"), ("correct", "nd"), ("withdraw", "n"), ("advance", "d"), ("undo", ""), ("due", "n"), ("fixed", "n"), ("text", "")]
structure FOk (n : Nat) (p : Str × Str) : Prop where
  w : WOk n p.1
  k1 : eqD (.str p.1) (.str "publish") = some false
  k2 : cdIn (P.cd "FORMS") true (.str p.1) = some (.bl false)
  k3 : cdIx (P.cd "FORMS") (.str p.1) = some (.str p.2)
  k4 : inD (.str p.2) (.tup [.str "t", .str "u", .str "nt"]) = some false
  k5 : p.2.length ≤ 2
  fr : free p.1
  ne : 1 ≤ p.1.length
theorem f_all : ∀ p ∈ fW, ∀ n, FOk n p := by
  intro p hp n
  simp only [fW, List.mem_cons, List.not_mem_nil, or_false] at hp
  rcases hp with rfl | rfl | rfl | rfl | rfl | rfl | rfl | rfl | rfl | rfl | rfl | rfl
  all_goals exact ⟨fun line sep rest => by kernel_rfl, by kernel_rfl, by kernel_rfl, by kernel_rfl, by kernel_rfl, by decide +kernel, by decide +kernel, by decide +kernel⟩
theorem eqI (a b : Int) : eqD (.int a) (.int b) = some (decide (a = b)) := by
  show some (a == b) = _
  congr 1
/-- what is asked of a line's words -/
structure WsOk (ws : List Str) : Prop where
  fr : ∀ w ∈ ws, free w
  len : (jn ws).length ≤ 1000
  ok : PyData.strOk (jn ws) = true
theorem jn_part {w : Str} {ws : List Str} (h : free w) : ∃ sep rest, PySem.Txt.partition (jn (w :: ws)) sp = (w, sep, rest) := by
  cases ws with
  | nil => exact ⟨_, _, by rw [jn_one]; exact part_one h⟩
  | cons x r => exact ⟨_, _, by rw [jn_cons]; exact part_app h⟩
theorem jn_len (w : Str) (ws : List Str) : w.length ≤ (jn (w :: ws)).length := by
  cases ws with
  | nil => rw [jn_one]; exact Nat.le_refl _
  | cons x r => rw [jn_cons, lenA, lenA]; omega
theorem rc_len {p : Str × Str} (hp : p ∈ fW) {ws : List Str} (h : WsOk (p.1 :: ws)) (hn : ws.length ≠ p.2.length) : RC (jn (p.1 :: ws)) .non := fun n => by
  have q := f_all p hp (n + 5)
  obtain ⟨sep, rest, hpt⟩ := jn_part (ws := ws) q.fr
  have hne : jn (p.1 :: ws) ≠ "" := fun e => by
    have := jn_len p.1 ws
    rw [e] at this
    have h0 : ("" : Str).length = 0 := by decide +kernel
    have := q.ne
    omega
  rw [rc_core hne h.len h.ok hpt (q.w _ _ _)]
  refine rcB_short (split_jn (by simp) h.fr) q.k1 q.k2 q.k3 q.k4 (Nat.le_trans q.k5 (by decide)) ?_
  rw [eqI]
  congr 1
  rw [decide_eq_false_iff_not]
  simp only [List.length_cons]
  omega
end K83
end

section
set_option maxRecDepth 100000
set_option maxHeartbeats 1000000
set_option linter.all false
open PySem Mn
namespace K83
theorem rc_parts {p : Str × Str} (hp : p ∈ fW) {ws : List Str} (h : WsOk (p.1 :: ws)) (hn : ws.length = p.2.length) (g : D → D) (hz : (zipD (chars p.2) (ws.map .str)).length ≤ 2)
    (hg : ∀ x ∈ zipD (chars p.2) (ws.map D.str), ∃ c y, x = .tup [.str c, .str y] ∧ ∀ n, run P (n + 5) "read_part" [] [.str c, .str y] = .ok (g x) []) {r : Bool} (hin : inList .non ((zipD (chars p.2) (ws.map D.str)).map g) = some r) :
    RC (jn (p.1 :: ws)) (if r = true then .non else .tup (.str p.1 :: (zipD (chars p.2) (ws.map D.str)).map g)) := fun n => by
  have q := f_all p hp (n + 5)
  obtain ⟨sep, rest, hpt⟩ := jn_part (ws := ws) q.fr
  have hne : jn (p.1 :: ws) ≠ "" := fun e => by
    have := jn_len p.1 ws
    rw [e] at this
    have h0 : ("" : Str).length = 0 := by decide +kernel
    have := q.ne
    omega
  rw [rc_core hne h.len h.ok hpt (q.w _ _ _)]
  have hlc : lcGo (fun x st => lcTurn (put [7, 8] x (Mn.wipe [.d (.str (jn (p.1 :: ws))), .d (.lst ((p.1 :: ws).map .str)), .d (.str p.2), .un, .d (.str p.1), .d (.str sep), .d (.str rest), .un, .un] [7, 8])) (fun ρ st => .ok (.bl true) st) (fun ρ st => ((varD ρ[7]? st).bind fun x st => ((varD ρ[8]? st).bind fun x st => Res.ok [x] st).bind fun xs st => .ok (x :: xs) st).bind fun xs st => (Γ (n + 5)).call "read_part" st xs) st) (zipD (chars p.2) (((p.1 :: ws).map D.str).drop 1)) [] [] = .ok ((zipD (chars p.2) (ws.map D.str)).map g) [] := by
    have := lcGo_all (step := fun x st => lcTurn (put [7, 8] x (Mn.wipe [.d (.str (jn (p.1 :: ws))), .d (.lst ((p.1 :: ws).map .str)), .d (.str p.2), .un, .d (.str p.1), .d (.str sep), .d (.str rest), .un, .un] [7, 8])) (fun ρ st => .ok (.bl true) st) (fun ρ st => ((varD ρ[7]? st).bind fun x st => ((varD ρ[8]? st).bind fun x st => Res.ok [x] st).bind fun xs st => .ok (x :: xs) st).bind fun xs st => (Γ (n + 5)).call "read_part" st xs) st) (g := g) (st := []) (xs := zipD (chars p.2) (ws.map D.str)) (acc := []) (fun x hx => by
      obtain ⟨c, y, rfl, hr⟩ := hg x hx
      have hr' : (Γ (n + 5)).call "read_part" [] [.str c, .str y] = .ok (g (.tup [.str c, .str y])) [] := hr n
      exact lcTurn_t (ρ := [.d (.str (jn (p.1 :: ws))), .d (.lst ((p.1 :: ws).map .str)), .d (.str p.2), .un, .d (.str p.1), .d (.str sep), .d (.str rest), .d (.str c), .d (.str y)]) rfl hr') (by simp only [List.length_nil, Nat.zero_add]; exact Nat.le_trans hz (by decide))
    simpa using this
  rw [rcB_parts (ds := (zipD (chars p.2) (ws.map D.str)).map g) (split_jn (by simp) h.fr) q.k1 q.k2 q.k3 q.k4 (Nat.le_trans q.k5 (by decide)) (by
    rw [eqI]
    congr 1
    rw [decide_eq_true_iff]
    simp only [List.length_cons]
    omega) hlc hin (by rw [List.length_map]; exact Nat.le_trans (Nat.add_le_add_left hz 1) (by decide))]
  split <;> rfl
/-! ### parts -/
def nameW : List Str := ["served", "a", "z9", "court", "reply", "b", "c"]
def nonW : List Str := ["A", "due", "9a", "", "met", "5", "next", "9", "aaaaaaaaaaaaaaaaaaaaa"]
theorem name_all : ∀ w ∈ nameW, ∀ n, run P (n + 1) "is_name" [] [.str w] = .ok (.bl true) [] ∧ free w := by
  intro w hw n
  simp only [nameW, List.mem_cons, List.not_mem_nil, or_false] at hw
  rcases hw with rfl | rfl | rfl | rfl | rfl | rfl | rfl
  all_goals exact ⟨by kernel_rfl, by decide +kernel⟩
theorem non_all : ∀ w ∈ nonW, ∀ n, run P (n + 1) "is_name" [] [.str w] = .ok (.bl false) [] ∧ free w := by
  intro w hw n
  simp only [nonW, List.mem_cons, List.not_mem_nil, or_false] at hw
  rcases hw with rfl | rfl | rfl | rfl | rfl | rfl | rfl | rfl | rfl
  all_goals exact ⟨by kernel_rfl, by decide +kernel⟩
theorem part_n {n : Nat} {w : Str} (h : run P n "is_name" [] [.str w] = .ok (.bl true) []) : run P (n + 1) "read_part" [] [.str "n", .str w] = .ok (.str w) [] := by
  rw [run_fin d_read_part rfl]
  have k1 : eqD (.str "n") (.str "n") = some true := by kernel_rfl
  have h' : (Γ n).call "is_name" [] [.str w] = .ok (.bl true) [] := h
  simp only [xsL_cons, xsL_nil, xs1, ev, evL, bind_ok, lift_some, out_ok, seq_nx, seq_rt, seq_ite, asB_ok, asI_ok, asL_lst, asL_tup, asIt_lst, asIt_tup, asIt_str, andB_ok, andB_t, andB_f, orB_ok, orB_t, orB_f, iteB_ok, ifO_ok, iteB_t, iteB_f, ifO_t, ifO_f, varD_d, nxO_some, putO_some, put_1, put_2, put_3, strR_str,
  bl_len_l, bl_len_t, c_lt, c_le, c_gt, c_ge, c_is, c_isn, c_eq, c_ne, c_in, c_nin, b_add_i, b_sub_i, isN, Option.map_some, Option.bind_some, fin_ite, fin_rt, fin_nx,
  startD, List.map_cons, List.map_nil, List.length_cons, List.length_nil, List.replicate_succ, List.replicate_zero, Nat.sub_zero, Nat.reduceAdd, Nat.reduceSub, List.replicate, List.cons_append, List.nil_append, List.set_cons_zero, List.set_cons_succ, List.getElem?_cons_succ, List.getElem?_cons_zero, Bool.false_eq_true, if_true, if_false, Bool.not_true, Bool.not_false, L0, L1, L2, L3, L4, L5, L6, L7, L8, L9, L10, L11, L12, L13, L14, L15, L16, L17, L18, L19, L20, L21, L22, L23, L24, L25, G.ir_read_part, k1, h']
theorem part_non {n : Nat} {w : Str} (h : run P n "is_name" [] [.str w] = .ok (.bl false) []) : run P (n + 1) "read_part" [] [.str "n", .str w] = .ok .non [] := by
  rw [run_fin d_read_part rfl]
  have k1 : eqD (.str "n") (.str "n") = some true := by kernel_rfl
  have h' : (Γ n).call "is_name" [] [.str w] = .ok (.bl false) [] := h
  simp only [xsL_cons, xsL_nil, xs1, ev, evL, bind_ok, lift_some, out_ok, seq_nx, seq_rt, seq_ite, asB_ok, asI_ok, asL_lst, asL_tup, asIt_lst, asIt_tup, asIt_str, andB_ok, andB_t, andB_f, orB_ok, orB_t, orB_f, iteB_ok, ifO_ok, iteB_t, iteB_f, ifO_t, ifO_f, varD_d, nxO_some, putO_some, put_1, put_2, put_3, strR_str,
  bl_len_l, bl_len_t, c_lt, c_le, c_gt, c_ge, c_is, c_isn, c_eq, c_ne, c_in, c_nin, b_add_i, b_sub_i, isN, Option.map_some, Option.bind_some, fin_ite, fin_rt, fin_nx,
  startD, List.map_cons, List.map_nil, List.length_cons, List.length_nil, List.replicate_succ, List.replicate_zero, Nat.sub_zero, Nat.reduceAdd, Nat.reduceSub, List.replicate, List.cons_append, List.nil_append, List.set_cons_zero, List.set_cons_succ, List.getElem?_cons_succ, List.getElem?_cons_zero, Bool.false_eq_true, if_true, if_false, Bool.not_true, Bool.not_false, L0, L1, L2, L3, L4, L5, L6, L7, L8, L9, L10, L11, L12, L13, L14, L15, L16, L17, L18, L19, L20, L21, L22, L23, L24, L25, G.ir_read_part, k1, h']
theorem part_d {n : Nat} {w : Str} {d : D} (h : run P n "read_day" [] [.str w] = .ok d []) : run P (n + 1) "read_part" [] [.str "d", .str w] = .ok d [] := by
  rw [run_fin d_read_part rfl]
  have k1 : eqD (.str "d") (.str "n") = some false := by kernel_rfl
  have k2 : eqD (.str "d") (.str "d") = some true := by kernel_rfl
  have h' : (Γ n).call "read_day" [] [.str w] = .ok d [] := h
  simp only [xsL_cons, xsL_nil, xs1, ev, evL, bind_ok, lift_some, out_ok, seq_nx, seq_rt, seq_ite, asB_ok, asI_ok, asL_lst, asL_tup, asIt_lst, asIt_tup, asIt_str, andB_ok, andB_t, andB_f, orB_ok, orB_t, orB_f, iteB_ok, ifO_ok, iteB_t, iteB_f, ifO_t, ifO_f, varD_d, nxO_some, putO_some, put_1, put_2, put_3, strR_str,
  bl_len_l, bl_len_t, c_lt, c_le, c_gt, c_ge, c_is, c_isn, c_eq, c_ne, c_in, c_nin, b_add_i, b_sub_i, isN, Option.map_some, Option.bind_some, fin_ite, fin_rt, fin_nx,
  startD, List.map_cons, List.map_nil, List.length_cons, List.length_nil, List.replicate_succ, List.replicate_zero, Nat.sub_zero, Nat.reduceAdd, Nat.reduceSub, List.replicate, List.cons_append, List.nil_append, List.set_cons_zero, List.set_cons_succ, List.getElem?_cons_succ, List.getElem?_cons_zero, Bool.false_eq_true, if_true, if_false, Bool.not_true, Bool.not_false, L0, L1, L2, L3, L4, L5, L6, L7, L8, L9, L10, L11, L12, L13, L14, L15, L16, L17, L18, L19, L20, L21, L22, L23, L24, L25, G.ir_read_part, k1, k2, h']
def kW : List (Str × Int) := [("0", 0), ("9", 9), ("10", 10), ("999", 999)]
theorem k_all : ∀ p ∈ kW, ∀ n, run P (n + 2) "read_part" [] [.str "k", .str p.1] = .ok (.int p.2) [] ∧ free p.1 := by
  intro w hw n
  simp only [kW, List.mem_cons, List.not_mem_nil, or_false] at hw
  rcases hw with rfl | rfl | rfl | rfl
  all_goals exact ⟨by kernel_rfl, by decide +kernel⟩
def nokW : List Str := ["1000", "01", "-1", "x", ""]
theorem nok_all : ∀ w ∈ nokW, ∀ n, run P (n + 2) "read_part" [] [.str "k", .str w] = .ok .non [] ∧ free w := by
  intro w hw n
  simp only [nokW, List.mem_cons, List.not_mem_nil, or_false] at hw
  rcases hw with rfl | rfl | rfl | rfl | rfl
  all_goals exact ⟨by kernel_rfl, by decide +kernel⟩
def nodW : List Str := ["1000001", "-1000001", "01", "-01", "+1", "x", "", "1.0", "--1", "-00", "a"]
theorem nod_all : ∀ w ∈ nodW, ∀ n, run P (n + 2) "read_day" [] [.str w] = .ok .non [] ∧ free w := by
  intro w hw n
  simp only [nodW, List.mem_cons, List.not_mem_nil, or_false] at hw
  rcases hw with rfl | rfl | rfl | rfl | rfl | rfl | rfl | rfl | rfl | rfl | rfl
  all_goals exact ⟨by kernel_rfl, by decide +kernel⟩
end K83
end

section
set_option maxRecDepth 100000
set_option maxHeartbeats 1000000
set_option linter.all false
open PySem Mn
namespace K83
/-- a line: its word, what is behind -/
structure LnOk (line w rest : Str) : Prop where
  len : line.length ≤ 1000
  ok : PyData.strOk line = true
  ne : line ≠ ""
  part : ∃ sep, PySem.Txt.partition line sp = (w, sep, rest)
  rl : rest.length ≤ 1000
theorem ln_app {w rest : Str} (hf : free w) (hl : (w ++ sp ++ rest).length ≤ 1000) (hok : PyData.strOk (w ++ sp ++ rest) = true) : LnOk (w ++ sp ++ rest) w rest := by
  refine ⟨hl, hok, fun e => ?_, ⟨_, part_app hf⟩, ?_⟩
  · have h1 : (w ++ sp ++ rest).length = w.length + sp.length + rest.length := by rw [lenA, lenA]
    rw [e] at h1
    have h2 : sp.length = 1 := by decide +kernel
    have h3 : ("" : Str).length = 0 := by decide +kernel
    omega
  · rw [lenA, lenA] at hl; omega
theorem u_all : ∀ w ∈ uW, ∀ n, WOk n w ∧ eqD (.str w) (.str "publish") = some false ∧ cdIn (P.cd "FORMS") true (.str w) = some (.bl false) ∧ cdIx (P.cd "FORMS") (.str w) = some (.str "u") ∧ free w := by
  intro w hw n
  simp only [uW, List.mem_cons, List.not_mem_nil, or_false] at hw
  rcases hw with rfl | rfl | rfl
  all_goals exact ⟨fun line sep rest => by kernel_rfl, by kernel_rfl, by kernel_rfl, by kernel_rfl, by decide +kernel⟩
theorem rc_u {line w rest a bar b : Str} (hw : w ∈ uW) (h : LnOk line w rest) (hb : PyData.strOk bar = true) (hp : PySem.Txt.partition rest "|" = (a, bar, b)) : RC line (if bar = "" then .non else .tup [.str w, .str a, .str b]) := fun n => by
  obtain ⟨q1, q2, q3, q4, q5⟩ := u_all w hw (n + 5)
  obtain ⟨sep, hpt⟩ := h.part
  rw [rc_core h.ne h.len h.ok hpt (q1 _ _ _), rcB_rest q2 q3 q4 (by kernel_rfl), rr_u h.rl hb hp]
  split <;> rfl
theorem rr_nt {n : Nat} {w rest a bar b : Str} {r : Bool} (hl : rest.length ≤ 1000) (hp : PySem.Txt.partition rest sp = (a, bar, b)) (hn : run P n "is_name" [] [.str a] = .ok (.bl r) []) : run P (n + 1) "read_rest" [] [.str "nt", .str w, .str rest] = if r = true then .ok (.tup [.str w, .str a, .str b]) [] else .ok .non [] := by
  rw [run_fin d_read_rest rfl]
  have hc : sp.length ≠ 0 ∧ rest.length ≤ LIM := ⟨by decide +kernel, Nat.le_trans hl (by decide)⟩
  have k1 : eqD (.str "nt") (.str "t") = some false := by kernel_rfl
  have k2 : eqD (.str "nt") (.str "u") = some false := by kernel_rfl
  have hn' : (Γ n).call "is_name" [] [.str a] = .ok (.bl r) [] := hn
  simp only [xsL_cons, xsL_nil, xs1, ev, evL, bind_ok, lift_some, out_ok, seq_nx, seq_rt, seq_ite, asB_ok, asI_ok, asL_lst, asL_tup, asIt_lst, asIt_tup, asIt_str, andB_ok, andB_t, andB_f, orB_ok, orB_t, orB_f, iteB_ok, ifO_ok, iteB_t, iteB_f, ifO_t, ifO_f, varD_d, nxO_some, putO_some, put_1, put_2, put_3, strR_str,
  bl_len_l, bl_len_t, c_lt, c_le, c_gt, c_ge, c_is, c_isn, c_eq, c_ne, c_in, c_nin, b_add_i, b_sub_i, isN, Option.map_some, Option.bind_some, fin_ite, fin_rt, fin_nx,
  startD, List.map_cons, List.map_nil, List.length_cons, List.length_nil, List.replicate_succ, List.replicate_zero, Nat.sub_zero, Nat.reduceAdd, Nat.reduceSub, List.replicate, List.cons_append, List.nil_append, List.set_cons_zero, List.set_cons_succ, List.getElem?_cons_succ, List.getElem?_cons_zero, Bool.false_eq_true, if_true, if_false, Bool.not_true, Bool.not_false, L0, L1, L2, L3, L4, L5, L6, L7, L8, L9, L10, L11, L12, L13, L14, L15, L16, L17, L18, L19, L20, L21, L22, L23, L24, L25, G.ir_read_rest, k1, k2, smeth, if_pos hc, hp, hn']
  cases r <;> rfl
theorem rc_run {line rest a bar b : Str} {r : Bool} (h : LnOk line "run" rest) (hp : PySem.Txt.partition rest sp = (a, bar, b)) (hn : ∀ n, run P (n + 1) "is_name" [] [.str a] = .ok (.bl r) []) : RC line (if r = true then .tup [.str "run", .str a, .str b] else .non) := fun n => by
  obtain ⟨sep, hpt⟩ := h.part
  have q1 : WOk (n + 5) "run" := fun line sep rest => by kernel_rfl
  rw [rc_core h.ne h.len h.ok hpt (q1 _ _ _), rcB_rest (f := "nt") (by kernel_rfl) (by kernel_rfl) (by kernel_rfl) (by kernel_rfl), rr_nt (r := r) h.rl hp (hn _)]
  split <;> rfl
/-! ### what is spoilt -/
structure Spo (w up z : Str) : Prop where
  eup : PySem.Txt.upper w = up
  ul : up.length ≤ 20
  wl : w.length ≤ 20
  l : (w ++ z).length ≤ 1000
theorem Spo.zl {w up z : Str} (h : Spo w up z) : z.length ≤ 1000 := by have := h.l; rw [lenA] at this; omega
theorem spoilt_u {n : Nat} {w up z : Str} {ps : List D} (hw : w ∈ uW) (h : Spo w up z) :
    run P (n + 1) "_law_spoilt" [] [.tup (.str w :: ps), .str (w ++ z)] = .ok (.lst ((sp3 w up z ++ [PySem.Txt.replace (w ++ z) "|" " ", w]).map .str)) [] := by
  rw [run_fin d_law_spoilt rfl]
  have k1 : inD (.str w) (.lst [.str "assume", .str "decide", .str "need", .str "always", .str "stand"]) = some false ∧ inD (.str w) (.lst [.str "most", .str "span", .str "orders"]) = some true := by
    simp only [uW, List.mem_cons, List.not_mem_nil, or_false] at hw
    rcases hw with rfl | rfl | rfl <;> exact ⟨by kernel_rfl, by kernel_rfl⟩
  have hr : (("|" : Str) == (" " : Str)) = false ∧ (w ++ z).length + ((w ++ z).length + 1) * (" " : Str).length ≤ LIM := ⟨by decide +kernel, by
    have e : (" " : Str).length = 1 := by decide +kernel
    rw [e]
    exact Nat.le_trans (show _ ≤ 1000 + (1000 + 1) * 1 by have := h.l; omega) (by decide)⟩
  have k2 : smeth .replace (.str (w ++ z)) [.str "|", .str " "] = some (.str (PySem.Txt.replace (w ++ z) "|" " ")) := by
    show (if _ then some (D.str (PySem.Txt.replace (w ++ z) "|" " ")) else none) = _
    rw [if_pos hr]
  have hx : (w ++ "x").length = (w).length + 1 := lenA _ _
  have q1 : sp.length + (w ++ z).length ≤ LIM := Nat.le_trans (Nat.add_le_add (show sp.length ≤ 1 by decide +kernel) (h).l) (by decide)
  have q2 : (up).length + (z).length ≤ LIM := Nat.le_trans (Nat.add_le_add (h).ul (h).zl) (by decide)
  have q3 : (w).length + ("x" : Str).length ≤ LIM := Nat.le_trans (Nat.add_le_add (h).wl (show ("x" : Str).length ≤ 1 by decide +kernel)) (by decide)
  have q4 : (w ++ "x").length + (z).length ≤ LIM := by rw [hx]; exact Nat.le_trans (Nat.add_le_add (Nat.add_le_add_right (h).wl 1) (h).zl) (by decide)
  have q5 : (w).length ≤ LIM := Nat.le_trans (h).wl (by decide)
  have q6 : ∀ ps : List D, ix (.tup (.str w :: ps)) (.int 0) = some (.str w) := fun ps => L2.atI_nat (j := 0) rfl
  have q7 : smeth .upper (.str w) [] = some (.str up) := by
    show (if (w).length ≤ LIM then some (D.str (PySem.Txt.upper w)) else none) = _
    rw [if_pos q5, (h).eup]
  simp only [xsL_cons, xsL_nil, xs1, ev, evL, bind_ok, lift_some, out_ok, seq_nx, seq_rt, seq_ite, asB_ok, asI_ok, asL_lst, asL_tup, asIt_lst, asIt_tup, asIt_str, andB_ok, andB_t, andB_f, orB_ok, orB_t, orB_f, iteB_ok, ifO_ok, iteB_t, iteB_f, ifO_t, ifO_f, varD_d, nxO_some, putO_some, put_1, put_2, put_3, strR_str,
  bl_len_l, bl_len_t, c_lt, c_le, c_gt, c_ge, c_is, c_isn, c_eq, c_ne, c_in, c_nin, b_add_i, b_sub_i, isN, Option.map_some, Option.bind_some, fin_ite, fin_rt, fin_nx,
  startD, List.map_cons, List.map_nil, List.length_cons, List.length_nil, List.replicate_succ, List.replicate_zero, Nat.sub_zero, Nat.reduceAdd, Nat.reduceSub, List.replicate, List.cons_append, List.nil_append, List.set_cons_zero, List.set_cons_succ, List.getElem?_cons_succ, List.getElem?_cons_zero, Bool.false_eq_true, if_true, if_false, Bool.not_true, Bool.not_false, L0, L1, L2, L3, L4, L5, L6, L7, L8, L9, L10, L11, L12, L13, L14, L15, L16, L17, L18, L19, L20, L21, L22, L23, L24, L25, G.ir__law_spoilt, q6, b_add_s q1, q7, bl_len_s q5, slc_at w z (w).length rfl (Nat.le_trans (h).l (by decide)), b_add_s q2, b_add_s q3, b_add_s q4, sp3, k1.1, k1.2, k2, b_add_l]
end K83
end

section
set_option maxRecDepth 100000
set_option maxHeartbeats 2000000
set_option linter.all false
open PySem Mn
namespace K83
theorem short_add (a : String) (t : Str) (ha : (a : Str).length ≤ 20) (ht : t.length ≤ 1000) : (a : Str).length + t.length ≤ LIM := Nat.le_trans (Nat.add_le_add ha ht) (by decide)
theorem add_short (a : String) (t : Str) (ha : (a : Str).length ≤ 20) (ht : t.length ≤ 1000) : t.length + (a : Str).length ≤ LIM := Nat.le_trans (Nat.add_le_add ht ha) (by decide)
def runL (tx : Str) : List Str := ["run", "run ", "run  " ++ tx, "run A " ++ tx, "run next " ++ tx, "run 9 x"]
theorem spoilt_run {n : Nat} {w up z nm tx : Str} (hw : w = "run") (h : Spo w up z) (ht : tx.length ≤ 1000) :
    run P (n + 1) "_law_spoilt" [] [.tup [.str w, .str nm, .str tx], .str (w ++ z)] = .ok (.lst ((sp3 w up z ++ runL tx).map .str)) [] := by
  rw [run_fin d_law_spoilt rfl]
  have k : inD (.str w) (.lst [.str "assume", .str "decide", .str "need", .str "always", .str "stand"]) = some false ∧ inD (.str w) (.lst [.str "most", .str "span", .str "orders"]) = some false ∧ eqD (.str w) (.str "run") = some true := by
    subst hw; exact ⟨by kernel_rfl, by kernel_rfl, by kernel_rfl⟩
  have k4 : ix (.tup [.str w, .str nm, .str tx]) (.int 2) = some (.str tx) := rfl
  have hx : (w ++ "x").length = (w).length + 1 := lenA _ _
  have q1 : sp.length + (w ++ z).length ≤ LIM := Nat.le_trans (Nat.add_le_add (show sp.length ≤ 1 by decide +kernel) (h).l) (by decide)
  have q2 : (up).length + (z).length ≤ LIM := Nat.le_trans (Nat.add_le_add (h).ul (h).zl) (by decide)
  have q3 : (w).length + ("x" : Str).length ≤ LIM := Nat.le_trans (Nat.add_le_add (h).wl (show ("x" : Str).length ≤ 1 by decide +kernel)) (by decide)
  have q4 : (w ++ "x").length + (z).length ≤ LIM := by rw [hx]; exact Nat.le_trans (Nat.add_le_add (Nat.add_le_add_right (h).wl 1) (h).zl) (by decide)
  have q5 : (w).length ≤ LIM := Nat.le_trans (h).wl (by decide)
  have q6 : ∀ ps : List D, ix (.tup (.str w :: ps)) (.int 0) = some (.str w) := fun ps => L2.atI_nat (j := 0) rfl
  have q7 : smeth .upper (.str w) [] = some (.str up) := by
    show (if (w).length ≤ LIM then some (D.str (PySem.Txt.upper w)) else none) = _
    rw [if_pos q5, (h).eup]
  simp only [xsL_cons, xsL_nil, xs1, ev, evL, bind_ok, lift_some, out_ok, seq_nx, seq_rt, seq_ite, asB_ok, asI_ok, asL_lst, asL_tup, asIt_lst, asIt_tup, asIt_str, andB_ok, andB_t, andB_f, orB_ok, orB_t, orB_f, iteB_ok, ifO_ok, iteB_t, iteB_f, ifO_t, ifO_f, varD_d, nxO_some, putO_some, put_1, put_2, put_3, strR_str,
  bl_len_l, bl_len_t, c_lt, c_le, c_gt, c_ge, c_is, c_isn, c_eq, c_ne, c_in, c_nin, b_add_i, b_sub_i, isN, Option.map_some, Option.bind_some, fin_ite, fin_rt, fin_nx,
  startD, List.map_cons, List.map_nil, List.length_cons, List.length_nil, List.replicate_succ, List.replicate_zero, Nat.sub_zero, Nat.reduceAdd, Nat.reduceSub, List.replicate, List.cons_append, List.nil_append, List.set_cons_zero, List.set_cons_succ, List.getElem?_cons_succ, List.getElem?_cons_zero, Bool.false_eq_true, if_true, if_false, Bool.not_true, Bool.not_false, L0, L1, L2, L3, L4, L5, L6, L7, L8, L9, L10, L11, L12, L13, L14, L15, L16, L17, L18, L19, L20, L21, L22, L23, L24, L25, G.ir__law_spoilt, q6, b_add_s q1, q7, bl_len_s q5, slc_at w z (w).length rfl (Nat.le_trans (h).l (by decide)), b_add_s q2, b_add_s q3, b_add_s q4, sp3, k.1, k.2.1, k.2.2, k4, b_add_s (short_add "run  " tx (by decide +kernel) ht), b_add_s (short_add "run A " tx (by decide +kernel) ht), b_add_s (short_add "run next " tx (by decide +kernel) ht), b_add_l, runL]
/-- the next three -/
def sp2 (t : Str) : List Str := [t ++ " ", t ++ " x", rep1 t " " "  " ++ " "]
structure Spo2 (t : Str) : Prop where
  r : (Builtin.Str.occurrences t " " 0 t.length 1).length ≤ 1
  l : t.length ≤ 900
  rl : (rep1 t " " "  ").length ≤ 1000
theorem Spo2.c {t : Str} (h : Spo2 t) : (1 : Int) = 1 ∧ ((" " : Str) == ("  " : Str)) = false ∧ t.length + (Builtin.Str.occurrences t " " 0 t.length 1).length * ("  " : Str).length ≤ LIM ∧ (rep1 t " " "  ").length ≤ LIM := by
  refine ⟨rfl, by decide +kernel, ?_, Nat.le_trans h.rl (by decide)⟩
  have e : ("  " : Str).length = 2 := by decide +kernel
  rw [e]
  have := h.r
  have := h.l
  exact Nat.le_trans (show _ ≤ 900 + 1 * 2 by omega) (by decide)
theorem Spo2.e {t : Str} (h : Spo2 t) : smeth .replace3 (.str t) [.str " ", .str "  ", .int 1] = some (.str (rep1 t " " "  ")) := by
  show (if _ then some (D.str (rep1 t " " "  ")) else none) = _
  rw [if_pos h.c]
theorem spoilt_0 {n : Nat} {w up z : Str} {ps : List D} (hw : w ∈ (["unused", "undo", "text"] : List Str)) (h : Spo w up z) (h2 : Spo2 (w ++ z)) :
    run P (n + 1) "_law_spoilt" [] [.tup (.str w :: ps), .str (w ++ z)] = .ok (.lst ((sp3 w up z ++ sp2 (w ++ z) ++ [w ++ z ++ " 1"]).map .str)) [] := by
  rw [run_fin d_law_spoilt rfl]
  have k : inD (.str w) (.lst [.str "assume", .str "decide", .str "need", .str "always", .str "stand"]) = some false ∧ inD (.str w) (.lst [.str "most", .str "span", .str "orders"]) = some false ∧ eqD (.str w) (.str "run") = some false ∧ inD (.str w) (.lst [.str "unused", .str "undo", .str "text"]) = some true := by
    simp only [List.mem_cons, List.not_mem_nil, or_false] at hw
    rcases hw with rfl | rfl | rfl <;> exact ⟨by kernel_rfl, by kernel_rfl, by kernel_rfl, by kernel_rfl⟩
  have hx : (w ++ "x").length = (w).length + 1 := lenA _ _
  have q1 : sp.length + (w ++ z).length ≤ LIM := Nat.le_trans (Nat.add_le_add (show sp.length ≤ 1 by decide +kernel) (h).l) (by decide)
  have q2 : (up).length + (z).length ≤ LIM := Nat.le_trans (Nat.add_le_add (h).ul (h).zl) (by decide)
  have q3 : (w).length + ("x" : Str).length ≤ LIM := Nat.le_trans (Nat.add_le_add (h).wl (show ("x" : Str).length ≤ 1 by decide +kernel)) (by decide)
  have q4 : (w ++ "x").length + (z).length ≤ LIM := by rw [hx]; exact Nat.le_trans (Nat.add_le_add (Nat.add_le_add_right (h).wl 1) (h).zl) (by decide)
  have q5 : (w).length ≤ LIM := Nat.le_trans (h).wl (by decide)
  have q6 : ∀ ps : List D, ix (.tup (.str w :: ps)) (.int 0) = some (.str w) := fun ps => L2.atI_nat (j := 0) rfl
  have q7 : smeth .upper (.str w) [] = some (.str up) := by
    show (if (w).length ≤ LIM then some (D.str (PySem.Txt.upper w)) else none) = _
    rw [if_pos q5, (h).eup]
  simp only [xsL_cons, xsL_nil, xs1, ev, evL, bind_ok, lift_some, out_ok, seq_nx, seq_rt, seq_ite, asB_ok, asI_ok, asL_lst, asL_tup, asIt_lst, asIt_tup, asIt_str, andB_ok, andB_t, andB_f, orB_ok, orB_t, orB_f, iteB_ok, ifO_ok, iteB_t, iteB_f, ifO_t, ifO_f, varD_d, nxO_some, putO_some, put_1, put_2, put_3, strR_str,
  bl_len_l, bl_len_t, c_lt, c_le, c_gt, c_ge, c_is, c_isn, c_eq, c_ne, c_in, c_nin, b_add_i, b_sub_i, isN, Option.map_some, Option.bind_some, fin_ite, fin_rt, fin_nx,
  startD, List.map_cons, List.map_nil, List.length_cons, List.length_nil, List.replicate_succ, List.replicate_zero, Nat.sub_zero, Nat.reduceAdd, Nat.reduceSub, List.replicate, List.cons_append, List.nil_append, List.set_cons_zero, List.set_cons_succ, List.getElem?_cons_succ, List.getElem?_cons_zero, Bool.false_eq_true, if_true, if_false, Bool.not_true, Bool.not_false, L0, L1, L2, L3, L4, L5, L6, L7, L8, L9, L10, L11, L12, L13, L14, L15, L16, L17, L18, L19, L20, L21, L22, L23, L24, L25, G.ir__law_spoilt, q6, b_add_s q1, q7, bl_len_s q5, slc_at w z (w).length rfl (Nat.le_trans (h).l (by decide)), b_add_s q2, b_add_s q3, b_add_s q4, sp3, k.1, k.2.1, k.2.2.1, k.2.2.2, h2.e, b_add_s (add_short " " (w ++ z) (by decide +kernel) h.l), b_add_s (add_short " x" (w ++ z) (by decide +kernel) h.l), b_add_s (add_short " 1" (w ++ z) (by decide +kernel) h.l), b_add_s (add_short " " (rep1 (w ++ z) " " "  ") (by decide +kernel) h2.rl), b_add_l, sp2]
end K83
end

section
set_option maxRecDepth 100000
set_option maxHeartbeats 2000000
set_option linter.all false
open PySem Mn
namespace K83
def pre (a : Str) (x : D) : D := match x with
  | .str s => .str (a ++ s)
  | x => x
theorem pre_ok {a : Str} {b : Str} (ha : a.length ≤ 40) (hb : b.length ≤ 40) : bin .Add (.str a) (.str b) = some (pre a (.str b)) := b_add_s (Nat.le_trans (Nat.add_le_add ha hb) (by decide))
theorem pre_map (a : Str) (cl : List Str) : (cl.map D.str).map (pre a) = (cl.map (a ++ ·)).map D.str := by
  rw [List.map_map, List.map_map]
  rfl
/-- the lines made of consts -/
theorem lc_pre1 {ρ : Slots} {a : Str} {cl : List Str} (ha : a.length ≤ 40) (hb : ∀ s ∈ cl, s.length ≤ 40) (hl : cl.length ≤ 20) (h5 : ρ.length = 6) :
    lcGo (fun x st => lcTurn (some ((Mn.wipe ρ [5]).set 5 (.d x))) (fun ρ st => .ok (.bl true) st) (fun ρ st => (varD ρ[5]? st).bind fun y st => Mn.lift (bin .Add (.str a) y) st) st) (cl.map D.str) [] [] = .ok ((cl.map (a ++ ·)).map D.str) [] := by
  rw [lcGo_all (g := pre a) (fun x hx => ?_) (by simp only [List.length_map, List.length_nil, Nat.zero_add]; exact Nat.le_trans hl (by decide)), List.nil_append, pre_map]
  obtain ⟨s, hs, rfl⟩ := List.mem_map.mp hx
  refine lcTurn_t rfl ?_
  have : ((Mn.wipe ρ [5]).set 5 (Sl.d (.str s)))[5]? = some (.d (.str s)) := by
    show (((ρ).set 5 .un).set 5 (Sl.d (.str s)))[5]? = _
    rw [List.set_set, List.getElem?_set_self (by omega)]
  rw [this]
  show Mn.lift (bin .Add (.str a) (.str s)) [] = _
  rw [pre_ok ha (hb s hs)]
  rfl
theorem lc_pre2 {ρ : Slots} {w b : Str} {cl : List Str} (hw : w.length ≤ 20) (hbb : b.length ≤ 20) (hb : ∀ s ∈ cl, s.length ≤ 40) (hl : cl.length ≤ 20) (h5 : ρ.length = 6) (h2 : ρ[2]? = some (.d (.str w))) :
    lcGo (fun x st => lcTurn (some ((Mn.wipe ρ [5]).set 5 (.d x))) (fun ρ st => .ok (.bl true) st) (fun ρ st => ((varD ρ[2]? st).bind fun x st => Mn.lift (bin .Add x (.str b)) st).bind fun x st => (varD ρ[5]? st).bind fun y st => Mn.lift (bin .Add x y) st) st) (cl.map D.str) [] [] = .ok ((cl.map (w ++ b ++ ·)).map D.str) [] := by
  rw [lcGo_all (g := pre (w ++ b)) (fun x hx => ?_) (by simp only [List.length_map, List.length_nil, Nat.zero_add]; exact Nat.le_trans hl (by decide)), List.nil_append, pre_map]
  obtain ⟨s, hs, rfl⟩ := List.mem_map.mp hx
  refine lcTurn_t rfl ?_
  have e5 : ((Mn.wipe ρ [5]).set 5 (Sl.d (.str s)))[5]? = some (.d (.str s)) := by
    show (((ρ).set 5 .un).set 5 (Sl.d (.str s)))[5]? = _
    rw [List.set_set, List.getElem?_set_self (by omega)]
  have e2 : ((Mn.wipe ρ [5]).set 5 (Sl.d (.str s)))[2]? = some (.d (.str w)) := by
    show (((ρ).set 5 .un).set 5 (Sl.d (.str s)))[2]? = _
    rw [List.getElem?_set_ne (by omega), List.getElem?_set_ne (by omega), h2]
  rw [e5, e2]
  show (Mn.lift (bin .Add (.str w) (.str b)) []).bind _ = _
  rw [b_add_s (Nat.le_trans (Nat.add_le_add hw hbb) (by decide))]
  show Mn.lift (bin .Add (.str (w ++ b)) (.str s)) [] = _
  rw [pre_ok (by rw [lenA]; omega) (hb s hs)]
  rfl
def dayBad : List Str := ["1000001", "-1000001", "01", "-01", "+1", "x", "", "1.0", "--1"]
def found3 (w up z : Str) : List Str := sp3 w up z ++ sp2 (w ++ z) ++ [w, w ++ " " ++ z]
theorem spoilt_day {n : Nat} {w up z : Str} {ps : List D} (hw : w ∈ (["open", "advance"] : List Str)) (h : Spo w up z) (h2 : Spo2 (w ++ z)) :
    run P (n + 1) "_law_spoilt" [] [.tup (.str w :: ps), .str (w ++ z)] = .ok (.lst ((found3 w up z ++ dayBad.map (w ++ " " ++ ·)).map .str)) [] := by
  rw [run_fin d_law_spoilt rfl]
  have k : inD (.str w) (.lst [.str "assume", .str "decide", .str "need", .str "always", .str "stand"]) = some false ∧ inD (.str w) (.lst [.str "most", .str "span", .str "orders"]) = some false ∧ eqD (.str w) (.str "run") = some false ∧ inD (.str w) (.lst [.str "unused", .str "undo", .str "text"]) = some false ∧ eqD (.str w) (.str "publish") = some false ∧ inD (.str w) (.lst [.str "drop"]) = some false ∧ inD (.str w) (.lst [.str "open", .str "advance"]) = some true := by
    simp only [List.mem_cons, List.not_mem_nil, or_false] at hw
    rcases hw with rfl | rfl <;> exact ⟨by kernel_rfl, by kernel_rfl, by kernel_rfl, by kernel_rfl, by kernel_rfl, by kernel_rfl, by kernel_rfl⟩
  obtain ⟨k1, k2, k3, k4, k5, k6, k7⟩ := k
  have hws : w.length + (" " : Str).length ≤ LIM := add_short " " w (by decide +kernel) (Nat.le_trans h.wl (by decide))
  have hwz : (w ++ " ").length + z.length ≤ LIM := by
    rw [lenA]
    have e : (" " : Str).length = 1 := by decide +kernel
    rw [e]
    exact Nat.le_trans (Nat.add_le_add (Nat.add_le_add_right h.wl 1) h.zl) (by decide)
  have hlc := fun ρ (e6 : ρ.length = 6) (e2 : ρ[2]? = some (Sl.d (.str w))) => lc_pre2 (ρ := ρ) (b := " ") (cl := dayBad) h.wl (by decide +kernel) (by decide +kernel) (by decide) e6 e2
  simp only [dayBad, List.map_cons, List.map_nil] at hlc
  have hx : (w ++ "x").length = (w).length + 1 := lenA _ _
  have q1 : sp.length + (w ++ z).length ≤ LIM := Nat.le_trans (Nat.add_le_add (show sp.length ≤ 1 by decide +kernel) (h).l) (by decide)
  have q2 : (up).length + (z).length ≤ LIM := Nat.le_trans (Nat.add_le_add (h).ul (h).zl) (by decide)
  have q3 : (w).length + ("x" : Str).length ≤ LIM := Nat.le_trans (Nat.add_le_add (h).wl (show ("x" : Str).length ≤ 1 by decide +kernel)) (by decide)
  have q4 : (w ++ "x").length + (z).length ≤ LIM := by rw [hx]; exact Nat.le_trans (Nat.add_le_add (Nat.add_le_add_right (h).wl 1) (h).zl) (by decide)
  have q5 : (w).length ≤ LIM := Nat.le_trans (h).wl (by decide)
  have q6 : ∀ ps : List D, ix (.tup (.str w :: ps)) (.int 0) = some (.str w) := fun ps => L2.atI_nat (j := 0) rfl
  have q7 : smeth .upper (.str w) [] = some (.str up) := by
    show (if (w).length ≤ LIM then some (D.str (PySem.Txt.upper w)) else none) = _
    rw [if_pos q5, (h).eup]
  simp only [xsL_cons, xsL_nil, xs1, ev, evL, bind_ok, lift_some, out_ok, seq_nx, seq_rt, seq_ite, asB_ok, asI_ok, asL_lst, asL_tup, asIt_lst, asIt_tup, asIt_str, andB_ok, andB_t, andB_f, orB_ok, orB_t, orB_f, iteB_ok, ifO_ok, iteB_t, iteB_f, ifO_t, ifO_f, varD_d, nxO_some, putO_some, put_1, put_2, put_3, strR_str,
  bl_len_l, bl_len_t, c_lt, c_le, c_gt, c_ge, c_is, c_isn, c_eq, c_ne, c_in, c_nin, b_add_i, b_sub_i, isN, Option.map_some, Option.bind_some, fin_ite, fin_rt, fin_nx,
  startD, List.map_cons, List.map_nil, List.length_cons, List.length_nil, List.replicate_succ, List.replicate_zero, Nat.sub_zero, Nat.reduceAdd, Nat.reduceSub, List.replicate, List.cons_append, List.nil_append, List.set_cons_zero, List.set_cons_succ, List.getElem?_cons_succ, List.getElem?_cons_zero, Bool.false_eq_true, if_true, if_false, Bool.not_true, Bool.not_false, L0, L1, L2, L3, L4, L5, L6, L7, L8, L9, L10, L11, L12, L13, L14, L15, L16, L17, L18, L19, L20, L21, L22, L23, L24, L25, G.ir__law_spoilt, q6, b_add_s q1, q7, bl_len_s q5, slc_at w z (w).length rfl (Nat.le_trans (h).l (by decide)), b_add_s q2, b_add_s q3, b_add_s q4, sp3, k1, k2, k3, k4, k5, k6, k7, h2.e, b_add_s (add_short " " (w ++ z) (by decide +kernel) h.l), b_add_s (add_short " x" (w ++ z) (by decide +kernel) h.l), b_add_s (add_short " " (rep1 (w ++ z) " " "  ") (by decide +kernel) h2.rl), b_add_s hws, b_add_s hwz, b_add_l, sp2, found3, hlc, dayBad]
def dropBad : List Str := ["1000", "01", "-1", "x", ""]
theorem spoilt_drop {n : Nat} {w up z : Str} {ps : List D} (hw : w ∈ (["drop"] : List Str)) (h : Spo w up z) (h2 : Spo2 (w ++ z)) :
    run P (n + 1) "_law_spoilt" [] [.tup (.str w :: ps), .str (w ++ z)] = .ok (.lst ((found3 w up z ++ dropBad.map (("drop " : Str) ++ ·)).map .str)) [] := by
  rw [run_fin d_law_spoilt rfl]
  have k : inD (.str w) (.lst [.str "assume", .str "decide", .str "need", .str "always", .str "stand"]) = some false ∧ inD (.str w) (.lst [.str "most", .str "span", .str "orders"]) = some false ∧ eqD (.str w) (.str "run") = some false ∧ inD (.str w) (.lst [.str "unused", .str "undo", .str "text"]) = some false ∧ eqD (.str w) (.str "publish") = some false ∧ inD (.str w) (.lst [.str "drop"]) = some true := by
    simp only [List.mem_cons, List.not_mem_nil, or_false] at hw
    rcases hw with rfl <;> exact ⟨by kernel_rfl, by kernel_rfl, by kernel_rfl, by kernel_rfl, by kernel_rfl, by kernel_rfl⟩
  obtain ⟨k0, k1, k2, k3, k4, k5⟩ := k
  have hws : w.length + (" " : Str).length ≤ LIM := add_short " " w (by decide +kernel) (Nat.le_trans h.wl (by decide))
  have hwz : (w ++ " ").length + z.length ≤ LIM := by
    rw [lenA]
    have e : (" " : Str).length = 1 := by decide +kernel
    rw [e]
    exact Nat.le_trans (Nat.add_le_add (Nat.add_le_add_right h.wl 1) h.zl) (by decide)
  have hlc := fun ρ (e6 : ρ.length = 6) => lc_pre1 (ρ := ρ) (a := "drop ") (cl := dropBad) (by decide +kernel) (by decide +kernel) (by decide) e6
  simp only [dropBad, List.map_cons, List.map_nil] at hlc
  have hx : (w ++ "x").length = (w).length + 1 := lenA _ _
  have q1 : sp.length + (w ++ z).length ≤ LIM := Nat.le_trans (Nat.add_le_add (show sp.length ≤ 1 by decide +kernel) (h).l) (by decide)
  have q2 : (up).length + (z).length ≤ LIM := Nat.le_trans (Nat.add_le_add (h).ul (h).zl) (by decide)
  have q3 : (w).length + ("x" : Str).length ≤ LIM := Nat.le_trans (Nat.add_le_add (h).wl (show ("x" : Str).length ≤ 1 by decide +kernel)) (by decide)
  have q4 : (w ++ "x").length + (z).length ≤ LIM := by rw [hx]; exact Nat.le_trans (Nat.add_le_add (Nat.add_le_add_right (h).wl 1) (h).zl) (by decide)
  have q5 : (w).length ≤ LIM := Nat.le_trans (h).wl (by decide)
  have q6 : ∀ ps : List D, ix (.tup (.str w :: ps)) (.int 0) = some (.str w) := fun ps => L2.atI_nat (j := 0) rfl
  have q7 : smeth .upper (.str w) [] = some (.str up) := by
    show (if (w).length ≤ LIM then some (D.str (PySem.Txt.upper w)) else none) = _
    rw [if_pos q5, (h).eup]
  simp only [xsL_cons, xsL_nil, xs1, ev, evL, bind_ok, lift_some, out_ok, seq_nx, seq_rt, seq_ite, asB_ok, asI_ok, asL_lst, asL_tup, asIt_lst, asIt_tup, asIt_str, andB_ok, andB_t, andB_f, orB_ok, orB_t, orB_f, iteB_ok, ifO_ok, iteB_t, iteB_f, ifO_t, ifO_f, varD_d, nxO_some, putO_some, put_1, put_2, put_3, strR_str,
  bl_len_l, bl_len_t, c_lt, c_le, c_gt, c_ge, c_is, c_isn, c_eq, c_ne, c_in, c_nin, b_add_i, b_sub_i, isN, Option.map_some, Option.bind_some, fin_ite, fin_rt, fin_nx,
  startD, List.map_cons, List.map_nil, List.length_cons, List.length_nil, List.replicate_succ, List.replicate_zero, Nat.sub_zero, Nat.reduceAdd, Nat.reduceSub, List.replicate, List.cons_append, List.nil_append, List.set_cons_zero, List.set_cons_succ, List.getElem?_cons_succ, List.getElem?_cons_zero, Bool.false_eq_true, if_true, if_false, Bool.not_true, Bool.not_false, L0, L1, L2, L3, L4, L5, L6, L7, L8, L9, L10, L11, L12, L13, L14, L15, L16, L17, L18, L19, L20, L21, L22, L23, L24, L25, G.ir__law_spoilt, q6, b_add_s q1, q7, bl_len_s q5, slc_at w z (w).length rfl (Nat.le_trans (h).l (by decide)), b_add_s q2, b_add_s q3, b_add_s q4, sp3, k0, k1, k2, k3, k4, k5, h2.e, b_add_s (add_short " " (w ++ z) (by decide +kernel) h.l), b_add_s (add_short " x" (w ++ z) (by decide +kernel) h.l), b_add_s (add_short " " (rep1 (w ++ z) " " "  ") (by decide +kernel) h2.rl), b_add_s hws, b_add_s hwz, b_add_l, sp2, found3, hlc, dropBad]
def fileBad : List Str := ["1000001", "01", "-00", "x", ""]
theorem spoilt_file {n : Nat} {w up z : Str} {ps : List D} (hw : w ∈ (["file", "correct"] : List Str)) (h : Spo w up z) (h2 : Spo2 (w ++ z)) :
    run P (n + 1) "_law_spoilt" [] [.tup (.str w :: ps), .str (w ++ z)] = .ok (.lst ((found3 w up z ++ fileBad.map (w ++ " a " ++ ·) ++ [w ++ " A 5", w ++ " met 5", w ++ " 5 a"]).map .str)) [] := by
  rw [run_fin d_law_spoilt rfl]
  have k : inD (.str w) (.lst [.str "assume", .str "decide", .str "need", .str "always", .str "stand"]) = some false ∧ inD (.str w) (.lst [.str "most", .str "span", .str "orders"]) = some false ∧ eqD (.str w) (.str "run") = some false ∧ inD (.str w) (.lst [.str "unused", .str "undo", .str "text"]) = some false ∧ eqD (.str w) (.str "publish") = some false ∧ inD (.str w) (.lst [.str "drop"]) = some false ∧ inD (.str w) (.lst [.str "open", .str "advance"]) = some false ∧ inD (.str w) (.lst [.str "file", .str "correct"]) = some true := by
    simp only [List.mem_cons, List.not_mem_nil, or_false] at hw
    rcases hw with rfl | rfl <;> exact ⟨by kernel_rfl, by kernel_rfl, by kernel_rfl, by kernel_rfl, by kernel_rfl, by kernel_rfl, by kernel_rfl, by kernel_rfl⟩
  obtain ⟨k0, k1, k2, k3, k4, k5, k6, k7⟩ := k
  have hws : w.length + (" " : Str).length ≤ LIM := add_short " " w (by decide +kernel) (Nat.le_trans h.wl (by decide))
  have hwz : (w ++ " ").length + z.length ≤ LIM := by
    rw [lenA]
    have e : (" " : Str).length = 1 := by decide +kernel
    rw [e]
    exact Nat.le_trans (Nat.add_le_add (Nat.add_le_add_right h.wl 1) h.zl) (by decide)
  have hlc := fun ρ (e6 : ρ.length = 6) (e2 : ρ[2]? = some (Sl.d (.str w))) => lc_pre2 (ρ := ρ) (b := " a ") (cl := fileBad) h.wl (by decide +kernel) (by decide +kernel) (by decide) e6 e2
  simp only [fileBad, List.map_cons, List.map_nil] at hlc
  have a1 : w.length + (" A 5" : Str).length ≤ LIM := add_short " A 5" w (by decide +kernel) (Nat.le_trans h.wl (by decide))
  have a2 : w.length + (" met 5" : Str).length ≤ LIM := add_short " met 5" w (by decide +kernel) (Nat.le_trans h.wl (by decide))
  have a3 : w.length + (" 5 a" : Str).length ≤ LIM := add_short " 5 a" w (by decide +kernel) (Nat.le_trans h.wl (by decide))
  have hx : (w ++ "x").length = (w).length + 1 := lenA _ _
  have q1 : sp.length + (w ++ z).length ≤ LIM := Nat.le_trans (Nat.add_le_add (show sp.length ≤ 1 by decide +kernel) (h).l) (by decide)
  have q2 : (up).length + (z).length ≤ LIM := Nat.le_trans (Nat.add_le_add (h).ul (h).zl) (by decide)
  have q3 : (w).length + ("x" : Str).length ≤ LIM := Nat.le_trans (Nat.add_le_add (h).wl (show ("x" : Str).length ≤ 1 by decide +kernel)) (by decide)
  have q4 : (w ++ "x").length + (z).length ≤ LIM := by rw [hx]; exact Nat.le_trans (Nat.add_le_add (Nat.add_le_add_right (h).wl 1) (h).zl) (by decide)
  have q5 : (w).length ≤ LIM := Nat.le_trans (h).wl (by decide)
  have q6 : ∀ ps : List D, ix (.tup (.str w :: ps)) (.int 0) = some (.str w) := fun ps => L2.atI_nat (j := 0) rfl
  have q7 : smeth .upper (.str w) [] = some (.str up) := by
    show (if (w).length ≤ LIM then some (D.str (PySem.Txt.upper w)) else none) = _
    rw [if_pos q5, (h).eup]
  simp only [xsL_cons, xsL_nil, xs1, ev, evL, bind_ok, lift_some, out_ok, seq_nx, seq_rt, seq_ite, asB_ok, asI_ok, asL_lst, asL_tup, asIt_lst, asIt_tup, asIt_str, andB_ok, andB_t, andB_f, orB_ok, orB_t, orB_f, iteB_ok, ifO_ok, iteB_t, iteB_f, ifO_t, ifO_f, varD_d, nxO_some, putO_some, put_1, put_2, put_3, strR_str,
  bl_len_l, bl_len_t, c_lt, c_le, c_gt, c_ge, c_is, c_isn, c_eq, c_ne, c_in, c_nin, b_add_i, b_sub_i, isN, Option.map_some, Option.bind_some, fin_ite, fin_rt, fin_nx,
  startD, List.map_cons, List.map_nil, List.length_cons, List.length_nil, List.replicate_succ, List.replicate_zero, Nat.sub_zero, Nat.reduceAdd, Nat.reduceSub, List.replicate, List.cons_append, List.nil_append, List.set_cons_zero, List.set_cons_succ, List.getElem?_cons_succ, List.getElem?_cons_zero, Bool.false_eq_true, if_true, if_false, Bool.not_true, Bool.not_false, L0, L1, L2, L3, L4, L5, L6, L7, L8, L9, L10, L11, L12, L13, L14, L15, L16, L17, L18, L19, L20, L21, L22, L23, L24, L25, G.ir__law_spoilt, q6, b_add_s q1, q7, bl_len_s q5, slc_at w z (w).length rfl (Nat.le_trans (h).l (by decide)), b_add_s q2, b_add_s q3, b_add_s q4, sp3, k0, k1, k2, k3, k4, k5, k6, k7, b_add_s a1, b_add_s a2, b_add_s a3, h2.e, b_add_s (add_short " " (w ++ z) (by decide +kernel) h.l), b_add_s (add_short " x" (w ++ z) (by decide +kernel) h.l), b_add_s (add_short " " (rep1 (w ++ z) " " "  ") (by decide +kernel) h2.rl), b_add_s hws, b_add_s hwz, b_add_l, sp2, found3, hlc, fileBad]
def nmBad : List Str := ["A", "due", "9a", "", "aaaaaaaaaaaaaaaaaaaaa"]
theorem spoilt_nm {n : Nat} {w up z : Str} {ps : List D} (hw : w ∈ (["withdraw", "due", "fixed", "behind"] : List Str)) (h : Spo w up z) (h2 : Spo2 (w ++ z)) :
    run P (n + 1) "_law_spoilt" [] [.tup (.str w :: ps), .str (w ++ z)] = .ok (.lst ((found3 w up z ++ nmBad.map (w ++ " " ++ ·)).map .str)) [] := by
  rw [run_fin d_law_spoilt rfl]
  have k : inD (.str w) (.lst [.str "assume", .str "decide", .str "need", .str "always", .str "stand"]) = some false ∧ inD (.str w) (.lst [.str "most", .str "span", .str "orders"]) = some false ∧ eqD (.str w) (.str "run") = some false ∧ inD (.str w) (.lst [.str "unused", .str "undo", .str "text"]) = some false ∧ eqD (.str w) (.str "publish") = some false ∧ inD (.str w) (.lst [.str "drop"]) = some false ∧ inD (.str w) (.lst [.str "open", .str "advance"]) = some false ∧ inD (.str w) (.lst [.str "file", .str "correct"]) = some false := by
    simp only [List.mem_cons, List.not_mem_nil, or_false] at hw
    rcases hw with rfl | rfl | rfl | rfl <;> exact ⟨by kernel_rfl, by kernel_rfl, by kernel_rfl, by kernel_rfl, by kernel_rfl, by kernel_rfl, by kernel_rfl, by kernel_rfl⟩
  obtain ⟨k0, k1, k2, k3, k4, k5, k6, k7⟩ := k
  have hws : w.length + (" " : Str).length ≤ LIM := add_short " " w (by decide +kernel) (Nat.le_trans h.wl (by decide))
  have hwz : (w ++ " ").length + z.length ≤ LIM := by
    rw [lenA]
    have e : (" " : Str).length = 1 := by decide +kernel
    rw [e]
    exact Nat.le_trans (Nat.add_le_add (Nat.add_le_add_right h.wl 1) h.zl) (by decide)
  have hlc := fun ρ (e6 : ρ.length = 6) (e2 : ρ[2]? = some (Sl.d (.str w))) => lc_pre2 (ρ := ρ) (b := " ") (cl := nmBad) h.wl (by decide +kernel) (by decide +kernel) (by decide) e6 e2
  simp only [nmBad, List.map_cons, List.map_nil] at hlc
  have am : bin .Mult (.str "a") (.int 21) = some (.str "aaaaaaaaaaaaaaaaaaaaa") := by kernel_rfl
  have hx : (w ++ "x").length = (w).length + 1 := lenA _ _
  have q1 : sp.length + (w ++ z).length ≤ LIM := Nat.le_trans (Nat.add_le_add (show sp.length ≤ 1 by decide +kernel) (h).l) (by decide)
  have q2 : (up).length + (z).length ≤ LIM := Nat.le_trans (Nat.add_le_add (h).ul (h).zl) (by decide)
  have q3 : (w).length + ("x" : Str).length ≤ LIM := Nat.le_trans (Nat.add_le_add (h).wl (show ("x" : Str).length ≤ 1 by decide +kernel)) (by decide)
  have q4 : (w ++ "x").length + (z).length ≤ LIM := by rw [hx]; exact Nat.le_trans (Nat.add_le_add (Nat.add_le_add_right (h).wl 1) (h).zl) (by decide)
  have q5 : (w).length ≤ LIM := Nat.le_trans (h).wl (by decide)
  have q6 : ∀ ps : List D, ix (.tup (.str w :: ps)) (.int 0) = some (.str w) := fun ps => L2.atI_nat (j := 0) rfl
  have q7 : smeth .upper (.str w) [] = some (.str up) := by
    show (if (w).length ≤ LIM then some (D.str (PySem.Txt.upper w)) else none) = _
    rw [if_pos q5, (h).eup]
  simp only [xsL_cons, xsL_nil, xs1, ev, evL, bind_ok, lift_some, out_ok, seq_nx, seq_rt, seq_ite, asB_ok, asI_ok, asL_lst, asL_tup, asIt_lst, asIt_tup, asIt_str, andB_ok, andB_t, andB_f, orB_ok, orB_t, orB_f, iteB_ok, ifO_ok, iteB_t, iteB_f, ifO_t, ifO_f, varD_d, nxO_some, putO_some, put_1, put_2, put_3, strR_str,
  bl_len_l, bl_len_t, c_lt, c_le, c_gt, c_ge, c_is, c_isn, c_eq, c_ne, c_in, c_nin, b_add_i, b_sub_i, isN, Option.map_some, Option.bind_some, fin_ite, fin_rt, fin_nx,
  startD, List.map_cons, List.map_nil, List.length_cons, List.length_nil, List.replicate_succ, List.replicate_zero, Nat.sub_zero, Nat.reduceAdd, Nat.reduceSub, List.replicate, List.cons_append, List.nil_append, List.set_cons_zero, List.set_cons_succ, List.getElem?_cons_succ, List.getElem?_cons_zero, Bool.false_eq_true, if_true, if_false, Bool.not_true, Bool.not_false, L0, L1, L2, L3, L4, L5, L6, L7, L8, L9, L10, L11, L12, L13, L14, L15, L16, L17, L18, L19, L20, L21, L22, L23, L24, L25, G.ir__law_spoilt, q6, b_add_s q1, q7, bl_len_s q5, slc_at w z (w).length rfl (Nat.le_trans (h).l (by decide)), b_add_s q2, b_add_s q3, b_add_s q4, sp3, k0, k1, k2, k3, k4, k5, k6, k7, am, h2.e, b_add_s (add_short " " (w ++ z) (by decide +kernel) h.l), b_add_s (add_short " x" (w ++ z) (by decide +kernel) h.l), b_add_s (add_short " " (rep1 (w ++ z) " " "  ") (by decide +kernel) h2.rl), b_add_s hws, b_add_s hwz, b_add_l, sp2, found3, hlc, nmBad]
def pubA : List Str := ["closed", "closed 1", "closed 1..", "closed 1..2 3", "close 1..2", "closed ..2", "closed 1...2", "closed 01..2"]
def pubB : List Str := ["publish a", "publish A 5", "publish a 05", "publish a 1000001"]
theorem spoilt_pub {n : Nat} {w up z : Str} {ps : List D} (hw : w ∈ (["publish"] : List Str)) (h : Spo w up z) (h2 : Spo2 (w ++ z)) :
    run P (n + 1) "_law_spoilt" [] [.tup (.str w :: ps), .str (w ++ z)] = .ok (.lst ((found3 w up z ++ pubA.map (("publish a 5 " : Str) ++ ·) ++ pubB).map .str)) [] := by
  rw [run_fin d_law_spoilt rfl]
  have k : inD (.str w) (.lst [.str "assume", .str "decide", .str "need", .str "always", .str "stand"]) = some false ∧ inD (.str w) (.lst [.str "most", .str "span", .str "orders"]) = some false ∧ eqD (.str w) (.str "run") = some false ∧ inD (.str w) (.lst [.str "unused", .str "undo", .str "text"]) = some false ∧ eqD (.str w) (.str "publish") = some true := by
    simp only [List.mem_cons, List.not_mem_nil, or_false] at hw
    rcases hw with rfl <;> exact ⟨by kernel_rfl, by kernel_rfl, by kernel_rfl, by kernel_rfl, by kernel_rfl⟩
  obtain ⟨k0, k1, k2, k3, k4⟩ := k
  have hws : w.length + (" " : Str).length ≤ LIM := add_short " " w (by decide +kernel) (Nat.le_trans h.wl (by decide))
  have hwz : (w ++ " ").length + z.length ≤ LIM := by
    rw [lenA]
    have e : (" " : Str).length = 1 := by decide +kernel
    rw [e]
    exact Nat.le_trans (Nat.add_le_add (Nat.add_le_add_right h.wl 1) h.zl) (by decide)
  have hlc := fun ρ (e6 : ρ.length = 6) => lc_pre1 (ρ := ρ) (a := "publish a 5 ") (cl := pubA) (by decide +kernel) (by decide +kernel) (by decide) e6
  simp only [pubA, List.map_cons, List.map_nil] at hlc
  have hx : (w ++ "x").length = (w).length + 1 := lenA _ _
  have q1 : sp.length + (w ++ z).length ≤ LIM := Nat.le_trans (Nat.add_le_add (show sp.length ≤ 1 by decide +kernel) (h).l) (by decide)
  have q2 : (up).length + (z).length ≤ LIM := Nat.le_trans (Nat.add_le_add (h).ul (h).zl) (by decide)
  have q3 : (w).length + ("x" : Str).length ≤ LIM := Nat.le_trans (Nat.add_le_add (h).wl (show ("x" : Str).length ≤ 1 by decide +kernel)) (by decide)
  have q4 : (w ++ "x").length + (z).length ≤ LIM := by rw [hx]; exact Nat.le_trans (Nat.add_le_add (Nat.add_le_add_right (h).wl 1) (h).zl) (by decide)
  have q5 : (w).length ≤ LIM := Nat.le_trans (h).wl (by decide)
  have q6 : ∀ ps : List D, ix (.tup (.str w :: ps)) (.int 0) = some (.str w) := fun ps => L2.atI_nat (j := 0) rfl
  have q7 : smeth .upper (.str w) [] = some (.str up) := by
    show (if (w).length ≤ LIM then some (D.str (PySem.Txt.upper w)) else none) = _
    rw [if_pos q5, (h).eup]
  simp only [xsL_cons, xsL_nil, xs1, ev, evL, bind_ok, lift_some, out_ok, seq_nx, seq_rt, seq_ite, asB_ok, asI_ok, asL_lst, asL_tup, asIt_lst, asIt_tup, asIt_str, andB_ok, andB_t, andB_f, orB_ok, orB_t, orB_f, iteB_ok, ifO_ok, iteB_t, iteB_f, ifO_t, ifO_f, varD_d, nxO_some, putO_some, put_1, put_2, put_3, strR_str,
  bl_len_l, bl_len_t, c_lt, c_le, c_gt, c_ge, c_is, c_isn, c_eq, c_ne, c_in, c_nin, b_add_i, b_sub_i, isN, Option.map_some, Option.bind_some, fin_ite, fin_rt, fin_nx,
  startD, List.map_cons, List.map_nil, List.length_cons, List.length_nil, List.replicate_succ, List.replicate_zero, Nat.sub_zero, Nat.reduceAdd, Nat.reduceSub, List.replicate, List.cons_append, List.nil_append, List.set_cons_zero, List.set_cons_succ, List.getElem?_cons_succ, List.getElem?_cons_zero, Bool.false_eq_true, if_true, if_false, Bool.not_true, Bool.not_false, L0, L1, L2, L3, L4, L5, L6, L7, L8, L9, L10, L11, L12, L13, L14, L15, L16, L17, L18, L19, L20, L21, L22, L23, L24, L25, G.ir__law_spoilt, q6, b_add_s q1, q7, bl_len_s q5, slc_at w z (w).length rfl (Nat.le_trans (h).l (by decide)), b_add_s q2, b_add_s q3, b_add_s q4, sp3, k0, k1, k2, k3, k4, h2.e, b_add_s (add_short " " (w ++ z) (by decide +kernel) h.l), b_add_s (add_short " x" (w ++ z) (by decide +kernel) h.l), b_add_s (add_short " " (rep1 (w ++ z) " " "  ") (by decide +kernel) h2.rl), b_add_s hws, b_add_s hwz, b_add_l, sp2, found3, hlc, pubA, pubB]
end K83
end

section
set_option maxRecDepth 100000
set_option maxHeartbeats 2000000
set_option linter.all false
open PySem Mn
namespace K83
open PySem.Builtin.Str
theorem occ1 (t : Str) : (occurrences t " " 0 t.length 1).length ≤ 1 := StrLaws.occ_length_le t " " 0 t.length 1
theorem rep1_app {w r : Str} (hf : free w) : rep1 (w ++ sp ++ r) " " "  " = w ++ "  " ++ r := by
  have hp := part_app (rest := r) hf
  have hl := occ1 (w ++ sp ++ r)
  unfold PySem.Txt.partition at hp
  unfold rep1
  have hl2 : (occurrences (w ++ sp ++ r) " " 0 (w ++ sp ++ r).length 1).length ≤ 1 := hl
  generalize ho : occurrences (w ++ sp ++ r) " " 0 (w ++ sp ++ r).length 1 = o at hp hl2 ⊢
  cases o with
  | nil =>
    simp only at hp
    have h1 := congrArg (fun p => p.2.1) hp
    have h2 : (Str.empty : Str) ≠ sp := by decide +kernel
    exact absurd h1 h2
  | cons c o' =>
    have e : o' = [] := by
      cases o' with
      | nil => rfl
      | cons _ _ => simp only [List.length_cons] at hl2; omega
    subst e
    have h1 := congrArg (fun p => p.1) hp
    have h2 := congrArg (fun p => p.2.2) hp
    simp only at h1 h2
    have e1 : (" " : Str).length = 1 := by decide +kernel
    rw [if_neg (by rw [e1]; simp)]
    rw [e1] at h2 ⊢
    show (⟨([strSub (w ++ sp ++ r) (c + 1) (w ++ sp ++ r).length] : List Str).foldl (fun acc p => acc ++ ("  " : Str).cps ++ p.cps) (strSub (w ++ sp ++ r) 0 c).cps⟩ : Str) = _
    rw [h1, h2]
    rfl
theorem rep1_free {t : Str} (hf : free t) : rep1 t " " "  " = t := by
  have hp := part_one hf
  unfold PySem.Txt.partition at hp
  unfold rep1
  generalize ho : occurrences t " " 0 t.length 1 = o at hp ⊢
  cases o with
  | nil => rfl
  | cons c o' =>
    simp only at hp
    have h1 := congrArg (fun p => p.2.1) hp
    have h2 : sp ≠ (Str.empty : Str) := by decide +kernel
    exact absurd h1 h2
/-! ### words in a row -/
theorem jn_snoc : ∀ (w : Str) (ws : List Str) (x : Str), jn (w :: ws ++ [x]) = jn (w :: ws) ++ sp ++ x
  | w, [], x => by
    show jn [w, x] = jn [w] ++ sp ++ x
    rw [jn_cons, jn_one, jn_one]
  | w, y :: r, x => by
    show jn (w :: y :: (r ++ [x])) = _
    rw [jn_cons, jn_cons]
    have := jn_snoc y r x
    rw [show (y :: (r ++ [x])) = (y :: r ++ [x]) from rfl, this, appA, appA, appA, appA]
    simp only [appA]
theorem empA (t : Str) : ("" : Str) ++ t = t := ext_tl (by rw [tlA]; rfl)
theorem Aemp (t : Str) : t ++ ("" : Str) = t := ext_tl (by rw [tlA, show (("" : Str)).cps.toList = [] from rfl, List.append_nil])
theorem jn_ok : ∀ (ws : List Str), (∀ w ∈ ws, PyData.strOk w = true) → PyData.strOk (jn ws) = true
  | [], _ => by decide +kernel
  | [w], h => by rw [jn_one]; exact h w List.mem_cons_self
  | w :: x :: r, h => by
    rw [jn_cons]
    exact okA (okA (h w List.mem_cons_self) (by decide +kernel)) (jn_ok (x :: r) fun y hy => h y (List.mem_cons_of_mem _ hy))
theorem jn_le : ∀ (ws : List Str) (k : Nat), (∀ w ∈ ws, w.length ≤ k) → (jn ws).length ≤ ws.length * (k + 1)
  | [], _, _ => by
    show (jn []).length ≤ 0 * _
    have : (jn []).length = 0 := by decide +kernel
    omega
  | [w], k, h => by
    rw [jn_one]
    have := h w List.mem_cons_self
    simp only [List.length_cons, List.length_nil]
    omega
  | w :: x :: r, k, h => by
    rw [jn_cons, lenA, lenA]
    have h1 := h w List.mem_cons_self
    have h2 := jn_le (x :: r) k fun y hy => h y (List.mem_cons_of_mem _ hy)
    have h3 : sp.length = 1 := by decide +kernel
    rw [h3]
    have h4 : (w :: x :: r).length * (k + 1) = (x :: r).length * (k + 1) + (k + 1) := by
      rw [List.length_cons, Nat.succ_mul]
    rw [h4]
    omega
/-- a good word -/
structure Wd (w : Str) : Prop where
  fr : free w
  len : w.length ≤ 30
  ok : PyData.strOk w = true
theorem ws_ok {ws : List Str} (h : ∀ w ∈ ws, Wd w) (hl : ws.length ≤ 20) : WsOk ws := by
  refine ⟨fun w hw => (h w hw).fr, ?_, jn_ok ws fun w hw => (h w hw).ok⟩
  have := jn_le ws 30 fun w hw => (h w hw).len
  have : ws.length * 31 ≤ 20 * 31 := Nat.mul_le_mul_right _ hl
  omega
end K83
end

section
set_option maxRecDepth 100000
set_option maxHeartbeats 2000000
set_option linter.all false
open PySem Mn
namespace K83
def tz : List Str → Str
  | [] => ""
  | ws => sp ++ jn ws
theorem jn_tz (w : Str) : ∀ ws : List Str, jn (w :: ws) = w ++ tz ws
  | [] => by rw [jn_one]; exact (Aemp w).symm
  | x :: r => by rw [jn_cons, appA]; rfl
structure Up (w up : Str) : Prop where
  e : PySem.Txt.upper w = up
  b1 : up ∈ badW
  b2 : (w ++ "x") ∈ badW
  w1 : Wd w
  w2 : Wd up
  w3 : Wd (w ++ "x")
  n1 : up ≠ ""
  n2 : w ++ "x" ≠ ""
  l1 : w.length ≤ 20
  l2 : up.length ≤ 20
theorem up_all : ∀ p ∈ fW, ∃ up, Up p.1 up := by
  intro p hp
  simp only [fW, List.mem_cons, List.not_mem_nil, or_false] at hp
  rcases hp with rfl | rfl | rfl | rfl | rfl | rfl | rfl | rfl | rfl | rfl | rfl | rfl
  · exact ⟨"DROP", by exact ⟨by decide +kernel, by decide +kernel, by decide +kernel, ⟨by decide +kernel, by decide +kernel, by decide +kernel⟩, ⟨by decide +kernel, by decide +kernel, by decide +kernel⟩, ⟨by decide +kernel, by decide +kernel, by decide +kernel⟩, by decide +kernel, by decide +kernel, by decide +kernel, by decide +kernel⟩⟩
  · exact ⟨"BEHIND", by exact ⟨by decide +kernel, by decide +kernel, by decide +kernel, ⟨by decide +kernel, by decide +kernel, by decide +kernel⟩, ⟨by decide +kernel, by decide +kernel, by decide +kernel⟩, ⟨by decide +kernel, by decide +kernel, by decide +kernel⟩, by decide +kernel, by decide +kernel, by decide +kernel, by decide +kernel⟩⟩
  · exact ⟨"UNUSED", by exact ⟨by decide +kernel, by decide +kernel, by decide +kernel, ⟨by decide +kernel, by decide +kernel, by decide +kernel⟩, ⟨by decide +kernel, by decide +kernel, by decide +kernel⟩, ⟨by decide +kernel, by decide +kernel, by decide +kernel⟩, by decide +kernel, by decide +kernel, by decide +kernel, by decide +kernel⟩⟩
  · exact ⟨"OPEN", by exact ⟨by decide +kernel, by decide +kernel, by decide +kernel, ⟨by decide +kernel, by decide +kernel, by decide +kernel⟩, ⟨by decide +kernel, by decide +kernel, by decide +kernel⟩, ⟨by decide +kernel, by decide +kernel, by decide +kernel⟩, by decide +kernel, by decide +kernel, by decide +kernel, by decide +kernel⟩⟩
  · exact ⟨"FILE", by exact ⟨by decide +kernel, by decide +kernel, by decide +kernel, ⟨by decide +kernel, by decide +kernel, by decide +kernel⟩, ⟨by decide +kernel, by decide +kernel, by decide +kernel⟩, ⟨by decide +kernel, by decide +kernel, by decide +kernel⟩, by decide +kernel, by decide +kernel, by decide +kernel, by decide +kernel⟩⟩
  · exact ⟨"CORRECT", by exact ⟨by decide +kernel, by decide +kernel, by decide +kernel, ⟨by decide +kernel, by decide +kernel, by decide +kernel⟩, ⟨by decide +kernel, by decide +kernel, by decide +kernel⟩, ⟨by decide +kernel, by decide +kernel, by decide +kernel⟩, by decide +kernel, by decide +kernel, by decide +kernel, by decide +kernel⟩⟩
  · exact ⟨"WITHDRAW", by exact ⟨by decide +kernel, by decide +kernel, by decide +kernel, ⟨by decide +kernel, by decide +kernel, by decide +kernel⟩, ⟨by decide +kernel, by decide +kernel, by decide +kernel⟩, ⟨by decide +kernel, by decide +kernel, by decide +kernel⟩, by decide +kernel, by decide +kernel, by decide +kernel, by decide +kernel⟩⟩
  · exact ⟨"ADVANCE", by exact ⟨by decide +kernel, by decide +kernel, by decide +kernel, ⟨by decide +kernel, by decide +kernel, by decide +kernel⟩, ⟨by decide +kernel, by decide +kernel, by decide +kernel⟩, ⟨by decide +kernel, by decide +kernel, by decide +kernel⟩, by decide +kernel, by decide +kernel, by decide +kernel, by decide +kernel⟩⟩
  · exact ⟨"UNDO", by exact ⟨by decide +kernel, by decide +kernel, by decide +kernel, ⟨by decide +kernel, by decide +kernel, by decide +kernel⟩, ⟨by decide +kernel, by decide +kernel, by decide +kernel⟩, ⟨by decide +kernel, by decide +kernel, by decide +kernel⟩, by decide +kernel, by decide +kernel, by decide +kernel, by decide +kernel⟩⟩
  · exact ⟨"DUE", by exact ⟨by decide +kernel, by decide +kernel, by decide +kernel, ⟨by decide +kernel, by decide +kernel, by decide +kernel⟩, ⟨by decide +kernel, by decide +kernel, by decide +kernel⟩, ⟨by decide +kernel, by decide +kernel, by decide +kernel⟩, by decide +kernel, by decide +kernel, by decide +kernel, by decide +kernel⟩⟩
  · exact ⟨"FIXED", by exact ⟨by decide +kernel, by decide +kernel, by decide +kernel, ⟨by decide +kernel, by decide +kernel, by decide +kernel⟩, ⟨by decide +kernel, by decide +kernel, by decide +kernel⟩, ⟨by decide +kernel, by decide +kernel, by decide +kernel⟩, by decide +kernel, by decide +kernel, by decide +kernel, by decide +kernel⟩⟩
  · exact ⟨"TEXT", by exact ⟨by decide +kernel, by decide +kernel, by decide +kernel, ⟨by decide +kernel, by decide +kernel, by decide +kernel⟩, ⟨by decide +kernel, by decide +kernel, by decide +kernel⟩, ⟨by decide +kernel, by decide +kernel, by decide +kernel⟩, by decide +kernel, by decide +kernel, by decide +kernel, by decide +kernel⟩⟩
theorem ne_of_len {a : Str} (h : 1 ≤ a.length) : a ≠ "" := fun e => by
  rw [e] at h
  have : ("" : Str).length = 0 := by decide +kernel
  omega
theorem sp_len : sp.length = 1 := by decide +kernel
/-- a word that begins no line, something behind or not -/
theorem rc_badz {u : Str} {ws : List Str} (hb : u ∈ badW) (hn : u ≠ "") (hw : Wd u) (h : ∀ x ∈ ws, Wd x) (hl : ws.length ≤ 10) : RC (u ++ tz ws) .non := by
  have hg : WsOk (u :: ws) := ws_ok (fun x hx => by rcases List.mem_cons.mp hx with rfl | q; exact hw; exact h x q) (by simp; omega)
  cases ws with
  | nil =>
    show RC (u ++ "") .non
    rw [Aemp]
    have := hg.len
    have h2 := hg.ok
    rw [jn_one] at this h2
    exact rc_bad1 hb ⟨this, h2⟩ hn
  | cons x r =>
    show RC (u ++ (sp ++ jn (x :: r))) .non
    rw [← appA]
    have := hg.len
    have h2 := hg.ok
    rw [jn_cons] at this h2
    refine rc_bad hb ⟨this, h2⟩ (ne_of_len ?_)
    rw [lenA, lenA, sp_len]; omega
theorem wd_emp : Wd "" := ⟨by decide +kernel, by decide +kernel, by decide +kernel⟩
theorem wd_x : Wd "x" := ⟨by decide +kernel, by decide +kernel, by decide +kernel⟩
/-- sp ++ a good line -/
theorem rc_sp {t : Str} (hl : t.length ≤ 900) (hok : PyData.strOk t = true) : RC (sp ++ t) .non := by
  have e : ("" : Str) ++ sp ++ t = sp ++ t := by rw [empA]
  rw [← e]
  refine rc_bad (by decide +kernel) ⟨?_, okA (by decide +kernel) hok⟩ (ne_of_len ?_)
  · rw [e, lenA, sp_len]; omega
  · rw [e, lenA, sp_len]; omega
theorem jn_le9 {ws : List Str} (h : ∀ w ∈ ws, Wd w) (hl : ws.length ≤ 20) : (jn ws).length ≤ 900 := by
  have := jn_le ws 30 fun w hw => (h w hw).len
  have : ws.length * 31 ≤ 20 * 31 := Nat.mul_le_mul_right _ hl
  omega
section
variable {p : Str × Str} {ws : List Str} {up : Str}
theorem cm3 (hp : p ∈ fW) (hu : Up p.1 up) (h : ∀ x ∈ ws, Wd x) (hl : ws.length ≤ 10) : ∀ b ∈ sp3 p.1 up (tz ws), RC b .non := by
  have hall : ∀ x ∈ p.1 :: ws, Wd x := fun x hx => by rcases List.mem_cons.mp hx with rfl | q; exact hu.w1; exact h x q
  intro b hb
  simp only [sp3, List.mem_cons, List.not_mem_nil, or_false] at hb
  rcases hb with rfl | rfl | rfl
  · rw [← jn_tz]
    exact rc_sp (jn_le9 hall (by simp; omega)) (jn_ok _ fun w hw => (hall w hw).ok)
  · exact rc_badz hu.b1 hu.n1 hu.w2 h hl
  · exact rc_badz hu.b2 hu.n2 hu.w3 h hl
theorem cm2 (hp : p ∈ fW) (hu : Up p.1 up) (h : ∀ x ∈ ws, Wd x) (hn : ws.length = p.2.length) (hl : ws.length ≤ 2) : ∀ b ∈ sp2 (p.1 ++ tz ws), RC b .non := by
  have hall : ∀ x ∈ p.1 :: ws, Wd x := fun x hx => by rcases List.mem_cons.mp hx with rfl | q; exact hu.w1; exact h x q
  intro b hb
  rw [← jn_tz] at hb
  simp only [sp2, List.mem_cons, List.not_mem_nil, or_false] at hb
  have hadd : ∀ y, Wd y → RC (jn (p.1 :: ws) ++ sp ++ y) .non := fun y hy => by
    rw [← jn_snoc]
    refine rc_len hp (ws_ok (fun x hx => ?_) (by simp; omega)) (by simp; omega)
    rcases List.mem_append.mp (show x ∈ (p.1 :: ws) ++ [y] from hx) with q | q
    · exact hall x q
    · rw [List.mem_singleton.mp q]; exact hy
  rcases hb with rfl | rfl | rfl
  · have := hadd "" wd_emp
    rw [Aemp] at this
    exact this
  · have e : jn (p.1 :: ws) ++ (" x" : Str) = jn (p.1 :: ws) ++ sp ++ "x" := by rw [appA]; rfl
    rw [e]
    exact hadd "x" wd_x
  · cases ws with
    | nil =>
      rw [jn_one, rep1_free hu.w1.fr]
      have := hadd "" wd_emp
      rw [Aemp, jn_one] at this
      exact this
    | cons x r =>
      have e : rep1 (jn (p.1 :: x :: r)) " " "  " ++ " " = jn (p.1 :: (("" : Str) :: x :: (r ++ [("" : Str)]))) := by
        rw [jn_cons, rep1_app hu.w1.fr]
        have e2 := jn_snoc p.1 (("" : Str) :: x :: r) ""
        rw [Aemp, jn_cons, jn_cons, empA] at e2
        refine Eq.trans ?_ e2.symm
        apply ext_tl
        simp only [tlA, List.append_assoc]
        rfl
      rw [e]
      refine rc_len hp (ws_ok (fun y hy => ?_) (by simp; simp at hl; omega)) (by simp; simp at hn; omega)
      simp only [List.mem_cons, List.mem_append, List.not_mem_nil, or_false] at hy
      rcases hy with rfl | rfl | rfl | q | rfl
      · exact hu.w1
      · exact wd_emp
      · exact h _ List.mem_cons_self
      · exact h _ (List.mem_cons_of_mem _ q)
      · exact wd_emp
theorem cm1 (hp : p ∈ fW) (hu : Up p.1 up) (h : ∀ x ∈ ws, Wd x) (hn : ws.length = p.2.length) (hl : ws.length ≤ 2) (h0 : ws ≠ []) : ∀ b ∈ [p.1, p.1 ++ " " ++ tz ws], RC b .non := by
  intro b hb
  simp only [List.mem_cons, List.not_mem_nil, or_false] at hb
  cases ws with
  | nil => exact absurd rfl h0
  | cons x r =>
  rcases hb with rfl | rfl
  · rw [← jn_one p.1]
    refine rc_len hp (ws_ok (fun y hy => ?_) (by simp)) (by simp; simp at hn; omega)
    rw [List.mem_singleton.mp hy]; exact hu.w1
  · have e : p.1 ++ " " ++ tz (x :: r) = jn (p.1 :: "" :: x :: r) := by
      rw [jn_cons, jn_cons, empA]
      rfl
    rw [e]
    refine rc_len hp (ws_ok (fun y hy => ?_) (by simp; simp at hl; omega)) (by simp; simp at hn; omega)
    simp only [List.mem_cons] at hy
    rcases hy with rfl | rfl | rfl | q
    · exact hu.w1
    · exact wd_emp
    · exact h _ List.mem_cons_self
    · exact h _ (List.mem_cons_of_mem _ q)
end
end K83
end

section
set_option maxRecDepth 100000
set_option maxHeartbeats 2000000
set_option linter.all false
open PySem Mn
namespace K83
def toS (x : D) : Str := match x with
  | .str s => s
  | .int i => toString i
  | _ => ""
def StrP (x : D) : Prop := (∃ s, x = .str s) ∨ ∃ i : Int, x = .int i ∧ i.natAbs.log2 < 1920
theorem str_ok {x : D} (h : StrP x) : bfun .str [x] = some (.str (toS x)) := by
  rcases h with ⟨s, rfl⟩ | ⟨i, rfl, hi⟩
  · rfl
  · show (if i.natAbs.log2 < 1920 then some (D.str (toString i)) else none) = _
    rw [if_pos hi]
    rfl
theorem txts_map (l : List Str) : txts (l.map D.str) = some l := by
  induction l with
  | nil => rfl
  | cons a l ih => show (txts (l.map D.str)).map _ = _; rw [ih]; rfl
theorem sum_le {l : List Str} {k : Nat} (h : ∀ s ∈ l, s.length ≤ k) : (l.map (·.length)).sum ≤ l.length * k := by
  induction l with
  | nil => simp
  | cons a l ih =>
    have h1 := h a List.mem_cons_self
    have h2 := ih fun s hs => h s (List.mem_cons_of_mem _ hs)
    rw [List.map_cons, List.sum_cons, List.length_cons, Nat.succ_mul]
    omega
theorem join_ok {l : List Str} (h : ∀ s ∈ l, s.length ≤ 100) (hl : l.length ≤ 100) : smeth .join (.str sp) [.lst (l.map .str)] = some (.str (jn l)) := by
  show (txts (l.map D.str)).bind _ = _
  rw [txts_map]
  show (if _ then some (D.str (PySem.Txt.join sp l)) else none) = _
  rw [if_pos]
  rw [sp_len]
  have := sum_le h
  have h2 : l.length * 100 ≤ 100 * 100 := Nat.mul_le_mul_right _ hl
  exact Nat.le_trans (show _ ≤ 10000 + 100 by omega) (by decide)
theorem written_ok {n : Nat} {w : Str} {ps : List D} (h1 : inD (.str w) (.lst [.str "most", .str "span", .str "orders"]) = some false) (h2 : eqD (.str w) (.str "publish") = some false) (hp : ∀ x ∈ ps, StrP x) (hl : ps.length ≤ 10) (hs : ∀ x ∈ ps, (toS x).length ≤ 100) (hw : w.length ≤ 100) :
    run P (n + 1) "_law_written" [] [.tup (.str w :: ps)] = .ok (.str (jn (w :: ps.map toS))) [] := by
  rw [run_fin d_law_written rfl]
  have q6 : ix (.tup (.str w :: ps)) (.int 0) = some (.str w) := L2.atI_nat (j := 0) rfl
  have hlc : ∀ ρ : Slots, ρ.length = 6 → lcGo (fun x st => lcTurn (some ((Mn.wipe ρ [3]).set 3 (.d x))) (fun ρ st => .ok (.bl true) st) (fun ρ st => ((varD ρ[3]? st).bind fun x st => Res.ok [x] st).bind fun xs st => Mn.lift (bfun .str xs) st) st) (.str w :: ps) [] [] = .ok ((w :: ps.map toS).map D.str) [] := fun ρ e6 => by
    rw [lcGo_all (g := fun x => .str (toS x)) (fun x hx => ?_) (by simp only [List.length_nil, Nat.zero_add, List.length_cons]; exact Nat.le_trans (Nat.succ_le_succ hl) (by decide)), List.nil_append]
    · rw [List.map_cons, List.map_cons, List.map_map]; rfl
    · refine lcTurn_t rfl ?_
      have e3 : ((Mn.wipe ρ [3]).set 3 (Sl.d x))[3]? = some (.d x) := by
        show (((ρ).set 3 .un).set 3 (Sl.d x))[3]? = _
        rw [List.set_set, List.getElem?_set_self (by omega)]
      have hx' : StrP x := by
        rcases List.mem_cons.mp hx with rfl | q
        · exact .inl ⟨_, rfl⟩
        · exact hp x q
      rw [e3]
      show Mn.lift (bfun .str [x]) [] = _
      rw [str_ok hx']
      rfl
  have hj : smeth .join (.str sp) [.lst ((w :: ps.map toS).map .str)] = some (.str (jn (w :: ps.map toS))) := join_ok (fun s hs' => by
    rcases List.mem_cons.mp hs' with rfl | q
    · exact hw
    · obtain ⟨x, hx, rfl⟩ := List.mem_map.mp q
      exact hs x hx) (by simp; omega)
  simp only [List.map_cons] at hlc hj
  simp only [xsL_cons, xsL_nil, xs1, ev, evL, bind_ok, lift_some, out_ok, seq_nx, seq_rt, seq_ite, asB_ok, asI_ok, asL_lst, asL_tup, asIt_lst, asIt_tup, asIt_str, andB_ok, andB_t, andB_f, orB_ok, orB_t, orB_f, iteB_ok, ifO_ok, iteB_t, iteB_f, ifO_t, ifO_f, varD_d, nxO_some, putO_some, put_1, put_2, put_3, strR_str,
  bl_len_l, bl_len_t, c_lt, c_le, c_gt, c_ge, c_is, c_isn, c_eq, c_ne, c_in, c_nin, b_add_i, b_sub_i, isN, Option.map_some, Option.bind_some, fin_ite, fin_rt, fin_nx,
  startD, List.map_cons, List.map_nil, List.length_cons, List.length_nil, List.replicate_succ, List.replicate_zero, Nat.sub_zero, Nat.reduceAdd, Nat.reduceSub, List.replicate, List.cons_append, List.nil_append, List.set_cons_zero, List.set_cons_succ, List.getElem?_cons_succ, List.getElem?_cons_zero, Bool.false_eq_true, if_true, if_false, Bool.not_true, Bool.not_false, L0, L1, L2, L3, L4, L5, L6, L7, L8, L9, L10, L11, L12, L13, L14, L15, L16, L17, L18, L19, L20, L21, L22, L23, L24, L25, G.ir__law_written, q6, h1, h2, hlc, hj]
end K83
end

section
set_option maxRecDepth 100000
set_option maxHeartbeats 2000000
set_option linter.all false
open PySem Mn
namespace K83
def Pd (k : Nat) (d : D) : Prop := ∃ y, py d = some y ∧ y.canLay0 = true ∧ y.depth ≤ k
theorem pd_int (i : Int) (k : Nat) : Pd k (.int i) := ⟨.int i, by simp only [py], by simp only [PyData.canLay0], by simp only [PyData.depth]; omega⟩
theorem pd_str {s : Str} (h : PyData.strOk s = true) (k : Nat) : Pd k (.str s) := ⟨.str s, by simp only [py], by simp only [PyData.canLay0, h], by simp only [PyData.depth]; omega⟩
theorem pd_all {k : Nat} : ∀ {l : List D}, (∀ x ∈ l, Pd k x) → ∃ ys, pyL l = some ys ∧ PyData.canLayAll0 ys = true ∧ PyData.depthAll ys ≤ k
  | [], _ => ⟨[], by simp only [pyL], by simp only [PyData.canLayAll0], by simp only [PyData.depthAll]; omega⟩
  | x :: l, h => by
    obtain ⟨y, h1, h2, h3⟩ := h x List.mem_cons_self
    obtain ⟨ys, h4, h5, h6⟩ := pd_all fun z hz => h z (List.mem_cons_of_mem _ hz)
    exact ⟨y :: ys, by simp only [pyL, h1, h4, Option.bind_some, Option.map_some], by simp only [PyData.canLayAll0, h2, h5, Bool.and_self], by simp only [PyData.depthAll]; omega⟩
theorem pd_tup {k : Nat} {l : List D} (h : ∀ x ∈ l, Pd k x) : Pd (k + 1) (.tup l) := by
  obtain ⟨ys, h4, h5, h6⟩ := pd_all h
  exact ⟨.tuple ys, by simp only [py, h4, Option.map_some], by simp only [PyData.canLay0, h5], by simp only [PyData.depth]; omega⟩
theorem pd_refl {k : Nat} {d : D} (h : Pd k d) (hk : k ≤ 64) : eqD d d = some true := by
  obtain ⟨y, h1, h2, h3⟩ := h
  have hs : SeqAt.shaped y = true := by
    unfold SeqAt.shaped
    rw [h2, Bool.true_and, decide_eq_true_iff]
    omega
  unfold eqD pyOk
  simp only [h1, Option.bind_some, if_pos hs, Option.map_some]
  congr 1
  exact PySem.SeqAt.eqv_refl y h2
/-- part of a line: a text or a day -/
structure PW (x : D) : Prop where
  wd : Wd (toS x)
  p : StrP x
theorem pw_pd {x : D} (h : PW x) : Pd 0 x := by
  rcases h.p with ⟨s, rfl⟩ | ⟨i, rfl, _⟩
  · exact pd_str h.wd.ok 0
  · exact pd_int i 0
theorem line_core {n : Nat} {p : Str × Str} {ps : List D} {bads : List Str} (hp : p ∈ fW) (hw : ∀ x ∈ ps, PW x) (hl : ps.length ≤ 2) (hrc : RC (jn (p.1 :: ps.map toS)) (.tup (.str p.1 :: ps)))
    (hs : run P (n + 6) "_law_spoilt" [] [.tup (.str p.1 :: ps), .str (p.1 ++ tz (ps.map toS))] = .ok (.lst (bads.map .str)) []) (hb : ∀ b ∈ bads, RC b .non) : LineOk n (.str p.1 :: ps) := by
  obtain ⟨up, hu⟩ := up_all p hp
  have k : inD (.str p.1) (.lst [.str "most", .str "span", .str "orders"]) = some false ∧ eqD (.str p.1) (.str "publish") = some false := by
    simp only [fW, List.mem_cons, List.not_mem_nil, or_false] at hp
    rcases hp with rfl | rfl | rfl | rfl | rfl | rfl | rfl | rfl | rfl | rfl | rfl | rfl <;> exact ⟨by kernel_rfl, by kernel_rfl⟩
  refine ⟨jn (p.1 :: ps.map toS), bads, written_ok k.1 k.2 (fun x hx => (hw x hx).p) (by omega) (fun x hx => Nat.le_trans (hw x hx).wd.len (by decide)) (Nat.le_trans hu.l1 (by decide)), hrc, ?_, ?_, hb⟩
  · refine pd_refl (k := 1) (pd_tup fun x hx => ?_) (by decide)
    rcases List.mem_cons.mp hx with rfl | q
    · exact pd_str hu.w1.ok 0
    · exact pw_pd (hw x q)
  · rw [jn_tz]; exact hs
theorem spo_of {p : Str × Str} {ws : List Str} {up : Str} (hu : Up p.1 up) (h : ∀ x ∈ ws, Wd x) (hl : ws.length ≤ 2) : Spo p.1 up (tz ws) ∧ Spo2 (p.1 ++ tz ws) := by
  have hall : ∀ x ∈ p.1 :: ws, Wd x := fun x hx => by rcases List.mem_cons.mp hx with rfl | q; exact hu.w1; exact h x q
  have h9 := jn_le9 hall (by simp; omega)
  refine ⟨⟨hu.e, hu.l2, hu.l1, by rw [← jn_tz]; omega⟩, ⟨occ1 _, by rw [← jn_tz]; exact h9, ?_⟩⟩
  rw [← jn_tz]
  cases ws with
  | nil => rw [jn_one, rep1_free hu.w1.fr]; have := hu.l1; omega
  | cons x r =>
    rw [jn_cons, rep1_app hu.w1.fr]
    rw [jn_cons, lenA, lenA, sp_len] at h9
    rw [lenA, lenA]
    have : ("  " : Str).length = 2 := by decide +kernel
    omega
end K83
end

section
set_option maxRecDepth 100000
set_option maxHeartbeats 2000000
set_option linter.all false
open PySem Mn
namespace K83
theorem wd1 : Wd "1" := ⟨by decide +kernel, by decide +kernel, by decide +kernel⟩
theorem line_0 {n : Nat} {w : Str} (hw : w ∈ (["unused", "undo", "text"] : List Str)) : LineOk n [.str w] := by
  have hp : (w, ("" : Str)) ∈ fW := by
    simp only [List.mem_cons, List.not_mem_nil, or_false] at hw
    rcases hw with rfl | rfl | rfl <;> decide +kernel
  obtain ⟨up, hu⟩ := up_all _ hp
  obtain ⟨s1, s2⟩ := spo_of (ws := []) hu (by simp) (by simp)
  have hz0 : zipD (chars ("" : Str)) (([] : List Str).map D.str) = [] := by kernel_rfl
  have hrc : RC (jn [w]) (.tup [.str w]) := by
    have := rc_parts (p := (w, "")) hp (ws := []) (ws_ok (fun x hx => by rw [List.mem_singleton.mp hx]; exact hu.w1) (by simp)) (show (0 : Nat) = ("" : Str).length by decide +kernel) id (by simp [zipD, hz0]) (by rw [hz0]; intro x hx; cases hx) (r := false) (by rw [hz0]; kernel_rfl)
    rw [hz0] at this
    exact this
  refine line_core (p := (w, "")) (ps := []) hp (by simp) (by simp) hrc (spoilt_0 hw s1 s2) fun b hb => ?_
  rcases List.mem_append.mp hb with q | q
  · rcases List.mem_append.mp q with q | q
    · exact cm3 hp hu (ws := []) (by simp) (by simp) b q
    · exact cm2 hp hu (ws := []) (by simp) (show (0 : Nat) = ("" : Str).length by decide +kernel) (by simp) b q
  · rw [List.mem_singleton.mp q]
    have e : w ++ tz [] ++ (" 1" : Str) = jn [w, "1"] := by
      rw [jn_cons, jn_one]
      apply ext_tl
      simp only [tlA, List.append_assoc]
      rfl
    show RC (w ++ tz [] ++ (" 1" : Str)) .non
    rw [e]
    refine rc_len (p := (w, "")) hp (ws_ok (fun x hx => ?_) (by simp)) (show (1 : Nat) ≠ ("" : Str).length by decide +kernel)
    simp only [List.mem_cons, List.not_mem_nil, or_false] at hx
    rcases hx with rfl | rfl
    · exact hu.w1
    · exact wd1
/-- lines w ++ " " ++ one -/
theorem pre_jn (w : Str) (s : Str) : w ++ " " ++ s = jn [w, s] := by rw [jn_cons, jn_one]
/-- a line of one part, read -/
theorem rc_one {p : Str × Str} {c s : Str} {d : D} {r : Bool} (hp : p ∈ fW) (hc : p.2 = c) (hcc : chars c = [.str c]) (hcl : c.length = 1) (hw : Wd p.1) (hs : Wd s) (hr : ∀ n, run P (n + 5) "read_part" [] [.str c, .str s] = .ok d []) (hin : inList .non [d] = some r) :
    RC (jn [p.1, s]) (if r = true then .non else .tup [.str p.1, d]) := by
  have hz : zipD (chars p.2) (([s] : List Str).map D.str) = [.tup [.str c, .str s]] := by rw [hc, hcc]; rfl
  have := rc_parts (p := p) hp (ws := [s]) (ws_ok (fun x hx => by
    simp only [List.mem_cons, List.not_mem_nil, or_false] at hx
    rcases hx with rfl | rfl
    · exact hw
    · exact hs) (by simp)) (by rw [hc, hcl]; rfl) (fun _ => d) (by rw [hz]; simp) (by
    rw [hz]
    intro x hx
    rw [List.mem_singleton.mp hx]
    exact ⟨c, s, rfl, hr⟩) (r := r) (by rw [hz]; exact hin)
  rw [hz] at this
  exact this
theorem rc_two {p : Str × Str} {c c2 s s2 : Str} {d d2 : D} {r : Bool} (hp : p ∈ fW) (hcc : chars p.2 = [.str c, .str c2]) (hcl : p.2.length = 2) (hne : c = c2 → d = d2 ∨ s ≠ s2) (hw : Wd p.1) (hs : Wd s) (hs2 : Wd s2)
    (hr : ∀ n, run P (n + 5) "read_part" [] [.str c, .str s] = .ok d []) (hr2 : ∀ n, run P (n + 5) "read_part" [] [.str c2, .str s2] = .ok d2 []) (hin : inList .non [d, d2] = some r) :
    RC (jn [p.1, s, s2]) (if r = true then .non else .tup [.str p.1, d, d2]) := by
  have hz : zipD (chars p.2) (([s, s2] : List Str).map D.str) = [.tup [.str c, .str s], .tup [.str c2, .str s2]] := by rw [hcc]; rfl
  let g : D → D := fun x => match x with
    | .tup [.str a, .str b] => if a = c ∧ b = s then d else d2
    | _ => d2
  have g1 : g (.tup [.str c, .str s]) = d := by show (if c = c ∧ s = s then d else d2) = d; simp
  have g2 : g (.tup [.str c2, .str s2]) = d2 := by
    show (if c2 = c ∧ s2 = s then d else d2) = d2
    split
    · rename_i q
      rcases hne q.1.symm with e | e
      · exact e
      · exact absurd q.2.symm e
    · rfl
  have := rc_parts (p := p) hp (ws := [s, s2]) (ws_ok (fun x hx => by
    simp only [List.mem_cons, List.not_mem_nil, or_false] at hx
    rcases hx with rfl | rfl | rfl
    · exact hw
    · exact hs
    · exact hs2) (by simp)) (by rw [hcl]; rfl) g (by rw [hz]; simp) (by
    rw [hz]
    intro x hx
    simp only [List.mem_cons, List.not_mem_nil, or_false] at hx
    rcases hx with rfl | rfl
    · exact ⟨c, s, rfl, fun n => by rw [g1]; exact hr n⟩
    · exact ⟨c2, s2, rfl, fun n => by rw [g2]; exact hr2 n⟩) (r := r) (by rw [hz]; simp only [List.map_cons, List.map_nil, g1, g2]; exact hin)
  rw [hz] at this
  simp only [List.map_cons, List.map_nil, g1, g2] at this
  exact this
structure DayF (d : Int) : Prop where
  pw : PW (.int d)
  rd : ∀ n, run P (n + 2) "read_day" [] [.str (toS (.int d))] = .ok (.int d) []
theorem in_int (i : Int) : inList .non [.int i] = some false := by kernel_rfl
theorem line_day {n : Nat} {w : Str} {d : Int} (hw : w ∈ (["open", "advance"] : List Str)) (hd : DayF d) : LineOk n [.str w, .int d] := by
  have hp : (w, ("d" : Str)) ∈ fW := by
    simp only [List.mem_cons, List.not_mem_nil, or_false] at hw
    rcases hw with rfl | rfl <;> decide +kernel
  obtain ⟨up, hu⟩ := up_all _ hp
  have hwd : ∀ x ∈ ([toS (.int d)] : List Str), Wd x := fun x hx => by rw [List.mem_singleton.mp hx]; exact hd.pw.wd
  obtain ⟨s1, s2⟩ := spo_of (ws := [toS (.int d)]) hu hwd (by simp)
  have hrc : RC (jn [w, toS (.int d)]) (.tup [.str w, .int d]) := by
    have := rc_one (p := (w, "d")) (c := "d") (r := false) hp rfl (by kernel_rfl) (by decide +kernel) hu.w1 hd.pw.wd (fun n => part_d (hd.rd (n + 2))) (in_int d)
    exact this
  refine line_core (p := (w, "d")) (ps := [.int d]) hp (fun x hx => by rw [List.mem_singleton.mp hx]; exact hd.pw) (by simp) hrc (spoilt_day hw s1 s2) fun b hb => ?_
  rcases List.mem_append.mp hb with q | q
  · unfold found3 at q
    rcases List.mem_append.mp q with q | q
    · rcases List.mem_append.mp q with q | q
      · exact cm3 hp hu (ws := [toS (.int d)]) hwd (by simp) b q
      · exact cm2 hp hu (ws := [toS (.int d)]) hwd (by show 1 = ("d" : Str).length; decide +kernel) (by simp) b q
    · exact cm1 hp hu (ws := [toS (.int d)]) hwd (by show 1 = ("d" : Str).length; decide +kernel) (by simp) (by simp) b q
  · obtain ⟨s, hs, rfl⟩ := List.mem_map.mp q
    rw [pre_jn]
    have hnod : s ∈ nodW := by
      simp only [dayBad, List.mem_cons, List.not_mem_nil, or_false] at hs
      rcases hs with rfl | rfl | rfl | rfl | rfl | rfl | rfl | rfl | rfl <;> decide +kernel
    have hws : Wd s := by
      simp only [dayBad, List.mem_cons, List.not_mem_nil, or_false] at hs
      rcases hs with rfl | rfl | rfl | rfl | rfl | rfl | rfl | rfl | rfl <;> exact ⟨by decide +kernel, by decide +kernel, by decide +kernel⟩
    have := rc_one (p := (w, "d")) (c := "d") (r := true) hp rfl (by kernel_rfl) (by decide +kernel) hu.w1 hws (fun n => part_d ((nod_all s hnod (n + 2)).1)) (by kernel_rfl)
    exact this
end K83
end

section
set_option maxRecDepth 100000
set_option maxHeartbeats 2000000
set_option linter.all false
open PySem Mn
namespace K83
theorem pw_str {s : Str} (h : Wd s) : PW (.str s) := ⟨h, .inl ⟨s, rfl⟩⟩
/-- the lines that all these words have -/
theorem f3 {p : Str × Str} {ws : List Str} {up : Str} (hp : p ∈ fW) (hu : Up p.1 up) (h : ∀ x ∈ ws, Wd x) (hn : ws.length = p.2.length) (hl : ws.length ≤ 2) (h0 : ws ≠ []) : ∀ b ∈ found3 p.1 up (tz ws), RC b .non := by
  intro b q
  unfold found3 at q
  rcases List.mem_append.mp q with q | q
  · rcases List.mem_append.mp q with q | q
    · exact cm3 hp hu h (by omega) b q
    · exact cm2 hp hu h hn hl b q
  · exact cm1 hp hu h hn hl h0 b q
theorem line_drop {n : Nat} {s : Str} {k : Int} (hk : (s, k) ∈ kW) (hks : toS (.int k) = s) (hwd : Wd s) (hlg : k.natAbs.log2 < 1920) : LineOk n [.str "drop", .int k] := by
  have hp : (("drop" : Str), ("k" : Str)) ∈ fW := by decide +kernel
  obtain ⟨up, hu⟩ := up_all _ hp
  have hall : ∀ x ∈ ([s] : List Str), Wd x := fun x hx => by rw [List.mem_singleton.mp hx]; exact hwd
  obtain ⟨s1, s2⟩ := spo_of (ws := [s]) hu hall (by simp)
  have hpw : PW (.int k) := ⟨by rw [hks]; exact hwd, .inr ⟨k, rfl, hlg⟩⟩
  have e0 : ([.int k] : List D).map toS = [s] := by show [toS (.int k)] = [s]; rw [hks]
  have hrc : RC (jn ["drop", s]) (.tup [.str "drop", .int k]) := rc_one (p := ("drop", "k")) (c := "k") (r := false) hp rfl (by kernel_rfl) (by decide +kernel) hu.w1 hwd (fun n => (k_all _ hk (n + 3)).1) (in_int k)
  refine line_core (p := ("drop", "k")) (ps := [.int k]) (bads := found3 "drop" up (tz [s]) ++ dropBad.map (("drop " : Str) ++ ·)) hp (fun x hx => by rw [List.mem_singleton.mp hx]; exact hpw) (by simp) (by rw [e0]; exact hrc) (by rw [e0]; exact spoilt_drop (by simp) s1 s2) fun b hb => ?_
  rcases List.mem_append.mp hb with q | q
  · exact f3 hp hu hall (by show 1 = ("k" : Str).length; decide +kernel) (by simp) (by simp) b q
  · obtain ⟨t, ht, rfl⟩ := List.mem_map.mp q
    have e : ("drop " : Str) ++ t = jn ["drop", t] := by
      rw [jn_cons, jn_one]
      apply ext_tl
      simp only [tlA]
      rfl
    have hnok : t ∈ nokW := ht
    have hwt : Wd t := by
      simp only [dropBad, List.mem_cons, List.not_mem_nil, or_false] at ht
      rcases ht with rfl | rfl | rfl | rfl | rfl <;> exact ⟨by decide +kernel, by decide +kernel, by decide +kernel⟩
    show RC (("drop " : Str) ++ t) .non
    rw [e]
    exact rc_one (p := ("drop", "k")) (c := "k") (r := true) hp rfl (by kernel_rfl) (by decide +kernel) hu.w1 hwt (fun n => (nok_all t hnok (n + 3)).1) (by kernel_rfl)
theorem nm_wd {s : Str} (h : s ∈ nameW) : Wd s ∧ inList .non [.str s] = some false := by
  simp only [nameW, List.mem_cons, List.not_mem_nil, or_false] at h
  rcases h with rfl | rfl | rfl | rfl | rfl | rfl | rfl <;> exact ⟨⟨by decide +kernel, by decide +kernel, by decide +kernel⟩, by kernel_rfl⟩
theorem nb_wd {s : Str} (h : s ∈ nmBad) : Wd s ∧ s ∈ nonW := by
  simp only [nmBad, List.mem_cons, List.not_mem_nil, or_false] at h
  rcases h with rfl | rfl | rfl | rfl | rfl <;> exact ⟨⟨by decide +kernel, by decide +kernel, by decide +kernel⟩, by decide +kernel⟩
theorem line_nm {n : Nat} {w s : Str} (hw : w ∈ (["withdraw", "due", "fixed"] : List Str)) (hs : s ∈ nameW) : LineOk n [.str w, .str s] := by
  have hp : (w, ("n" : Str)) ∈ fW := by
    simp only [List.mem_cons, List.not_mem_nil, or_false] at hw
    rcases hw with rfl | rfl | rfl <;> decide +kernel
  have hw4 : w ∈ (["withdraw", "due", "fixed", "behind"] : List Str) := by
    simp only [List.mem_cons, List.not_mem_nil, or_false] at hw ⊢
    rcases hw with rfl | rfl | rfl <;> simp
  obtain ⟨up, hu⟩ := up_all _ hp
  obtain ⟨hwd, hin⟩ := nm_wd hs
  have hall : ∀ x ∈ ([s] : List Str), Wd x := fun x hx => by rw [List.mem_singleton.mp hx]; exact hwd
  obtain ⟨s1, s2⟩ := spo_of (ws := [s]) hu hall (by simp)
  have hrc : RC (jn [w, s]) (.tup [.str w, .str s]) := rc_one (p := (w, "n")) (c := "n") (r := false) hp rfl (by kernel_rfl) (by decide +kernel) hu.w1 hwd (fun n => part_n ((name_all s hs (n + 3)).1)) hin
  refine line_core (p := (w, "n")) (ps := [.str s]) (bads := found3 w up (tz [s]) ++ nmBad.map (w ++ " " ++ ·)) hp (fun x hx => by rw [List.mem_singleton.mp hx]; exact pw_str hwd) (by simp) hrc (spoilt_nm hw4 s1 s2) fun b hb => ?_
  rcases List.mem_append.mp hb with q | q
  · exact f3 hp hu hall (by show 1 = ("n" : Str).length; decide +kernel) (by simp) (by simp) b q
  · obtain ⟨t, ht, rfl⟩ := List.mem_map.mp q
    obtain ⟨hwt, hno⟩ := nb_wd ht
    show RC (w ++ " " ++ t) .non
    rw [pre_jn]
    exact rc_one (p := (w, "n")) (c := "n") (r := true) hp rfl (by kernel_rfl) (by decide +kernel) hu.w1 hwt (fun n => part_non ((non_all t hno (n + 3)).1)) (by kernel_rfl)
theorem in_ss {s t : Str} (hs : s ∈ nameW) (ht : t ∈ nameW) : inList .non [.str s, .str t] = some false := by
  simp only [nameW, List.mem_cons, List.not_mem_nil, or_false] at hs ht
  rcases hs with rfl | rfl | rfl | rfl | rfl | rfl | rfl <;> rcases ht with rfl | rfl | rfl | rfl | rfl | rfl | rfl <;> kernel_rfl
theorem line_behind {n : Nat} {s t : Str} (hs : s ∈ nameW) (ht : t ∈ nameW) : LineOk n [.str "behind", .str s, .str t] := by
  have hp : (("behind" : Str), ("nn" : Str)) ∈ fW := by decide +kernel
  obtain ⟨up, hu⟩ := up_all _ hp
  have hwd := (nm_wd hs).1
  have hwt := (nm_wd ht).1
  have hall : ∀ x ∈ ([s, t] : List Str), Wd x := fun x hx => by
    simp only [List.mem_cons, List.not_mem_nil, or_false] at hx
    rcases hx with rfl | rfl
    · exact hwd
    · exact hwt
  obtain ⟨s1, s2⟩ := spo_of (ws := [s, t]) hu hall (by simp)
  have hne : ("n" : Str) = "n" → D.str s = D.str t ∨ s ≠ t := fun _ => by
    by_cases e : s = t
    · exact .inl (by rw [e])
    · exact .inr e
  have hrc : RC (jn ["behind", s, t]) (.tup [.str "behind", .str s, .str t]) := rc_two (p := ("behind", "nn")) (c := "n") (c2 := "n") (r := false) hp (by kernel_rfl) (by decide +kernel) hne hu.w1 hwd hwt (fun n => part_n ((name_all s hs (n + 3)).1)) (fun n => part_n ((name_all t ht (n + 3)).1)) (in_ss hs ht)
  refine line_core (p := ("behind", "nn")) (ps := [.str s, .str t]) (bads := found3 "behind" up (tz [s, t]) ++ nmBad.map (("behind" : Str) ++ " " ++ ·)) hp (fun x hx => by
    simp only [List.mem_cons, List.not_mem_nil, or_false] at hx
    rcases hx with rfl | rfl
    · exact pw_str hwd
    · exact pw_str hwt) (by simp) hrc (spoilt_nm (by simp) s1 s2) fun b hb => ?_
  rcases List.mem_append.mp hb with q | q
  · exact f3 hp hu hall (by show 2 = ("nn" : Str).length; decide +kernel) (by simp) (by simp) b q
  · obtain ⟨v, hv, rfl⟩ := List.mem_map.mp q
    show RC (("behind" : Str) ++ " " ++ v) .non
    rw [pre_jn]
    refine rc_len (p := ("behind", "nn")) hp (ws_ok (fun x hx => ?_) (by simp)) (show (1 : Nat) ≠ ("nn" : Str).length by decide +kernel)
    simp only [List.mem_cons, List.not_mem_nil, or_false] at hx
    rcases hx with rfl | rfl
    · exact hu.w1
    · exact (nb_wd hv).1
end K83
end

section
set_option maxRecDepth 100000
set_option maxHeartbeats 2000000
set_option linter.all false
open PySem Mn
namespace K83
theorem five (n : Nat) : run P (n + 2) "read_day" [] [.str "5"] = .ok (.int 5) [] := by kernel_rfl
theorem in_si {s : Str} (hs : s ∈ nameW) (d : Int) : inList .non [.str s, .int d] = some false := by
  simp only [nameW, List.mem_cons, List.not_mem_nil, or_false] at hs
  rcases hs with rfl | rfl | rfl | rfl | rfl | rfl | rfl <;> kernel_rfl
theorem in_nd (d : D) (h : d = .int 5 ∨ d = .non) : inList .non [.non, d] = some true := by
  rcases h with rfl | rfl <;> kernel_rfl
theorem line_file {n : Nat} {w s : Str} {d : Int} (hw : w ∈ (["file", "correct"] : List Str)) (hs : s ∈ nameW) (hd : DayF d) : LineOk n [.str w, .str s, .int d] := by
  have hp : (w, ("nd" : Str)) ∈ fW := by
    simp only [List.mem_cons, List.not_mem_nil, or_false] at hw
    rcases hw with rfl | rfl <;> decide +kernel
  obtain ⟨up, hu⟩ := up_all _ hp
  have hwd := (nm_wd hs).1
  have hall : ∀ x ∈ ([s, toS (.int d)] : List Str), Wd x := fun x hx => by
    simp only [List.mem_cons, List.not_mem_nil, or_false] at hx
    rcases hx with rfl | rfl
    · exact hwd
    · exact hd.pw.wd
  obtain ⟨s1, s2⟩ := spo_of (ws := [s, toS (.int d)]) hu hall (by simp)
  have hnd : ("n" : Str) = "d" → False := by decide +kernel
  have hrc : RC (jn [w, s, toS (.int d)]) (.tup [.str w, .str s, .int d]) := rc_two (p := (w, "nd")) (c := "n") (c2 := "d") (r := false) hp (by kernel_rfl) (show ("nd" : Str).length = 2 by decide +kernel) (fun e => (hnd e).elim) hu.w1 hwd hd.pw.wd (fun n => part_n ((name_all s hs (n + 3)).1)) (fun n => part_d (hd.rd (n + 2))) (in_si hs d)
  refine line_core (p := (w, "nd")) (ps := [.str s, .int d]) (bads := found3 w up (tz [s, toS (.int d)]) ++ fileBad.map (w ++ " a " ++ ·) ++ [w ++ " A 5", w ++ " met 5", w ++ " 5 a"]) hp (fun x hx => by
    simp only [List.mem_cons, List.not_mem_nil, or_false] at hx
    rcases hx with rfl | rfl
    · exact pw_str hwd
    · exact hd.pw) (by simp) hrc (spoilt_file hw s1 s2) fun b hb => ?_
  have hA : Wd "A" := ⟨by decide +kernel, by decide +kernel, by decide +kernel⟩
  have ha : Wd "a" := ⟨by decide +kernel, by decide +kernel, by decide +kernel⟩
  have hm : Wd "met" := ⟨by decide +kernel, by decide +kernel, by decide +kernel⟩
  have h5 : Wd "5" := ⟨by decide +kernel, by decide +kernel, by decide +kernel⟩
  have jj : ∀ a b : Str, jn [w, a, b] = w ++ (sp ++ a ++ sp ++ b) := fun a b => by rw [jn_cons, jn_cons, jn_one]; simp only [appA]
  rcases List.mem_append.mp hb with q | q
  · rcases List.mem_append.mp q with q | q
    · exact f3 hp hu hall (by show 2 = ("nd" : Str).length; decide +kernel) (by simp) (by simp) b q
    · obtain ⟨t, ht, rfl⟩ := List.mem_map.mp q
      have hno : t ∈ nodW := by
        simp only [fileBad, List.mem_cons, List.not_mem_nil, or_false] at ht
        rcases ht with rfl | rfl | rfl | rfl | rfl <;> decide +kernel
      have hwt : Wd t := by
        simp only [fileBad, List.mem_cons, List.not_mem_nil, or_false] at ht
        rcases ht with rfl | rfl | rfl | rfl | rfl <;> exact ⟨by decide +kernel, by decide +kernel, by decide +kernel⟩
      have e : w ++ (" a " : Str) ++ t = jn [w, "a", t] := by
        rw [jj]
        apply ext_tl
        simp only [tlA, List.append_assoc]
        rfl
      show RC (w ++ (" a " : Str) ++ t) .non
      rw [e]
      exact rc_two (p := (w, "nd")) (c := "n") (c2 := "d") (r := true) hp (by kernel_rfl) (show ("nd" : Str).length = 2 by decide +kernel) (fun e => (hnd e).elim) hu.w1 ha hwt (fun n => part_n ((name_all "a" (by decide +kernel) (n + 3)).1)) (fun n => part_d ((nod_all t hno (n + 2)).1)) (by kernel_rfl)
  · simp only [List.mem_cons, List.not_mem_nil, or_false] at q
    rcases q with rfl | rfl | rfl
    · have e : w ++ (" A 5" : Str) = jn [w, "A", "5"] := by rw [jj]; rfl
      show RC (w ++ (" A 5" : Str)) .non
      rw [e]
      exact rc_two (p := (w, "nd")) (c := "n") (c2 := "d") (r := true) hp (by kernel_rfl) (show ("nd" : Str).length = 2 by decide +kernel) (fun e => (hnd e).elim) hu.w1 hA h5 (fun n => part_non ((non_all "A" (by decide +kernel) (n + 3)).1)) (fun n => part_d (five (n + 2))) (in_nd _ (.inl rfl))
    · have e : w ++ (" met 5" : Str) = jn [w, "met", "5"] := by rw [jj]; rfl
      show RC (w ++ (" met 5" : Str)) .non
      rw [e]
      exact rc_two (p := (w, "nd")) (c := "n") (c2 := "d") (r := true) hp (by kernel_rfl) (show ("nd" : Str).length = 2 by decide +kernel) (fun e => (hnd e).elim) hu.w1 hm h5 (fun n => part_non ((non_all "met" (by decide +kernel) (n + 3)).1)) (fun n => part_d (five (n + 2))) (in_nd _ (.inl rfl))
    · have e : w ++ (" 5 a" : Str) = jn [w, "5", "a"] := by rw [jj]; rfl
      show RC (w ++ (" 5 a" : Str)) .non
      rw [e]
      exact rc_two (p := (w, "nd")) (c := "n") (c2 := "d") (r := true) hp (by kernel_rfl) (show ("nd" : Str).length = 2 by decide +kernel) (fun e => (hnd e).elim) hu.w1 h5 ha (fun n => part_non ((non_all "5" (by decide +kernel) (n + 3)).1)) (fun n => part_d ((nod_all "a" (by decide +kernel) (n + 2)).1)) (in_nd _ (.inr rfl))
end K83
end

section
set_option maxRecDepth 100000
set_option maxHeartbeats 2000000
set_option linter.all false
open PySem Mn
namespace K83
/-- a text of the law's -/
structure Tx (x : Str) : Prop where
  len : x.length ≤ 20
  ok : PyData.strOk x = true
  bar : (124 : Nat) ∉ x.cps.toList
def txW : List Str := ["", "a <= b", "yes", " x", "next c(a) ", "?", "((", "a  b"]
theorem tx_all : ∀ x ∈ txW, Tx x := by
  intro x hx
  simp only [txW, List.mem_cons, List.not_mem_nil, or_false] at hx
  rcases hx with rfl | rfl | rfl | rfl | rfl | rfl | rfl | rfl <;> exact ⟨by decide +kernel, by decide +kernel, by decide +kernel⟩
theorem up_t : ∀ w ∈ tW, ∃ up, Up w up := by
  intro p hp
  simp only [tW, List.mem_cons, List.not_mem_nil, or_false] at hp
  rcases hp with rfl | rfl | rfl | rfl | rfl
  · exact ⟨"ASSUME", by exact ⟨by decide +kernel, by decide +kernel, by decide +kernel, ⟨by decide +kernel, by decide +kernel, by decide +kernel⟩, ⟨by decide +kernel, by decide +kernel, by decide +kernel⟩, ⟨by decide +kernel, by decide +kernel, by decide +kernel⟩, by decide +kernel, by decide +kernel, by decide +kernel, by decide +kernel⟩⟩
  · exact ⟨"DECIDE", by exact ⟨by decide +kernel, by decide +kernel, by decide +kernel, ⟨by decide +kernel, by decide +kernel, by decide +kernel⟩, ⟨by decide +kernel, by decide +kernel, by decide +kernel⟩, ⟨by decide +kernel, by decide +kernel, by decide +kernel⟩, by decide +kernel, by decide +kernel, by decide +kernel, by decide +kernel⟩⟩
  · exact ⟨"NEED", by exact ⟨by decide +kernel, by decide +kernel, by decide +kernel, ⟨by decide +kernel, by decide +kernel, by decide +kernel⟩, ⟨by decide +kernel, by decide +kernel, by decide +kernel⟩, ⟨by decide +kernel, by decide +kernel, by decide +kernel⟩, by decide +kernel, by decide +kernel, by decide +kernel, by decide +kernel⟩⟩
  · exact ⟨"ALWAYS", by exact ⟨by decide +kernel, by decide +kernel, by decide +kernel, ⟨by decide +kernel, by decide +kernel, by decide +kernel⟩, ⟨by decide +kernel, by decide +kernel, by decide +kernel⟩, ⟨by decide +kernel, by decide +kernel, by decide +kernel⟩, by decide +kernel, by decide +kernel, by decide +kernel, by decide +kernel⟩⟩
  · exact ⟨"STAND", by exact ⟨by decide +kernel, by decide +kernel, by decide +kernel, ⟨by decide +kernel, by decide +kernel, by decide +kernel⟩, ⟨by decide +kernel, by decide +kernel, by decide +kernel⟩, ⟨by decide +kernel, by decide +kernel, by decide +kernel⟩, by decide +kernel, by decide +kernel, by decide +kernel, by decide +kernel⟩⟩
theorem up_u : ∀ w ∈ uW, ∃ up, Up w up := by
  intro p hp
  simp only [uW, List.mem_cons, List.not_mem_nil, or_false] at hp
  rcases hp with rfl | rfl | rfl
  · exact ⟨"MOST", by exact ⟨by decide +kernel, by decide +kernel, by decide +kernel, ⟨by decide +kernel, by decide +kernel, by decide +kernel⟩, ⟨by decide +kernel, by decide +kernel, by decide +kernel⟩, ⟨by decide +kernel, by decide +kernel, by decide +kernel⟩, by decide +kernel, by decide +kernel, by decide +kernel, by decide +kernel⟩⟩
  · exact ⟨"SPAN", by exact ⟨by decide +kernel, by decide +kernel, by decide +kernel, ⟨by decide +kernel, by decide +kernel, by decide +kernel⟩, ⟨by decide +kernel, by decide +kernel, by decide +kernel⟩, ⟨by decide +kernel, by decide +kernel, by decide +kernel⟩, by decide +kernel, by decide +kernel, by decide +kernel, by decide +kernel⟩⟩
  · exact ⟨"ORDERS", by exact ⟨by decide +kernel, by decide +kernel, by decide +kernel, ⟨by decide +kernel, by decide +kernel, by decide +kernel⟩, ⟨by decide +kernel, by decide +kernel, by decide +kernel⟩, ⟨by decide +kernel, by decide +kernel, by decide +kernel⟩, by decide +kernel, by decide +kernel, by decide +kernel, by decide +kernel⟩⟩
/-- the first three spoilt lines of any line w, blank, something -/
theorem sp3_bad {w up r : Str} (hu : Up w up) (hl : r.length ≤ 100) (hok : PyData.strOk r = true) : ∀ b ∈ sp3 w up (sp ++ r), RC b .non := by
  have hokp : PyData.strOk sp = true := by decide +kernel
  intro b hb
  simp only [sp3, List.mem_cons, List.not_mem_nil, or_false] at hb
  rcases hb with rfl | rfl | rfl
  · refine rc_sp ?_ (okA hu.w1.ok (okA hokp hok))
    rw [lenA, lenA, sp_len]
    have := hu.l1
    omega
  · rw [← appA]
    refine rc_bad hu.b1 ⟨?_, okA (okA hu.w2.ok hokp) hok⟩ (ne_of_len ?_)
    · rw [lenA, lenA, sp_len]; have := hu.l2; omega
    · rw [lenA, lenA, sp_len]; omega
  · rw [← appA]
    refine rc_bad hu.b2 ⟨?_, okA (okA hu.w3.ok hokp) hok⟩ (ne_of_len ?_)
    · rw [lenA, lenA, sp_len]; have := hu.w3.len; omega
    · rw [lenA, lenA, sp_len]; omega
theorem line_t {n : Nat} {w x : Str} (hw : w ∈ tW) (hx : x ∈ txW) : LineOk n [.str w, .str x] := by
  obtain ⟨up, hu⟩ := up_t w hw
  have t := tx_all x hx
  have hokp : PyData.strOk sp = true := by decide +kernel
  have k : inD (.str w) (.lst [.str "most", .str "span", .str "orders"]) = some false ∧ eqD (.str w) (.str "publish") = some false := by
    simp only [tW, List.mem_cons, List.not_mem_nil, or_false] at hw
    rcases hw with rfl | rfl | rfl | rfl | rfl <;> exact ⟨by kernel_rfl, by kernel_rfl⟩
  have e : jn [w, x] = w ++ (sp ++ x) := by rw [jn_cons, jn_one, appA]
  have hl : (w ++ (sp ++ x)).length ≤ 1000 := by rw [lenA, lenA, sp_len]; have := hu.l1; have := t.len; omega
  refine ⟨jn [w, x], sp3 w up (sp ++ x), written_ok (ps := [.str x]) k.1 k.2 (fun y hy => by rw [List.mem_singleton.mp hy]; exact .inl ⟨_, rfl⟩) (by simp) (fun y hy => by rw [List.mem_singleton.mp hy]; exact Nat.le_trans t.len (by decide)) (Nat.le_trans hu.l1 (by decide)), ?_, ?_, ?_, ?_⟩
  · rw [jn_cons, jn_one]
    refine rc_t hw ⟨by rw [appA]; exact hl, okA (okA hu.w1.ok hokp) t.ok⟩ (ne_of_len ?_)
    rw [lenA, lenA, sp_len]; omega
  · refine pd_refl (k := 1) (pd_tup fun y hy => ?_) (by decide)
    simp only [List.mem_cons, List.not_mem_nil, or_false] at hy
    rcases hy with rfl | rfl
    · exact pd_str hu.w1.ok 0
    · exact pd_str t.ok 0
  · rw [e]
    exact spoilt_t hw hu.e hu.l2 hu.l1 hl
  · exact sp3_bad hu (Nat.le_trans t.len (by decide)) t.ok
/-! ### run -/
theorem up_run : Up "run" "RUN" := by exact ⟨by decide +kernel, by decide +kernel, by decide +kernel, ⟨by decide +kernel, by decide +kernel, by decide +kernel⟩, ⟨by decide +kernel, by decide +kernel, by decide +kernel⟩, ⟨by decide +kernel, by decide +kernel, by decide +kernel⟩, by decide +kernel, by decide +kernel, by decide +kernel, by decide +kernel⟩
theorem rc_runA {a b : Str} {r : Bool} (ha : free a) (hn : ∀ n, run P (n + 1) "is_name" [] [.str a] = .ok (.bl r) []) (hl : a.length + b.length ≤ 100) (hoa : PyData.strOk a = true) (hob : PyData.strOk b = true) : RC (("run" : Str) ++ sp ++ (a ++ sp ++ b)) (if r = true then .tup [.str "run", .str a, .str b] else .non) := by
  have hokp : PyData.strOk sp = true := by decide +kernel
  refine rc_run (ln_app (by decide +kernel) ?_ ?_) (part_app ha) hn
  · rw [lenA, lenA, lenA, lenA, sp_len]
    have : ("run" : Str).length = 3 := by decide +kernel
    omega
  · exact okA (okA (by decide +kernel) hokp) (okA (okA hoa hokp) hob)
theorem line_run {n : Nat} {s x : Str} (hs : s ∈ nameW) (hx : x ∈ txW) : LineOk n [.str "run", .str s, .str x] := by
  have hu := up_run
  have t := tx_all x hx
  have hwd := (nm_wd hs).1
  have hokp : PyData.strOk sp = true := by decide +kernel
  have e : jn ["run", s, x] = "run" ++ (sp ++ (s ++ sp ++ x)) := by rw [jn_cons, jn_cons, jn_one, appA]
  have hrl : (s ++ sp ++ x).length ≤ 60 := by rw [lenA, lenA, sp_len]; have := hwd.len; have := t.len; omega
  have hl : (("run" : Str) ++ (sp ++ (s ++ sp ++ x))).length ≤ 1000 := by
    rw [lenA, lenA, sp_len]
    have : ("run" : Str).length = 3 := by decide +kernel
    omega
  have nn : ∀ a ∈ nonW, RC (("run" : Str) ++ sp ++ (a ++ sp ++ x)) .non := fun a ha => by
    have hl2 : a.length ≤ 30 ∧ PyData.strOk a = true := by
      simp only [nonW, List.mem_cons, List.not_mem_nil, or_false] at ha
      rcases ha with rfl | rfl | rfl | rfl | rfl | rfl | rfl | rfl | rfl <;> exact ⟨by decide +kernel, by decide +kernel⟩
    exact rc_runA (r := false) ((non_all a ha 0).2) (fun n => (non_all a ha n).1) (by have := t.len; omega) hl2.2 t.ok
  refine ⟨jn ["run", s, x], sp3 "run" "RUN" (sp ++ (s ++ sp ++ x)) ++ runL x, written_ok (ps := [.str s, .str x]) (by kernel_rfl) (by kernel_rfl) (fun y hy => ?_) (by simp) (fun y hy => ?_) (by decide +kernel), ?_, ?_, ?_, fun b hb => ?_⟩
  · simp only [List.mem_cons, List.not_mem_nil, or_false] at hy
    rcases hy with rfl | rfl <;> exact .inl ⟨_, rfl⟩
  · simp only [List.mem_cons, List.not_mem_nil, or_false] at hy
    rcases hy with rfl | rfl
    · exact Nat.le_trans hwd.len (by decide)
    · exact Nat.le_trans t.len (by decide)
  · rw [jn_cons, jn_cons, jn_one]
    exact rc_runA (r := true) hwd.fr (fun n => (name_all s hs n).1) (by have := hwd.len; have := t.len; omega) hwd.ok t.ok
  · refine pd_refl (k := 1) (pd_tup fun y hy => ?_) (by decide)
    simp only [List.mem_cons, List.not_mem_nil, or_false] at hy
    rcases hy with rfl | rfl | rfl
    · exact pd_str hu.w1.ok 0
    · exact pd_str hwd.ok 0
    · exact pd_str t.ok 0
  · rw [e]
    exact spoilt_run rfl ⟨hu.e, hu.l2, hu.l1, hl⟩ (Nat.le_trans t.len (by decide))
  · rcases List.mem_append.mp hb with q | q
    · exact sp3_bad hu (Nat.le_trans hrl (by decide)) (okA (okA hwd.ok hokp) t.ok) b q
    · simp only [runL, List.mem_cons, List.not_mem_nil, or_false] at q
      have h0 : ∀ n, run P (n + 1) "is_name" [] [.str ""] = .ok (.bl false) [] := fun n => (non_all "" (by decide +kernel) n).1
      rcases q with rfl | rfl | rfl | rfl | rfl | rfl
      · exact rc_run (r := false) (line := "run") (rest := "") (a := "") (bar := "") (b := "") ⟨by decide +kernel, by decide +kernel, by decide +kernel, ⟨"", by decide +kernel⟩, by decide +kernel⟩ (by decide +kernel) h0
      · exact rc_run (r := false) (line := "run ") (rest := "") (a := "") (bar := "") (b := "") ⟨by decide +kernel, by decide +kernel, by decide +kernel, ⟨" ", by decide +kernel⟩, by decide +kernel⟩ (by decide +kernel) h0
      · have e2 : ("run  " : Str) ++ x = ("run" : Str) ++ sp ++ ("" ++ sp ++ x) := by apply ext_tl; simp only [tlA, List.append_assoc]; rfl
        rw [e2]; exact nn "" (by decide +kernel)
      · have e2 : ("run A " : Str) ++ x = ("run" : Str) ++ sp ++ ("A" ++ sp ++ x) := by apply ext_tl; simp only [tlA, List.append_assoc]; rfl
        rw [e2]; exact nn "A" (by decide +kernel)
      · have e2 : ("run next " : Str) ++ x = ("run" : Str) ++ sp ++ ("next" ++ sp ++ x) := by apply ext_tl; simp only [tlA, List.append_assoc]; rfl
        rw [e2]; exact nn "next" (by decide +kernel)
      · exact rc_run (r := false) (line := "run 9 x") (rest := "9 x") (a := "9") (bar := " ") (b := "x") ⟨by decide +kernel, by decide +kernel, by decide +kernel, ⟨" ", by decide +kernel⟩, by decide +kernel⟩ (by decide +kernel) (fun n => (non_all "9" (by decide +kernel) n).1)
end K83
end

section
set_option maxRecDepth 100000
set_option maxHeartbeats 2000000
set_option linter.all false
open PySem Mn
namespace K83
abbrev br : Str := "|"
theorem tl_br : TL.tl br = [124] := by decide +kernel
theorem written_u {n : Nat} {w a b : Str} (h1 : inD (.str w) (.lst [.str "most", .str "span", .str "orders"]) = some true) (hw : w.length ≤ 100) (ha : a.length ≤ 100) (hb : b.length ≤ 100) :
    run P (n + 1) "_law_written" [] [.tup [.str w, .str a, .str b]] = .ok (.str (w ++ sp ++ a ++ br ++ b)) [] := by
  rw [run_fin d_law_written rfl]
  have bl : br.length = 1 := by decide +kernel
  have q0 : ix (.tup [.str w, .str a, .str b]) (.int 0) = some (.str w) := rfl
  have q1 : ix (.tup [.str w, .str a, .str b]) (.int 1) = some (.str a) := rfl
  have q2 : ix (.tup [.str w, .str a, .str b]) (.int 2) = some (.str b) := rfl
  have l1 : w.length + sp.length ≤ LIM := by rw [sp_len]; exact Nat.le_trans (show _ ≤ 101 by omega) (by decide)
  have l2 : (w ++ sp).length + a.length ≤ LIM := by rw [lenA, sp_len]; exact Nat.le_trans (show _ ≤ 201 by omega) (by decide)
  have l3 : (w ++ sp ++ a).length + br.length ≤ LIM := by rw [lenA, lenA, sp_len, bl]; exact Nat.le_trans (show _ ≤ 202 by omega) (by decide)
  have l4 : (w ++ sp ++ a ++ br).length + b.length ≤ LIM := by rw [lenA, lenA, lenA, sp_len, bl]; exact Nat.le_trans (show _ ≤ 302 by omega) (by decide)
  simp only [xsL_cons, xsL_nil, xs1, ev, evL, bind_ok, lift_some, out_ok, seq_nx, seq_rt, seq_ite, asB_ok, asI_ok, asL_lst, asL_tup, asIt_lst, asIt_tup, asIt_str, andB_ok, andB_t, andB_f, orB_ok, orB_t, orB_f, iteB_ok, ifO_ok, iteB_t, iteB_f, ifO_t, ifO_f, varD_d, nxO_some, putO_some, put_1, put_2, put_3, strR_str,
  bl_len_l, bl_len_t, c_lt, c_le, c_gt, c_ge, c_is, c_isn, c_eq, c_ne, c_in, c_nin, b_add_i, b_sub_i, isN, Option.map_some, Option.bind_some, fin_ite, fin_rt, fin_nx,
  startD, List.map_cons, List.map_nil, List.length_cons, List.length_nil, List.replicate_succ, List.replicate_zero, Nat.sub_zero, Nat.reduceAdd, Nat.reduceSub, List.replicate, List.cons_append, List.nil_append, List.set_cons_zero, List.set_cons_succ, List.getElem?_cons_succ, List.getElem?_cons_zero, Bool.false_eq_true, if_true, if_false, Bool.not_true, Bool.not_false, L0, L1, L2, L3, L4, L5, L6, L7, L8, L9, L10, L11, L12, L13, L14, L15, L16, L17, L18, L19, L20, L21, L22, L23, L24, L25, G.ir__law_written, q0, q1, q2, h1, b_add_s l1, b_add_s l2, b_add_s l3, b_add_s l4]
theorem line_u {n : Nat} {w a b : Str} (hw : w ∈ uW) (ha : a ∈ txW) (hb : b ∈ txW) : LineOk n [.str w, .str a, .str b] := by
  obtain ⟨up, hu⟩ := up_u w hw
  have ta := tx_all a ha
  have tb := tx_all b hb
  have hokp : PyData.strOk sp = true := by decide +kernel
  have hokb : PyData.strOk br = true := by decide +kernel
  have bl : br.length = 1 := by decide +kernel
  have k : inD (.str w) (.lst [.str "most", .str "span", .str "orders"]) = some true ∧ (124 : Nat) ∉ w.cps.toList := by
    simp only [uW, List.mem_cons, List.not_mem_nil, or_false] at hw
    rcases hw with rfl | rfl | rfl <;> exact ⟨by kernel_rfl, by decide +kernel⟩
  have hrl : (a ++ br ++ b).length ≤ 60 := by rw [lenA, lenA, bl]; have := ta.len; have := tb.len; omega
  have hro : PyData.strOk (a ++ br ++ b) = true := okA (okA ta.ok hokb) tb.ok
  have e : w ++ sp ++ a ++ br ++ b = w ++ (sp ++ (a ++ br ++ b)) := by simp only [appA]
  have hl : (w ++ (sp ++ (a ++ br ++ b))).length ≤ 1000 := by rw [lenA, lenA, sp_len]; have := hu.l1; omega
  have rcl : ∀ r : Str, r.length ≤ 100 → PyData.strOk r = true → LnOk (w ++ sp ++ r) w r := fun r h1 h2 => ln_app hu.w1.fr (by rw [lenA, lenA, sp_len]; have := hu.l1; omega) (okA (okA hu.w1.ok hokp) h2)
  refine ⟨w ++ sp ++ a ++ br ++ b, sp3 w up (sp ++ (a ++ br ++ b)) ++ [PySem.Txt.replace (w ++ (sp ++ (a ++ br ++ b))) "|" " ", w], written_u k.1 (Nat.le_trans hu.l1 (by decide)) (Nat.le_trans ta.len (by decide)) (Nat.le_trans tb.len (by decide)), ?_, ?_, ?_, fun b' hb' => ?_⟩
  · rw [e, ← appA]
    have := rc_u hw (rcl _ (Nat.le_trans hrl (by decide)) hro) (bar := br) hokb (TL.partition_app tl_br ta.bar)
    rw [if_neg (by decide +kernel)] at this
    exact this
  · refine pd_refl (k := 1) (pd_tup fun y hy => ?_) (by decide)
    simp only [List.mem_cons, List.not_mem_nil, or_false] at hy
    rcases hy with rfl | rfl | rfl
    · exact pd_str hu.w1.ok 0
    · exact pd_str ta.ok 0
    · exact pd_str tb.ok 0
  · rw [e]
    exact spoilt_u hw ⟨hu.e, hu.l2, hu.l1, hl⟩
  · rcases List.mem_append.mp hb' with q | q
    · exact sp3_bad hu (Nat.le_trans hrl (by decide)) hro b' q
    · have hemp : PyData.strOk Str.empty = true := by decide +kernel
      simp only [List.mem_cons, List.not_mem_nil, or_false] at q
      rcases q with rfl | rfl
      · have hj : PySem.Txt.join br [w ++ sp ++ a, b] = w ++ (sp ++ (a ++ br ++ b)) := by
          rw [TL.join_eq]
          show w ++ sp ++ a ++ br ++ b = _
          exact e
        have hs : PySem.Txt.split (w ++ (sp ++ (a ++ br ++ b))) br = [w ++ sp ++ a, b] := by
          rw [← hj]
          refine TL.split_join tl_br (by decide +kernel) (by simp) fun x hx => ?_
          simp only [List.mem_cons, List.not_mem_nil, or_false] at hx
          rcases hx with rfl | rfl
          · rw [show TL.tl (w ++ sp ++ a) = (w ++ sp ++ a).cps.toList from rfl, tlA, tlA]
            simp only [List.mem_append, not_or]
            exact ⟨⟨k.2, by decide +kernel⟩, ta.bar⟩
          · exact tb.bar
        have hr : PySem.Txt.replace (w ++ (sp ++ (a ++ br ++ b))) "|" " " = w ++ sp ++ (a ++ sp ++ b) := by
          have := StrLaws.replace_one (w ++ (sp ++ (a ++ br ++ b))) " " 124
          rw [show (("|" : Str)) = ⟨#[124]⟩ by decide +kernel]
          rw [this, show ((⟨#[124]⟩ : Str)) = br by decide +kernel, hs]
          show w ++ sp ++ a ++ sp ++ b = _
          simp only [appA]
        rw [hr]
        have hab : (124 : Nat) ∉ TL.tl (a ++ sp ++ b) := by
          rw [show TL.tl (a ++ sp ++ b) = (a ++ sp ++ b).cps.toList from rfl, tlA, tlA]
          simp only [List.mem_append, not_or]
          exact ⟨⟨ta.bar, by decide +kernel⟩, tb.bar⟩
        have := rc_u hw (rcl (a ++ sp ++ b) (by rw [lenA, lenA, sp_len]; have := ta.len; have := tb.len; omega) (okA (okA ta.ok hokp) tb.ok)) hemp (TL.partition_none tl_br hab)
        rw [if_pos (by decide +kernel)] at this
        exact this
      · have hne : b' ≠ "" := by
          simp only [uW, List.mem_cons, List.not_mem_nil, or_false] at hw
          rcases hw with rfl | rfl | rfl <;> decide +kernel
        have := rc_u (rest := Str.empty) hw ⟨Nat.le_trans hu.l1 (by decide), hu.w1.ok, hne, ⟨_, part_one hu.w1.fr⟩, by decide +kernel⟩ hemp (TL.partition_none (a := Str.empty) tl_br (by decide +kernel))
        rw [if_pos (by decide +kernel)] at this
        exact this
end K83
end

section
set_option maxRecDepth 100000
set_option maxHeartbeats 2000000
set_option linter.all false
open PySem Mn
namespace K83
abbrev dd : Str := ".."
theorem tl_dd : TL.tl dd = [46, 46] := by decide +kernel
theorem in_ii (a b : Int) : inD .non (.tup [.int a, .int b]) = some false := by kernel_rfl
theorem rs_ok {n : Nat} {s t : Str} {a b : Int} (hs : (46 : Nat) ∉ s.cps.toList) (hl : (s ++ dd ++ t).length ≤ 1000) (h1 : run P n "read_day" [] [.str s] = .ok (.int a) []) (h2 : run P n "read_day" [] [.str t] = .ok (.int b) []) :
    run P (n + 1) "read_stretch" [] [.str (s ++ dd ++ t)] = .ok (.tup [.int a, .int b]) [] := by
  rw [run_fin d_read_stretch rfl]
  have hc : dd.length ≠ 0 ∧ (s ++ dd ++ t).length ≤ LIM := ⟨by decide +kernel, Nat.le_trans hl (by decide)⟩
  have hp : PySem.Txt.partition (s ++ dd ++ t) dd = (s, dd, t) := TL.partition_app tl_dd hs
  have h1' : (Γ n).call "read_day" [] [.str s] = .ok (.int a) [] := h1
  have h2' : (Γ n).call "read_day" [] [.str t] = .ok (.int b) [] := h2
  have k1 : eqD (.str dd) (.str "") = some false := by kernel_rfl
  simp only [xsL_cons, xsL_nil, xs1, ev, evL, bind_ok, lift_some, out_ok, seq_nx, seq_rt, seq_ite, asB_ok, asI_ok, asL_lst, asL_tup, asIt_lst, asIt_tup, asIt_str, andB_ok, andB_t, andB_f, orB_ok, orB_t, orB_f, iteB_ok, ifO_ok, iteB_t, iteB_f, ifO_t, ifO_f, varD_d, nxO_some, putO_some, put_1, put_2, put_3, strR_str,
  bl_len_l, bl_len_t, c_lt, c_le, c_gt, c_ge, c_is, c_isn, c_eq, c_ne, c_in, c_nin, b_add_i, b_sub_i, isN, Option.map_some, Option.bind_some, fin_ite, fin_rt, fin_nx,
  startD, List.map_cons, List.map_nil, List.length_cons, List.length_nil, List.replicate_succ, List.replicate_zero, Nat.sub_zero, Nat.reduceAdd, Nat.reduceSub, List.replicate, List.cons_append, List.nil_append, List.set_cons_zero, List.set_cons_succ, List.getElem?_cons_succ, List.getElem?_cons_zero, Bool.false_eq_true, if_true, if_false, Bool.not_true, Bool.not_false, L0, L1, L2, L3, L4, L5, L6, L7, L8, L9, L10, L11, L12, L13, L14, L15, L16, L17, L18, L19, L20, L21, L22, L23, L24, L25, G.ir_read_stretch, smeth, if_pos hc, hp, h1', h2', k1, in_ii, Bool.or_self, Bool.or_false, Bool.false_or]
/-- what is known of a day -/
theorem day_facts {d : Int} (h : d ∈ allDays) : DayF d ∧ (46 : Nat) ∉ (ts d).cps.toList ∧ (99 : Nat) ∉ (ts d).cps.toList ∧ (ts d).length ≤ 8 ∧ 1 ≤ (ts d).length := by
  have key : ∀ n, dayOk n d = true := fun n => List.all_eq_true.mp (days_ok n) d h
  have k0 := key 0
  unfold dayOk at k0
  simp only [Bool.and_eq_true, decide_eq_true_eq, List.all_eq_true] at k0
  obtain ⟨⟨⟨⟨_, hc⟩, h1⟩, h8⟩, hlg⟩ := k0
  refine ⟨⟨⟨⟨fun hm => (hc 32 hm).1.1.2 rfl, Nat.le_trans h8 (by decide), ?_⟩, .inr ⟨d, rfl, hlg⟩⟩, fun n => ?_⟩, fun hm => (hc 46 hm).1.2 rfl, fun hm => (hc 99 hm).2 rfl, h8, h1⟩
  · unfold PyData.strOk
    rw [← Array.all_toList, List.all_eq_true]
    intro c hm
    have := (hc c hm).1.1.1
    simp only [decide_eq_true_eq]
    omega
  · have := key n
    unfold dayOk at this
    simp only [Bool.and_eq_true] at this
    have hi := this.1.1.1.1
    unfold isIntR at hi
    split at hi
    · rename_i i hr
      rw [of_decide_eq_true hi] at hr
      exact hr
    · cases hi
end K83
end

section
set_option maxRecDepth 100000
set_option maxHeartbeats 2000000
set_option linter.all false
open PySem Mn
namespace K83
theorem pub_len {n : Nat} {ws : List Str} (h : ws.length < 3 ∨ ws.length = 4) : run P (n + 1) "read_publish" [] [.lst (ws.map .str)] = .ok .non [] := by
  rw [run_fin d_read_publish rfl]
  have k : (decide ((ws.length : Int) < 3) || decide ((ws.length : Int) = 4)) = true := by
    rw [Bool.or_eq_true, decide_eq_true_iff, decide_eq_true_iff]
    omega
  simp only [xsL_cons, xsL_nil, xs1, ev, evL, bind_ok, lift_some, out_ok, seq_nx, seq_rt, seq_ite, asB_ok, asI_ok, asL_lst, asL_tup, asIt_lst, asIt_tup, asIt_str, andB_ok, andB_t, andB_f, orB_ok, orB_t, orB_f, iteB_ok, ifO_ok, iteB_t, iteB_f, ifO_t, ifO_f, varD_d, nxO_some, putO_some, put_1, put_2, put_3, strR_str,
  bl_len_l, bl_len_t, c_lt, c_le, c_gt, c_ge, c_is, c_isn, c_eq, c_ne, c_in, c_nin, b_add_i, b_sub_i, isN, Option.map_some, Option.bind_some, fin_ite, fin_rt, fin_nx,
  startD, List.map_cons, List.map_nil, List.length_cons, List.length_nil, List.replicate_succ, List.replicate_zero, Nat.sub_zero, Nat.reduceAdd, Nat.reduceSub, List.replicate, List.cons_append, List.nil_append, List.set_cons_zero, List.set_cons_succ, List.getElem?_cons_succ, List.getElem?_cons_zero, Bool.false_eq_true, if_true, if_false, Bool.not_true, Bool.not_false, L0, L1, L2, L3, L4, L5, L6, L7, L8, L9, L10, L11, L12, L13, L14, L15, L16, L17, L18, L19, L20, L21, L22, L23, L24, L25, G.ir_read_publish, List.length_map, eqI, k]
theorem pub_w3 {n : Nat} {ws : List Str} {x : Str} (h1 : 3 < ws.length) (h4 : ws.length ≠ 4) (hx : ws[3]? = some x) (hok : PyData.strOk x = true) (hne : x ≠ "closed") : run P (n + 1) "read_publish" [] [.lst (ws.map .str)] = .ok .non [] := by
  rw [run_fin d_read_publish rfl]
  have k : (decide ((ws.length : Int) < 3) || decide ((ws.length : Int) = 4)) = false := by
    rw [Bool.or_eq_false_iff, decide_eq_false_iff_not, decide_eq_false_iff_not]
    omega
  have k2 : decide ((3 : Int) < (ws.length : Int)) = true := by rw [decide_eq_true_iff]; omega
  have k3 : ix (.lst (ws.map .str)) (.int 3) = some (.str x) := L2.atI_nat (j := 3) (by rw [List.getElem?_map, hx]; rfl)
  have k4 : eqD (.str x) (.str "closed") = some false := by rw [eqD_str hok (by decide +kernel)]; simp [hne]
  simp only [xsL_cons, xsL_nil, xs1, ev, evL, bind_ok, lift_some, out_ok, seq_nx, seq_rt, seq_ite, asB_ok, asI_ok, asL_lst, asL_tup, asIt_lst, asIt_tup, asIt_str, andB_ok, andB_t, andB_f, orB_ok, orB_t, orB_f, iteB_ok, ifO_ok, iteB_t, iteB_f, ifO_t, ifO_f, varD_d, nxO_some, putO_some, put_1, put_2, put_3, strR_str,
  bl_len_l, bl_len_t, c_lt, c_le, c_gt, c_ge, c_is, c_isn, c_eq, c_ne, c_in, c_nin, b_add_i, b_sub_i, isN, Option.map_some, Option.bind_some, fin_ite, fin_rt, fin_nx,
  startD, List.map_cons, List.map_nil, List.length_cons, List.length_nil, List.replicate_succ, List.replicate_zero, Nat.sub_zero, Nat.reduceAdd, Nat.reduceSub, List.replicate, List.cons_append, List.nil_append, List.set_cons_zero, List.set_cons_succ, List.getElem?_cons_succ, List.getElem?_cons_zero, Bool.false_eq_true, if_true, if_false, Bool.not_true, Bool.not_false, L0, L1, L2, L3, L4, L5, L6, L7, L8, L9, L10, L11, L12, L13, L14, L15, L16, L17, L18, L19, L20, L21, L22, L23, L24, L25, G.ir_read_publish, List.length_map, eqI, k, k2, k3, k4, Bool.and_self, Bool.true_and]
end K83
end

section
set_option maxRecDepth 100000
set_option maxHeartbeats 2000000
set_option linter.all false
open PySem Mn
namespace K83
/-- the closed stretches of a list of words, read -/
theorem lc_rs {n : Nat} {ρ : Slots} {g : D → D} {ws : List D} (h4 : ρ.length = 5) (hl : ws.length ≤ 100) (hg : ∀ x ∈ ws, run P n "read_stretch" [] [x] = .ok (g x) []) :
    lcGo (fun x st => lcTurn (some ((Mn.wipe ρ [4]).set 4 (.d x))) (fun ρ st => .ok (.bl true) st) (fun ρ st => ((varD ρ[4]? st).bind fun x st => Res.ok [x] st).bind fun xs st => (Γ n).call "read_stretch" st xs) st) ws [] [] = .ok (ws.map g) [] := by
  rw [lcGo_all (g := g) (fun x hx => ?_) (by simp only [List.length_nil, Nat.zero_add]; exact Nat.le_trans hl (by decide)), List.nil_append]
  refine lcTurn_t rfl ?_
  have e4 : ((Mn.wipe ρ [4]).set 4 (Sl.d x))[4]? = some (.d x) := by
    show (((ρ).set 4 .un).set 4 (Sl.d x))[4]? = _
    rw [List.set_set, List.getElem?_set_self (by omega)]
  rw [e4]
  exact hg x hx
theorem pub_go {n : Nat} {ws : List Str} {nm s : Str} {vn vd : D} {g : D → D} {r : Bool} (h3 : ws.length ≠ 4 ∧ 3 ≤ ws.length ∧ ws.length ≤ 50) (hc : ws.length = 3 ∨ ws[3]? = some ("closed" : Str)) (h1 : ws[1]? = some nm) (h2 : ws[2]? = some s)
    (hn : run P n "read_part" [] [.str "n", .str nm] = .ok vn []) (hd : run P n "read_day" [] [.str s] = .ok vd []) (hg : ∀ x ∈ (ws.map D.str).drop 4, run P n "read_stretch" [] [x] = .ok (g x) []) (hin : inList .non (((ws.map D.str).drop 4).map g) = some r) :
    run P (n + 1) "read_publish" [] [.lst (ws.map .str)] = if (isN vn || (isN vd || r)) = true then .ok .non [] else .ok (.tup [.str "publish", vn, vd, .tup (((ws.map D.str).drop 4).map g)]) [] := by
  rw [run_fin d_read_publish rfl]
  have k : (decide ((ws.length : Int) < 3) || decide ((ws.length : Int) = 4)) = false := by
    rw [Bool.or_eq_false_iff, decide_eq_false_iff_not, decide_eq_false_iff_not]
    omega
  have a1 : ix (.lst (ws.map .str)) (.int 1) = some (.str nm) := L2.atI_nat (j := 1) (by rw [List.getElem?_map, h1]; rfl)
  have a2 : ix (.lst (ws.map .str)) (.int 2) = some (.str s) := L2.atI_nat (j := 2) (by rw [List.getElem?_map, h2]; rfl)
  have a4 : slc (.lst (ws.map .str)) (some 4) none = some (.lst ((ws.map D.str).drop 4)) := by
    show some (D.lst (cutD (ws.map .str) (some ((4 : Nat) : Int)) none)) = _
    rw [cutD_from]
  have hn' : (Γ n).call "read_part" [] [.str "n", .str nm] = .ok vn [] := hn
  have hd' : (Γ n).call "read_day" [] [.str s] = .ok vd [] := hd
  have hlc := fun ρ (e : ρ.length = 5) => lc_rs (ρ := ρ) (g := g) e (by rw [List.length_drop, List.length_map]; omega) hg
  have hin' : inD .non (.lst (((ws.map D.str).drop 4).map g)) = some r := hin
  have hgd : ∀ A B : Out, True := fun _ _ => trivial
  rcases hc with hc | hc
  · have k2 : decide ((3 : Int) < (ws.length : Int)) = false := by rw [decide_eq_false_iff_not]; omega
    simp only [xsL_cons, xsL_nil, xs1, ev, evL, bind_ok, lift_some, out_ok, seq_nx, seq_rt, seq_ite, asB_ok, asI_ok, asL_lst, asL_tup, asIt_lst, asIt_tup, asIt_str, andB_ok, andB_t, andB_f, orB_ok, orB_t, orB_f, iteB_ok, ifO_ok, iteB_t, iteB_f, ifO_t, ifO_f, varD_d, nxO_some, putO_some, put_1, put_2, put_3, strR_str,
  bl_len_l, bl_len_t, c_lt, c_le, c_gt, c_ge, c_is, c_isn, c_eq, c_ne, c_in, c_nin, b_add_i, b_sub_i, isN, Option.map_some, Option.bind_some, fin_ite, fin_rt, fin_nx,
  startD, List.map_cons, List.map_nil, List.length_cons, List.length_nil, List.replicate_succ, List.replicate_zero, Nat.sub_zero, Nat.reduceAdd, Nat.reduceSub, List.replicate, List.cons_append, List.nil_append, List.set_cons_zero, List.set_cons_succ, List.getElem?_cons_succ, List.getElem?_cons_zero, Bool.false_eq_true, if_true, if_false, Bool.not_true, Bool.not_false, L0, L1, L2, L3, L4, L5, L6, L7, L8, L9, L10, L11, L12, L13, L14, L15, L16, L17, L18, L19, L20, L21, L22, L23, L24, L25, G.ir_read_publish, List.length_map, eqI, k, k2, a1, a2, a4, hn', hd', hlc, hin', bfun]
    rfl
  · have k2 : decide ((3 : Int) < (ws.length : Int)) = true := by
      have := (List.getElem?_eq_some_iff.mp hc).1
      rw [decide_eq_true_iff]; omega
    have k3 : ix (.lst (ws.map .str)) (.int 3) = some (.str "closed") := L2.atI_nat (j := 3) (by rw [List.getElem?_map, hc]; rfl)
    have k4 : eqD (.str "closed") (.str "closed") = some true := by kernel_rfl
    simp only [xsL_cons, xsL_nil, xs1, ev, evL, bind_ok, lift_some, out_ok, seq_nx, seq_rt, seq_ite, asB_ok, asI_ok, asL_lst, asL_tup, asIt_lst, asIt_tup, asIt_str, andB_ok, andB_t, andB_f, orB_ok, orB_t, orB_f, iteB_ok, ifO_ok, iteB_t, iteB_f, ifO_t, ifO_f, varD_d, nxO_some, putO_some, put_1, put_2, put_3, strR_str,
  bl_len_l, bl_len_t, c_lt, c_le, c_gt, c_ge, c_is, c_isn, c_eq, c_ne, c_in, c_nin, b_add_i, b_sub_i, isN, Option.map_some, Option.bind_some, fin_ite, fin_rt, fin_nx,
  startD, List.map_cons, List.map_nil, List.length_cons, List.length_nil, List.replicate_succ, List.replicate_zero, Nat.sub_zero, Nat.reduceAdd, Nat.reduceSub, List.replicate, List.cons_append, List.nil_append, List.set_cons_zero, List.set_cons_succ, List.getElem?_cons_succ, List.getElem?_cons_zero, Bool.false_eq_true, if_true, if_false, Bool.not_true, Bool.not_false, L0, L1, L2, L3, L4, L5, L6, L7, L8, L9, L10, L11, L12, L13, L14, L15, L16, L17, L18, L19, L20, L21, L22, L23, L24, L25, G.ir_read_publish, List.length_map, eqI, k, k2, k3, k4, a1, a2, a4, hn', hd', hlc, hin', bfun, Bool.and_self, Bool.true_and, Bool.and_false]
    rfl
end K83
end

section
set_option maxRecDepth 100000
set_option maxHeartbeats 2000000
set_option linter.all false
open PySem Mn
namespace K83
theorem rcB_pub {n : Nat} {line sep rest : Str} : fin (xsL (Γ n) 1000 rcB (rcR line "publish" sep rest) []) = run P n "read_publish" [] [.lst ((PySem.Txt.split line sp).map .str)] := by
  have k1 : eqD (.str "publish") (.str "publish") = some true := by kernel_rfl
  simp only [xsL_cons, xsL_nil, xs1, ev, evL, bind_ok, lift_some, out_ok, seq_nx, seq_rt, seq_ite, asB_ok, asI_ok, asL_lst, asL_tup, asIt_lst, asIt_tup, asIt_str, andB_ok, andB_t, andB_f, orB_ok, orB_t, orB_f, iteB_ok, ifO_ok, iteB_t, iteB_f, ifO_t, ifO_f, varD_d, nxO_some, putO_some, put_1, put_2, put_3, strR_str,
  bl_len_l, bl_len_t, c_lt, c_le, c_gt, c_ge, c_is, c_isn, c_eq, c_ne, c_in, c_nin, b_add_i, b_sub_i, isN, Option.map_some, Option.bind_some, fin_ite, fin_rt, fin_nx,
  startD, List.map_cons, List.map_nil, List.length_cons, List.length_nil, List.replicate_succ, List.replicate_zero, Nat.sub_zero, Nat.reduceAdd, Nat.reduceSub, List.replicate, List.cons_append, List.nil_append, List.set_cons_zero, List.set_cons_succ, List.getElem?_cons_succ, List.getElem?_cons_zero, Bool.false_eq_true, if_true, if_false, Bool.not_true, Bool.not_false, L0, L1, L2, L3, L4, L5, L6, L7, L8, L9, L10, L11, L12, L13, L14, L15, L16, L17, L18, L19, L20, L21, L22, L23, L24, L25, rcB, rcR, G.ir_read_command, List.drop_succ_cons, List.drop_zero, k1]
  exact fin_ret2
theorem wok_pub (n : Nat) : WOk n "publish" := fun line sep rest => by kernel_rfl
theorem wd_pub : Wd "publish" := ⟨by decide +kernel, by decide +kernel, by decide +kernel⟩
theorem rc_pub {ws : List Str} {d : D} (h : ∀ x ∈ ws, Wd x) (hl : ws.length ≤ 15) (hr : ∀ n, run P (n + 5) "read_publish" [] [.lst ((("publish" : Str) :: ws).map .str)] = .ok d []) : RC (jn ("publish" :: ws)) d := fun n => by
  have hall : ∀ x ∈ ("publish" : Str) :: ws, Wd x := fun x hx => by rcases List.mem_cons.mp hx with rfl | q; exact wd_pub; exact h x q
  have hg := ws_ok hall (by simp; omega)
  obtain ⟨sep, rest, hpt⟩ := jn_part (w := "publish") (ws := ws) wd_pub.fr
  have hne : jn ("publish" :: ws) ≠ "" := ne_of_len (Nat.le_trans (show 1 ≤ ("publish" : Str).length by decide +kernel) (jn_len "publish" ws))
  rw [rc_core hne hg.len hg.ok hpt (wok_pub _ _ _ _), rcB_pub, split_jn (by simp) hg.fr]
  exact hr n
/-- a stretch as a word -/
def cw (p : Int × Int) : Str := ts p.1 ++ dd ++ ts p.2
theorem cw_ok {p : Int × Int} (h1 : p.1 ∈ allDays) (h2 : p.2 ∈ allDays) : Wd (cw p) ∧ ∀ n, run P (n + 3) "read_stretch" [] [.str (cw p)] = .ok (.tup [.int p.1, .int p.2]) [] := by
  obtain ⟨a1, a2, a3, a4, a5⟩ := day_facts h1
  obtain ⟨b1, b2, b3, b4, b5⟩ := day_facts h2
  have dl : dd.length = 2 := by decide +kernel
  have hl : (cw p).length ≤ 18 := by unfold cw; rw [lenA, lenA, dl]; omega
  refine ⟨⟨?_, by omega, okA (okA a1.pw.wd.ok (by decide +kernel)) b1.pw.wd.ok⟩, fun n => rs_ok a2 (by show (cw p).length ≤ 1000; omega) (a1.rd n) (b1.rd n)⟩
  show (32 : Nat) ∉ (ts p.1 ++ dd ++ ts p.2).cps.toList
  rw [tlA, tlA]
  simp only [List.mem_append, not_or]
  exact ⟨⟨a1.pw.wd.fr, by decide +kernel⟩, b1.pw.wd.fr⟩
end K83
end

section
set_option maxRecDepth 100000
set_option maxHeartbeats 2000000
set_option linter.all false
open PySem Mn
namespace K83
def pD (p : Int × Int) : D := .tup [.int p.1, .int p.2]
/-- the words of a publication -/
def pubWs (nm : Str) (d : Int) (cs : List (Int × Int)) : List Str := match cs with
  | [] => [nm, ts d]
  | cs => nm :: ts d :: "closed" :: cs.map cw
theorem inList_pD (cs : List (Int × Int)) : inList .non (cs.map pD) = some false := by
  have h : ∀ l : List (Int × Int), ∃ ys, pyL (l.map pD) = some ys ∧ PyData.canLayAll0 ys = true ∧ PyData.depthAll ys ≤ 1 ∧ (ys.any fun z => PyData.eqv z .none) = false := by
    intro l
    induction l with
    | nil => exact ⟨[], by simp only [List.map_nil, pyL], by simp only [PyData.canLayAll0], by simp only [PyData.depthAll]; omega, rfl⟩
    | cons p l ih =>
      obtain ⟨ys, h1, h2, h3, h4⟩ := ih
      refine ⟨.tuple [.int p.1, .int p.2] :: ys, ?_, ?_, ?_, ?_⟩
      · simp only [List.map_cons, pyL, pD, py, h1, Option.bind_some, Option.map_some]
      · simp only [PyData.canLayAll0, PyData.canLay0, h2, Bool.and_self]
      · simp only [PyData.depthAll, PyData.depth]; omega
      · rw [List.any_cons, h4]; rfl
  obtain ⟨ys, h1, h2, h3, h4⟩ := h cs
  have s1 : SeqAt.shaped (.tuple ys) = true := by
    unfold SeqAt.shaped
    rw [Bool.and_eq_true]
    refine ⟨by simp only [PyData.canLay0, h2], ?_⟩
    rw [decide_eq_true_iff]
    simp only [PyData.depth]
    omega
  have s2 : SeqAt.shaped .none = true := by decide +kernel
  have h1' : py (.tup (cs.map pD)) = some (.tuple ys) := by simp only [py, h1, Option.map_some]
  have h0 : py .non = some .none := by simp only [py]
  unfold inList pyOk
  simp only [h0, h1', Option.bind_some, if_pos s1, if_pos s2, h4]
theorem pub_rc {nm : Str} {d : Int} {cs : List (Int × Int)} (hn : nm ∈ nameW) (hd : d ∈ allDays) (hc : ∀ p ∈ cs, p.1 ∈ allDays ∧ p.2 ∈ allDays) (hl : cs.length ≤ 3) :
    RC (jn ("publish" :: pubWs nm d cs)) (.tup [.str "publish", .str nm, .int d, .tup (cs.map pD)]) ∧ ∀ x ∈ pubWs nm d cs, Wd x := by
  have hw := (nm_wd hn).1
  obtain ⟨a1, a2, a3, a4, a5⟩ := day_facts hd
  have hcl : Wd "closed" := ⟨by decide +kernel, by decide +kernel, by decide +kernel⟩
  have hall : ∀ x ∈ pubWs nm d cs, Wd x := by
    intro x hx
    unfold pubWs at hx
    split at hx
    · simp only [List.mem_cons, List.not_mem_nil, or_false] at hx
      rcases hx with rfl | rfl
      · exact hw
      · exact a1.pw.wd
    · simp only [List.mem_cons] at hx
      rcases hx with rfl | rfl | rfl | q
      · exact hw
      · exact a1.pw.wd
      · exact hcl
      · obtain ⟨p, hp, rfl⟩ := List.mem_map.mp q
        exact (cw_ok (hc p hp).1 (hc p hp).2).1
  refine ⟨rc_pub hall ?_ fun n => ?_, hall⟩
  · unfold pubWs
    split
    · simp
    · simp; omega
  · have hrd : run P (n + 4) "read_day" [] [.str (ts d)] = .ok (.int d) [] := a1.rd (n + 2)
    have hpn : run P (n + 4) "read_part" [] [.str "n", .str nm] = .ok (.str nm) [] := part_n ((name_all nm hn (n + 2)).1)
    let g : D → D := fun x => match run P 3 "read_stretch" [] [x] with
      | .ok d _ => d
      | _ => .non
    have hg1 : ∀ p ∈ cs, g (.str (cw p)) = pD p := fun p hp => by
      have := (cw_ok (hc p hp).1 (hc p hp).2).2 0
      show (match run P 3 "read_stretch" [] [.str (cw p)] with | .ok d _ => d | _ => .non) = _
      rw [show run P 3 "read_stretch" [] [.str (cw p)] = .ok (.tup [.int p.1, .int p.2]) [] from this]
      rfl
    cases cs with
    | nil =>
      have := pub_go (n := n + 4) (ws := ["publish", nm, ts d]) (g := g) (r := false) (by simp) (.inl rfl) rfl rfl hpn hrd (by simp) (by kernel_rfl)
      exact this
    | cons p r =>
      have hdrop : (((["publish", nm, ts d, "closed"] : List Str) ++ (p :: r).map cw).map D.str).drop 4 = (p :: r).map (fun p => D.str (cw p)) := by simp [Function.comp_def]
      have hgm : ((((["publish", nm, ts d, "closed"] : List Str) ++ (p :: r).map cw).map D.str).drop 4).map g = (p :: r).map pD := by
        rw [hdrop, List.map_map]
        exact List.map_congr_left fun q hq => hg1 q hq
      have := pub_go (n := n + 4) (ws := (["publish", nm, ts d, "closed"] : List Str) ++ (p :: r).map cw) (g := g) (r := false) (by simp at hl ⊢; omega) (.inr rfl) rfl rfl hpn hrd (fun x hx => by
        rw [hdrop] at hx
        obtain ⟨q, hq, rfl⟩ := List.mem_map.mp hx
        rw [hg1 q hq]
        exact (cw_ok (hc q hq).1 (hc q hq).2).2 (n + 1)) (by rw [hgm]; exact inList_pD _)
      rw [hgm] at this
      exact this
end K83
end

section
set_option maxRecDepth 100000
set_option maxHeartbeats 2000000
set_option linter.all false
open PySem Mn
namespace K83
theorem at_ok {n : Nat} {row : List Int} (hr : ∀ x ∈ row, 0 ≤ x ∧ x < 1009) (k : Nat) : ∃ v : Int, run P (n + 1) "_law_at" [] [.lst (row.map .int), .int (k : Int)] = .ok (.int v) [] ∧ 0 ≤ v ∧ v < 1009 := by
  by_cases h : k < row.length
  · refine ⟨row[k], ?_, hr _ (List.getElem_mem h)⟩
    rw [run_fin d_law_at rfl]
    have k1 : decide ((0 : Int) ≤ (k : Int)) = true := by rw [decide_eq_true_iff]; omega
    have k2 : decide ((k : Int) < (row.length : Int)) = true := by rw [decide_eq_true_iff]; omega
    have k3 : ix (.lst (row.map .int)) (.int (k : Int)) = some (.int row[k]) := L2.atI_nat (by rw [List.getElem?_map, List.getElem?_eq_getElem h]; rfl)
    simp only [xsL_cons, xsL_nil, xs1, ev, evL, bind_ok, lift_some, out_ok, seq_nx, seq_rt, seq_ite, asB_ok, asI_ok, asL_lst, asL_tup, asIt_lst, asIt_tup, asIt_str, andB_ok, andB_t, andB_f, orB_ok, orB_t, orB_f, iteB_ok, ifO_ok, iteB_t, iteB_f, ifO_t, ifO_f, varD_d, nxO_some, putO_some, put_1, put_2, put_3, strR_str,
  bl_len_l, bl_len_t, c_lt, c_le, c_gt, c_ge, c_is, c_isn, c_eq, c_ne, c_in, c_nin, b_add_i, b_sub_i, isN, Option.map_some, Option.bind_some, fin_ite, fin_rt, fin_nx,
  startD, List.map_cons, List.map_nil, List.length_cons, List.length_nil, List.replicate_succ, List.replicate_zero, Nat.sub_zero, Nat.reduceAdd, Nat.reduceSub, List.replicate, List.cons_append, List.nil_append, List.set_cons_zero, List.set_cons_succ, List.getElem?_cons_succ, List.getElem?_cons_zero, Bool.false_eq_true, if_true, if_false, Bool.not_true, Bool.not_false, L0, L1, L2, L3, L4, L5, L6, L7, L8, L9, L10, L11, L12, L13, L14, L15, L16, L17, L18, L19, L20, L21, L22, L23, L24, L25, G.ir__law_at, List.length_map, k1, k2, k3]
  · refine ⟨0, ?_, by decide⟩
    rw [run_fin d_law_at rfl]
    have k1 : decide ((0 : Int) ≤ (k : Int)) = true := by rw [decide_eq_true_iff]; omega
    have k2 : decide ((k : Int) < (row.length : Int)) = false := by rw [decide_eq_false_iff_not]; omega
    simp only [xsL_cons, xsL_nil, xs1, ev, evL, bind_ok, lift_some, out_ok, seq_nx, seq_rt, seq_ite, asB_ok, asI_ok, asL_lst, asL_tup, asIt_lst, asIt_tup, asIt_str, andB_ok, andB_t, andB_f, orB_ok, orB_t, orB_f, iteB_ok, ifO_ok, iteB_t, iteB_f, ifO_t, ifO_f, varD_d, nxO_some, putO_some, put_1, put_2, put_3, strR_str,
  bl_len_l, bl_len_t, c_lt, c_le, c_gt, c_ge, c_is, c_isn, c_eq, c_ne, c_in, c_nin, b_add_i, b_sub_i, isN, Option.map_some, Option.bind_some, fin_ite, fin_rt, fin_nx,
  startD, List.map_cons, List.map_nil, List.length_cons, List.length_nil, List.replicate_succ, List.replicate_zero, Nat.sub_zero, Nat.reduceAdd, Nat.reduceSub, List.replicate, List.cons_append, List.nil_append, List.set_cons_zero, List.set_cons_succ, List.getElem?_cons_succ, List.getElem?_cons_zero, Bool.false_eq_true, if_true, if_false, Bool.not_true, Bool.not_false, L0, L1, L2, L3, L4, L5, L6, L7, L8, L9, L10, L11, L12, L13, L14, L15, L16, L17, L18, L19, L20, L21, L22, L23, L24, L25, G.ir__law_at, List.length_map, k1, k2]
end K83
end

section
set_option maxRecDepth 100000
set_option maxHeartbeats 4000000
set_option linter.all false
open PySem Mn
namespace K83
theorem loopGo_ix {body : D → Slots → Store → Out} {st : Store} {I : Nat → Slots → Prop} (N : Nat) : ∀ {xs : List D} {i : Nat} {ρ : Slots}, i + xs.length ≤ N → (∀ x ∈ xs, ∀ i ρ, i < N → I i ρ → ∃ ρ', body x ρ st = .nx ρ' st ∧ I (i + 1) ρ') → I i ρ → ∃ ρ', loopGo body xs ρ st = .nx ρ' st ∧ I (i + xs.length) ρ'
  | [], i, ρ, _, _, h => ⟨ρ, rfl, h⟩
  | x :: xs, i, ρ, hN, hb, h => by
    simp only [List.length_cons] at hN
    obtain ⟨ρ1, e1, i1⟩ := hb x List.mem_cons_self i ρ (by omega) h
    obtain ⟨ρ2, e2, i2⟩ := loopGo_ix N (by omega) (fun y hy => hb y (List.mem_cons_of_mem _ hy)) i1
    refine ⟨ρ2, ?_, by rw [List.length_cons]; rw [show i + (xs.length + 1) = i + 1 + xs.length by omega]; exact i2⟩
    show (match body x ρ st with | .nx ρ st => loopGo body xs ρ st | .ct ρ st => loopGo body xs ρ st | .bk ρ st => .nx ρ st | o => o) = _
    rw [e1]
    exact e2
def GoodR (row : List Int) : Prop := ∀ x ∈ row, 0 ≤ x ∧ x < 1009
theorem good_snoc {row : List Int} {v : Int} (h : GoodR row) (h1 : 0 ≤ v) (h2 : v < 1009) : GoodR (row ++ [v]) := fun x hx => by
  rcases List.mem_append.mp hx with q | q
  · exact h x q
  · rw [List.mem_singleton.mp q]; exact ⟨h1, h2⟩
/-- the inner loop of large cells -/
def IA (s0 s2 s5 : Sl) (L : Nat) (i : Nat) (ρ : Slots) : Prop := ∃ (row : List Int) (c : Int) (s4 : Sl), ρ = [s0, .ml (row.map .int), s2, .d (.int c), s4, s5] ∧ GoodR row ∧ 0 ≤ c ∧ row.length ≤ L + i
/-- the inner loop of small cells -/
def IB (s0 s2 s3 : Sl) (L : Nat) (i : Nat) (ρ : Slots) : Prop := ∃ (row : List Int) (m : Int) (s4 : Sl), ρ = [s0, .ml (row.map .int), s2, s3, s4, .d (.int m)] ∧ GoodR row ∧ 0 ≤ m ∧ m < 2147483647 ∧ row.length ≤ L + i
def rowBody : List S := match G.ir__law_row.body[1]! with
  | .loop _ _ b => b
  | _ => []
def bodyA : List S := match rowBody[1]! with
  | .ite _ [.loop _ _ b] _ => b
  | _ => []
def bodyB : List S := match rowBody[1]! with
  | .ite _ _ [_, .loop _ _ b] => b
  | _ => []
theorem stepA {n i L : Nat} {s0 s2 s5 : Sl} {ρ : Slots} {x : D} (hL : L + i ≤ 100000) (h : IA s0 s2 s5 L i ρ) : ∃ ρ', putO (put [4] x ρ) (fun ρ st => xsL (Γ n) 1000 bodyA ρ st) [] = .nx ρ' [] ∧ IA s0 s2 s5 L (i + 1) ρ' := by
  obtain ⟨row, c, s4, rfl, hg, hc, hl⟩ := h
  have hlim : (row.map D.int).length < LIM := by rw [List.length_map]; exact Nat.lt_of_le_of_lt (Nat.le_trans hl hL) (by decide)
  have m1 : bin .Mod (.int c) (.int 1009) = some (.int (c.fmod 1009)) := by simp [bin]
  have d1 : bin .FloorDiv (.int c) (.int 1009) = some (.int (c.fdiv 1009)) := by simp [bin]
  by_cases hp : 0 < c
  · have k : decide ((0 : Int) < c) = true := by rw [decide_eq_true_iff]; exact hp
    have hm : (row.map D.int) ++ [D.int (c.fmod 1009)] = (row ++ [c.fmod 1009]).map D.int := by simp
    refine ⟨[s0, .ml ((row ++ [c.fmod 1009]).map .int), s2, .d (.int (c.fdiv 1009)), .d x, s5], ?_, _, _, _, rfl, good_snoc hg (Int.fmod_nonneg_of_pos _ (by decide)) (Int.fmod_lt_of_pos _ (by decide)), Int.fdiv_nonneg hc (by decide), by simp; omega⟩
    simp only [xsL_cons, xsL_nil, xs1, ev, evL, bind_ok, lift_some, out_ok, seq_nx, seq_rt, seq_ite, asB_ok, asI_ok, asL_lst, asL_tup, asIt_lst, asIt_tup, asIt_str, andB_ok, andB_t, andB_f, orB_ok, orB_t, orB_f, iteB_ok, ifO_ok, iteB_t, iteB_f, ifO_t, ifO_f, varD_d, nxO_some, putO_some, put_1, put_2, put_3, strR_str,
  bl_len_l, bl_len_t, c_lt, c_le, c_gt, c_ge, c_is, c_isn, c_eq, c_ne, c_in, c_nin, b_add_i, b_sub_i, isN, Option.map_some, Option.bind_some, fin_ite, fin_rt, fin_nx,
  startD, List.map_cons, List.map_nil, List.length_cons, List.length_nil, List.replicate_succ, List.replicate_zero, Nat.sub_zero, Nat.reduceAdd, Nat.reduceSub, List.replicate, List.cons_append, List.nil_append, List.set_cons_zero, List.set_cons_succ, List.getElem?_cons_succ, List.getElem?_cons_zero, Bool.false_eq_true, if_true, if_false, Bool.not_true, Bool.not_false, L0, L1, L2, L3, L4, L5, L6, L7, L8, L9, L10, L11, L12, L13, L14, L15, L16, L17, L18, L19, L20, L21, L22, L23, L24, L25, bodyA, rowBody, G.ir__law_row, List.getElem!_cons_succ, List.getElem!_cons_zero, k, bfun, m1, d1, if_pos hlim, hm]
  · have k : decide ((0 : Int) < c) = false := by rw [decide_eq_false_iff_not]; exact hp
    refine ⟨[s0, .ml (row.map .int), s2, .d (.int c), .d x, s5], ?_, row, c, _, rfl, hg, hc, by omega⟩
    simp only [xsL_cons, xsL_nil, xs1, ev, evL, bind_ok, lift_some, out_ok, seq_nx, seq_rt, seq_ite, asB_ok, asI_ok, asL_lst, asL_tup, asIt_lst, asIt_tup, asIt_str, andB_ok, andB_t, andB_f, orB_ok, orB_t, orB_f, iteB_ok, ifO_ok, iteB_t, iteB_f, ifO_t, ifO_f, varD_d, nxO_some, putO_some, put_1, put_2, put_3, strR_str,
  bl_len_l, bl_len_t, c_lt, c_le, c_gt, c_ge, c_is, c_isn, c_eq, c_ne, c_in, c_nin, b_add_i, b_sub_i, isN, Option.map_some, Option.bind_some, fin_ite, fin_rt, fin_nx,
  startD, List.map_cons, List.map_nil, List.length_cons, List.length_nil, List.replicate_succ, List.replicate_zero, Nat.sub_zero, Nat.reduceAdd, Nat.reduceSub, List.replicate, List.cons_append, List.nil_append, List.set_cons_zero, List.set_cons_succ, List.getElem?_cons_succ, List.getElem?_cons_zero, Bool.false_eq_true, if_true, if_false, Bool.not_true, Bool.not_false, L0, L1, L2, L3, L4, L5, L6, L7, L8, L9, L10, L11, L12, L13, L14, L15, L16, L17, L18, L19, L20, L21, L22, L23, L24, L25, bodyA, rowBody, G.ir__law_row, List.getElem!_cons_succ, List.getElem!_cons_zero, k]
theorem stepB {n i L : Nat} {s0 s2 s3 : Sl} {ρ : Slots} {t : Int} (hL : L + i ≤ 100000) (ht : 0 ≤ t ∧ t ≤ 40) (h : IB s0 s2 s3 L i ρ) : ∃ ρ', putO (put [4] (.int t) ρ) (fun ρ st => xsL (Γ n) 1000 bodyB ρ st) [] = .nx ρ' [] ∧ IB s0 s2 s3 L (i + 1) ρ' := by
  obtain ⟨row, m, s4, rfl, hg, hm0, hm1, hl⟩ := h
  have hlim : (row.map D.int).length < LIM := by rw [List.length_map]; exact Nat.lt_of_le_of_lt (Nat.le_trans hl hL) (by decide)
  have u1 : bin .Mult (.int m) (.int 16807) = some (.int (m * 16807)) := by simp [bin]
  have u2 : bin .Mult (.int 11) (.int t) = some (.int (11 * t)) := by simp [bin]
  have u3 : ∀ c : Int, bin .Mod (.int c) (.int 2147483647) = some (.int (c.fmod 2147483647)) := fun c => by simp [bin]
  have u4 : ∀ c : Int, bin .FloorDiv (.int c) (.int 7) = some (.int (c.fdiv 7)) := fun c => by simp [bin]
  have u5 : ∀ c : Int, bin .Mod (.int c) (.int 1009) = some (.int (c.fmod 1009)) := fun c => by simp [bin]
  let m2 : Int := (m * 16807 + 11 * t + 1).fmod 2147483647
  have hm : (row.map D.int) ++ [D.int ((m2.fdiv 7).fmod 1009)] = (row ++ [(m2.fdiv 7).fmod 1009]).map D.int := by simp
  refine ⟨[s0, .ml ((row ++ [(m2.fdiv 7).fmod 1009]).map .int), s2, s3, .d (.int t), .d (.int m2)], ?_, _, _, _, rfl, good_snoc hg (Int.fmod_nonneg_of_pos _ (by decide)) (Int.fmod_lt_of_pos _ (by decide)), Int.fmod_nonneg_of_pos _ (by decide), Int.fmod_lt_of_pos _ (by decide), by simp; omega⟩
  rw [← hm]
  simp only [xsL_cons, xsL_nil, xs1, ev, evL, bind_ok, lift_some, out_ok, seq_nx, seq_rt, seq_ite, asB_ok, asI_ok, asL_lst, asL_tup, asIt_lst, asIt_tup, asIt_str, andB_ok, andB_t, andB_f, orB_ok, orB_t, orB_f, iteB_ok, ifO_ok, iteB_t, iteB_f, ifO_t, ifO_f, varD_d, nxO_some, putO_some, put_1, put_2, put_3, strR_str,
  bl_len_l, bl_len_t, c_lt, c_le, c_gt, c_ge, c_is, c_isn, c_eq, c_ne, c_in, c_nin, b_add_i, b_sub_i, isN, Option.map_some, Option.bind_some, fin_ite, fin_rt, fin_nx,
  startD, List.map_cons, List.map_nil, List.length_cons, List.length_nil, List.replicate_succ, List.replicate_zero, Nat.sub_zero, Nat.reduceAdd, Nat.reduceSub, List.replicate, List.cons_append, List.nil_append, List.set_cons_zero, List.set_cons_succ, List.getElem?_cons_succ, List.getElem?_cons_zero, Bool.false_eq_true, if_true, if_false, Bool.not_true, Bool.not_false, L0, L1, L2, L3, L4, L5, L6, L7, L8, L9, L10, L11, L12, L13, L14, L15, L16, L17, L18, L19, L20, L21, L22, L23, L24, L25, bodyB, rowBody, G.ir__law_row, List.getElem!_cons_succ, List.getElem!_cons_zero, bfun, u1, u2, u3, u4, u5, if_pos hlim, m2]
end K83
end

section
set_option maxRecDepth 100000
set_option maxHeartbeats 4000000
set_option linter.all false
open PySem Mn
namespace K83
/-- the outer loop -/
def IO (ns : List Int) (i : Nat) (ρ : Slots) : Prop := ∃ (row : List Int) (s2 s3 s4 s5 : Sl), ρ = [.d (.lst (ns.map .int)), .ml (row.map .int), s2, s3, s4, s5] ∧ GoodR row ∧ row.length ≤ 40 * i
theorem stepO {n : Nat} {ns : List Int} {ρ : Slots} {i k : Nat} (hk : k < ns.length) (hi : i < 63) (h : IO ns i ρ) : ∃ ρ', putO (put [2] (.int (0 + (k : Int))) ρ) (fun ρ st => xsL (Γ n) 1000 rowBody ρ st) [] = .nx ρ' [] ∧ IO ns (i + 1) ρ' := by
  obtain ⟨row, s2, s3, s4, s5, rfl, hg, hl⟩ := h
  rw [Int.zero_add]
  have k3 : ix (.lst (ns.map .int)) (.int (k : Int)) = some (.int ns[k]) := L2.atI_nat (by rw [List.getElem?_map, List.getElem?_eq_getElem hk]; rfl)
  obtain ⟨c, hcd⟩ : ∃ c : Int, c = if ns[k] < 0 then -ns[k] else ns[k] := ⟨_, rfl⟩
  have hc : 0 ≤ c := by rw [hcd]; split <;> omega
  have p18 : bin .Pow (.int 10) (.int 18) = some (.int 1000000000000000000) := by kernel_rfl
  have b1 : bfun .int [.int ns[k]] = some (.int ns[k]) := rfl
  have b2 : bfun .abs [.int ns[k]] = some (.int c) := by rw [hcd]; rfl
  by_cases hbig : (1000000000000000000 : Int) ≤ c
  · have kb : decide ((1000000000000000000 : Int) ≤ c) = true := by rw [decide_eq_true_iff]; exact hbig
    obtain ⟨ρ', e, row', c', t4, e', hg', _, hl'⟩ := loopGo_ix (I := IA (.d (.lst (ns.map .int))) (.d (.int (k : Int))) s5 (40 * i)) (body := fun x ρ st => putO (put [4] x ρ) (fun ρ st => xsL (Γ n) 1000 bodyA ρ st) st) (st := []) 40 (xs := (List.range 40).map fun (i : Nat) => D.int (0 + (i : Int))) (i := 0) (ρ := [.d (.lst (ns.map .int)), .ml (row.map .int), .d (.int (k : Int)), .d (.int c), s4, s5]) (by simp) (fun x hx j ρ hj hρ => stepA (n := n) (x := x) (by omega) hρ) ⟨row, c, s4, rfl, hg, hc, by omega⟩
    refine ⟨ρ', ?_, row', _, _, _, _, e', hg', by simp at hl'; omega⟩
    rw [← e]
    have hr : rngOk 40 = true := by decide
    simp only [xsL_cons, xsL_nil, xs1, ev, evL, bind_ok, lift_some, out_ok, seq_nx, seq_rt, seq_ite, asB_ok, asI_ok, asL_lst, asL_tup, asIt_lst, asIt_tup, asIt_str, andB_ok, andB_t, andB_f, orB_ok, orB_t, orB_f, iteB_ok, ifO_ok, iteB_t, iteB_f, ifO_t, ifO_f, varD_d, nxO_some, putO_some, put_1, put_2, put_3, strR_str,
  bl_len_l, bl_len_t, c_lt, c_le, c_gt, c_ge, c_is, c_isn, c_eq, c_ne, c_in, c_nin, b_add_i, b_sub_i, isN, Option.map_some, Option.bind_some, fin_ite, fin_rt, fin_nx,
  startD, List.map_cons, List.map_nil, List.length_cons, List.length_nil, List.replicate_succ, List.replicate_zero, Nat.sub_zero, Nat.reduceAdd, Nat.reduceSub, List.replicate, List.cons_append, List.nil_append, List.set_cons_zero, List.set_cons_succ, List.getElem?_cons_succ, List.getElem?_cons_zero, Bool.false_eq_true, if_true, if_false, Bool.not_true, Bool.not_false, L0, L1, L2, L3, L4, L5, L6, L7, L8, L9, L10, L11, L12, L13, L14, L15, L16, L17, L18, L19, L20, L21, L22, L23, L24, L25, rowBody, bodyA, G.ir__law_row, List.getElem!_cons_succ, List.getElem!_cons_zero, k3, b1, b2, p18, kb, hr, seq_id]
    rfl
  · have kb : decide ((1000000000000000000 : Int) ≤ c) = false := by rw [decide_eq_false_iff_not]; exact hbig
    have u1 : bin .Mult (.int c) (.int 48271) = some (.int (c * 48271)) := by simp [bin]
    have u2 : bin .Mult (.int (k : Int)) (.int 69621) = some (.int ((k : Int) * 69621)) := by simp [bin]
    have u3 : ∀ c : Int, bin .Mod (.int c) (.int 2147483647) = some (.int (c.fmod 2147483647)) := fun c => by simp [bin]
    have b3 : ∀ z : Int, bfun .int [.int z] = some (.int z) := fun _ => rfl
    obtain ⟨m, hm⟩ : ∃ m : Int, m = (c * 48271 + (k : Int) * 69621 + 12345).fmod 2147483647 := ⟨_, rfl⟩
    have hm0 : 0 ≤ m := by rw [hm]; exact Int.fmod_nonneg_of_pos _ (by decide)
    have hm1 : m < 2147483647 := by rw [hm]; exact Int.fmod_lt_of_pos _ (by decide)
    obtain ⟨ρ', e, row', c', t4, e', hg', _, _, hl'⟩ := loopGo_ix (I := IB (.d (.lst (ns.map .int))) (.d (.int (k : Int))) (.d (.int c)) (40 * i)) (body := fun x ρ st => putO (put [4] x ρ) (fun ρ st => xsL (Γ n) 1000 bodyB ρ st) st) (st := []) 6 (xs := (List.range 6).map fun (i : Nat) => D.int (0 + (i : Int))) (i := 0) (ρ := [.d (.lst (ns.map .int)), .ml (row.map .int), .d (.int (k : Int)), .d (.int c), s4, .d (.int m)]) (by simp) (fun x hx j ρ hj hρ => by
      obtain ⟨t, ht, rfl⟩ := List.mem_map.mp hx
      have ht := List.mem_range.mp ht
      exact stepB (n := n) (by omega) (by omega) hρ) ⟨row, m, s4, rfl, hg, hm0, hm1, by omega⟩
    refine ⟨ρ', ?_, row', _, _, _, _, e', hg', by simp at hl'; omega⟩
    rw [← e]
    have hr : rngOk 6 = true := by decide
    simp only [xsL_cons, xsL_nil, xs1, ev, evL, bind_ok, lift_some, out_ok, seq_nx, seq_rt, seq_ite, asB_ok, asI_ok, asL_lst, asL_tup, asIt_lst, asIt_tup, asIt_str, andB_ok, andB_t, andB_f, orB_ok, orB_t, orB_f, iteB_ok, ifO_ok, iteB_t, iteB_f, ifO_t, ifO_f, varD_d, nxO_some, putO_some, put_1, put_2, put_3, strR_str,
  bl_len_l, bl_len_t, c_lt, c_le, c_gt, c_ge, c_is, c_isn, c_eq, c_ne, c_in, c_nin, b_add_i, b_sub_i, isN, Option.map_some, Option.bind_some, fin_ite, fin_rt, fin_nx,
  startD, List.map_cons, List.map_nil, List.length_cons, List.length_nil, List.replicate_succ, List.replicate_zero, Nat.sub_zero, Nat.reduceAdd, Nat.reduceSub, List.replicate, List.cons_append, List.nil_append, List.set_cons_zero, List.set_cons_succ, List.getElem?_cons_succ, List.getElem?_cons_zero, Bool.false_eq_true, if_true, if_false, Bool.not_true, Bool.not_false, L0, L1, L2, L3, L4, L5, L6, L7, L8, L9, L10, L11, L12, L13, L14, L15, L16, L17, L18, L19, L20, L21, L22, L23, L24, L25, rowBody, bodyB, G.ir__law_row, List.getElem!_cons_succ, List.getElem!_cons_zero, k3, b2, b3, p18, kb, u1, u2, u3, ← hm, hr, seq_id]
    rfl
end K83
end

section
set_option maxRecDepth 100000
set_option maxHeartbeats 4000000
set_option linter.all false
open PySem Mn
namespace K83
theorem row_b : G.ir__law_row.body = [G.ir__law_row.body[0]!, G.ir__law_row.body[1]!, S.frz [1] (.ret (.var 1))] := by kernel_rfl
theorem row_b1 : G.ir__law_row.body[1]! = .loop [2] (.rng1 (.blt .len [.var 0])) rowBody := by kernel_rfl
theorem row_loop {n : Nat} {ns : List Int} (hns : ns.length ≤ 63) : ∃ ρ', loopGo (fun x ρ st => putO (put [2] x ρ) (fun ρ st => xsL (Γ n) 1000 rowBody ρ st) st) ((List.range ns.length).map fun (i : Nat) => D.int (0 + (i : Int))) [.d (.lst (ns.map .int)), .ml (([] : List Int).map .int), .un, .un, .un, .un] [] = .nx ρ' [] ∧ IO ns ns.length ρ' := by
  obtain ⟨ρ', e, h⟩ := loopGo_ix (I := IO ns) (body := fun x ρ st => putO (put [2] x ρ) (fun ρ st => xsL (Γ n) 1000 rowBody ρ st) st) (st := []) 63 (xs := (List.range ns.length).map fun (i : Nat) => D.int (0 + (i : Int))) (i := 0) (ρ := [.d (.lst (ns.map .int)), .ml (([] : List Int).map .int), .un, .un, .un, .un]) (by rw [List.length_map, List.length_range]; omega) (fun x hx j ρ hj hρ => by
    obtain ⟨t, ht, rfl⟩ := List.mem_map.mp hx
    exact stepO (n := n) (List.mem_range.mp ht) hj hρ) ⟨[], .un, .un, .un, .un, rfl, fun x hx => (nomatch hx), Nat.zero_le _⟩
  rw [List.length_map, List.length_range, Nat.zero_add] at h
  exact ⟨ρ', e, h⟩
theorem row_h0 {n : Nat} {ns : List Int} : xs1 (Γ n) 1000 (G.ir__law_row.body[0]!) [.d (.lst (ns.map .int)), .un, .un, .un, .un, .un] [] = .nx [.d (.lst (ns.map .int)), .ml (([] : List Int).map .int), .un, .un, .un, .un] [] := rfl
theorem rng63 {k : Nat} (h : k ≤ 63) : rngOk (k : Int) = true := by
  have h1 : ∀ j : Fin 64, rngOk ((j.val : Nat) : Int) = true := by decide +kernel
  exact h1 ⟨k, by omega⟩
def rngR (c : Bool) (i : Int) (st : Store) : Res D := if c = true then .ok (.lst ((List.range i.toNat).map fun (k : Nat) => .int (0 + (k : Int)))) st else .bad
theorem ev_rngI {Γ' : Mn.Ctx} {a : E} {ρ : Slots} {i : Int} (h : ev Γ' a ρ [] = .ok (.int i) []) : ev Γ' (.rng1 a) ρ [] = rngR (rngOk i) i [] := by
  simp only [ev]
  rw [h]
  rfl
theorem ev_rngl {Γ' : Mn.Ctx} {xs : List D} {s : Slots} (h : rngOk (xs.length : Int) = true) : ev Γ' (.rng1 (.blt .len [.var 0])) (.d (.lst xs) :: s) [] = .ok (.lst ((List.range xs.length).map fun (i : Nat) => D.int (0 + (i : Int)))) [] := by
  rw [ev_rngI (i := (xs.length : Int)) (by simp only [ev, evL, List.getElem?_cons_zero, varD_d, bind_ok, bl_len_l, lift_some]), h]
  unfold rngR
  rw [if_pos rfl, Int.toNat_natCast]
theorem xs1_loop {Γ' : Mn.Ctx} {wf : Nat} {tg : List Nat} {it : E} {b : List S} {ρ : Slots} {st : Store} : xs1 Γ' wf (.loop tg it b) ρ st = (asIt (ev Γ' it ρ st)).out ρ fun xs st => loopGo (fun x ρ st => putO (put tg x ρ) (fun ρ st => xsL Γ' wf b ρ st) st) xs ρ st := by simp only [xs1]
theorem row_h1 {n : Nat} {xs : List D} (hns : xs.length ≤ 63) {s : Slots} {b : List S} : xs1 (Γ n) 1000 (.loop [2] (.rng1 (.blt .len [.var 0])) b) (.d (.lst xs) :: s) [] = loopGo (fun x ρ st => putO (put [2] x ρ) (fun ρ st => xsL (Γ n) 1000 b ρ st) st) ((List.range xs.length).map fun (i : Nat) => D.int (0 + (i : Int))) (.d (.lst xs) :: s) [] := by
  rw [xs1_loop, ev_rngl (rng63 hns), asIt_lst, out_ok]
theorem row_ok {n : Nat} {ns : List Int} (hns : ns.length ≤ 63) : ∃ row : List Int, run P (n + 1) "_law_row" [] [.lst (ns.map .int)] = .ok (.lst (row.map .int)) [] ∧ GoodR row := by
  obtain ⟨ρ', e, row', s2, s3, s4, s5, e', hg', _⟩ := row_loop (n := n) hns
  refine ⟨row', ?_, hg'⟩
  rw [run_fin d_law_row rfl, row_b, row_b1]
  simp only [xsL_cons, xsL_nil]
  have hs : startD G.ir__law_row.nn [.lst (ns.map .int)] = [.d (.lst (ns.map .int)), .un, .un, .un, .un, .un] := rfl
  rw [hs, row_h0, seq_nx, row_h1 (by rw [List.length_map]; exact hns), List.length_map, e, seq_nx, e']
  rfl
end K83
end

section
set_option maxRecDepth 100000
set_option maxHeartbeats 4000000
set_option linter.all false
open PySem Mn
namespace K83
theorem up_pub : Up "publish" "PUBLISH" := by exact ⟨by decide +kernel, by decide +kernel, by decide +kernel, ⟨by decide +kernel, by decide +kernel, by decide +kernel⟩, ⟨by decide +kernel, by decide +kernel, by decide +kernel⟩, ⟨by decide +kernel, by decide +kernel, by decide +kernel⟩, by decide +kernel, by decide +kernel, by decide +kernel, by decide +kernel⟩
/-- lines of a publication that are not read -/
theorem pubA_bad : ∀ s ∈ pubA.map (("publish a 5 " : Str) ++ ·) ++ pubB, RC s .non := by
  intro s hs n
  simp only [pubA, pubB, List.map_cons, List.map_nil, List.cons_append, List.nil_append, List.mem_cons, List.not_mem_nil, or_false] at hs
  rcases hs with rfl | rfl | rfl | rfl | rfl | rfl | rfl | rfl | rfl | rfl | rfl | rfl <;> kernel_rfl
/-- no day is the word closed -/
theorem ts_ncl {d : Int} (h : d ∈ allDays) : ts d ≠ ("closed" : Str) := fun e => by
  have := (day_facts h).2.2.1
  rw [e] at this
  exact this (by decide +kernel)
/-- words with one too many before the day -/
theorem pub_sh {n : Nat} {d : Int} (hd : d ∈ allDays) {nm : Str} {r : List Str} : run P (n + 1) "read_publish" [] [.lst ((("publish" : Str) :: "" :: nm :: ts d :: r).map .str)] = .ok .non [] := by
  cases r with
  | nil => exact pub_len (.inr rfl)
  | cons x r => exact pub_w3 (x := ts d) (by simp) (by simp) rfl (day_facts hd).1.pw.wd.ok (ts_ncl hd)
/-- a stretch that is none -/
theorem rs_bad {n : Nat} {x : Str} (hx : x ∈ (["", "x"] : List Str)) : run P (n + 3) "read_stretch" [] [.str x] = .ok .non [] := by
  simp only [List.mem_cons, List.not_mem_nil, or_false] at hx
  rcases hx with rfl | rfl <;> kernel_rfl
theorem inList_app {cs : List (Int × Int)} : inList .non (cs.map pD ++ [.non]) = some true := by
  have h : ∀ l : List (Int × Int), ∃ ys, pyL (l.map pD ++ [.non]) = some ys ∧ PyData.canLayAll0 ys = true ∧ PyData.depthAll ys ≤ 1 ∧ (ys.any fun z => PyData.eqv z .none) = true := by
    intro l
    induction l with
    | nil => exact ⟨[.none], by simp only [List.map_nil, List.nil_append, pyL, py, Option.bind_some, Option.map_some], by simp only [PyData.canLayAll0, PyData.canLay0, Bool.and_self], by simp only [PyData.depthAll, PyData.depth]; omega, rfl⟩
    | cons p l ih =>
      obtain ⟨ys, h1, h2, h3, h4⟩ := ih
      refine ⟨.tuple [.int p.1, .int p.2] :: ys, ?_, ?_, ?_, ?_⟩
      · simp only [List.map_cons, List.cons_append, pyL, pD, py, h1, Option.bind_some, Option.map_some]
      · simp only [PyData.canLayAll0, PyData.canLay0, h2, Bool.and_self]
      · simp only [PyData.depthAll, PyData.depth]; omega
      · rw [List.any_cons, h4, Bool.or_true]
  obtain ⟨ys, h1, h2, h3, h4⟩ := h cs
  have s1 : SeqAt.shaped (.tuple ys) = true := by
    unfold SeqAt.shaped
    rw [Bool.and_eq_true]
    refine ⟨by simp only [PyData.canLay0, h2], ?_⟩
    rw [decide_eq_true_iff]
    simp only [PyData.depth]
    omega
  have s2 : SeqAt.shaped .none = true := by decide +kernel
  have h1' : py (.tup (cs.map pD ++ [.non])) = some (.tuple ys) := by simp only [py, h1, Option.map_some]
  have h0 : py .non = some .none := by simp only [py]
  unfold inList pyOk
  simp only [h0, h1', Option.bind_some, if_pos s1, if_pos s2, h4]
/-- one word more behind a publication -/
theorem pub_more {n : Nat} {nm : Str} {d : Int} {cs : List (Int × Int)} {x : Str} (hx : x ∈ (["", "x"] : List Str)) (hn : nm ∈ nameW) (hd : d ∈ allDays) (hc : ∀ p ∈ cs, p.1 ∈ allDays ∧ p.2 ∈ allDays) (hl : cs.length ≤ 3) :
    run P (n + 5) "read_publish" [] [.lst ((("publish" : Str) :: (pubWs nm d cs ++ [x])).map .str)] = .ok .non [] := by
  obtain ⟨a1, a2, a3, a4, a5⟩ := day_facts hd
  cases cs with
  | nil => exact pub_len (.inr rfl)
  | cons p r =>
    have hrd : run P (n + 4) "read_day" [] [.str (ts d)] = .ok (.int d) [] := a1.rd (n + 2)
    have hpn : run P (n + 4) "read_part" [] [.str "n", .str nm] = .ok (.str nm) [] := part_n ((name_all nm hn (n + 2)).1)
    let g : D → D := fun x => match run P 3 "read_stretch" [] [x] with
      | .ok d _ => d
      | _ => .non
    have hg1 : ∀ q ∈ p :: r, g (.str (cw q)) = pD q := fun q hp => by
      have := (cw_ok (hc _ hp).1 (hc _ hp).2).2 0
      show (match run P 3 "read_stretch" [] [.str (cw q)] with | .ok d _ => d | _ => .non) = _
      rw [show run P 3 "read_stretch" [] [.str (cw q)] = .ok (.tup [.int q.1, .int q.2]) [] from this]
      rfl
    have hgx : g (.str x) = .non := by
      have := rs_bad (n := 0) hx
      show (match run P 3 "read_stretch" [] [.str x] with | .ok d _ => d | _ => .non) = _
      rw [show run P 3 "read_stretch" [] [.str x] = .ok .non [] from this]
    have hdrop : (((["publish", nm, ts d, "closed"] : List Str) ++ ((p :: r).map cw ++ [x])).map D.str).drop 4 = (p :: r).map (fun p => D.str (cw p)) ++ [D.str x] := by simp [Function.comp_def]
    have hgm : ((((["publish", nm, ts d, "closed"] : List Str) ++ ((p :: r).map cw ++ [x])).map D.str).drop 4).map g = (p :: r).map pD ++ [.non] := by
      rw [hdrop, List.map_append, List.map_map]
      congr 1
      · exact List.map_congr_left fun q hq => hg1 q hq
      · show [g (.str x)] = _
        rw [hgx]
    have := pub_go (n := n + 4) (ws := (["publish", nm, ts d, "closed"] : List Str) ++ ((p :: r).map cw ++ [x])) (g := g) (r := true) (by simp at hl ⊢; omega) (.inr rfl) rfl rfl hpn hrd (fun y hy => by
      rw [hdrop] at hy
      rcases List.mem_append.mp hy with hy | hy
      · obtain ⟨q, hq, rfl⟩ := List.mem_map.mp hy
        rw [hg1 q hq]
        exact (cw_ok (hc q hq).1 (hc q hq).2).2 (n + 1)
      · rw [List.mem_singleton.mp hy, hgx]
        exact rs_bad hx) (by rw [hgm]; exact inList_app)
    rw [if_pos (by simp only [isN, Bool.or_true])] at this
    exact this
end K83
end

section
set_option maxRecDepth 100000
set_option maxHeartbeats 4000000
set_option linter.all false
open PySem Mn
namespace K83
theorem pub_split (nm : Str) (d : Int) (cs : List (Int × Int)) (hl : cs.length ≤ 3) : ∃ r : List Str, pubWs nm d cs = nm :: ts d :: r ∧ r.length ≤ 4 := by
  cases cs with
  | nil => exact ⟨[], rfl, by simp⟩
  | cons p r => exact ⟨"closed" :: (p :: r).map cw, rfl, by simp at hl ⊢; omega⟩
theorem pub_bad {nm : Str} {d : Int} {cs : List (Int × Int)} (hn : nm ∈ nameW) (hd : d ∈ allDays) (hc : ∀ p ∈ cs, p.1 ∈ allDays ∧ p.2 ∈ allDays) (hl : cs.length ≤ 3) :
    ∀ b ∈ found3 "publish" "PUBLISH" (tz (pubWs nm d cs)) ++ pubA.map (("publish a 5 " : Str) ++ ·) ++ pubB, RC b .non := by
  obtain ⟨_, hall⟩ := pub_rc hn hd hc hl
  obtain ⟨r, hr, hrl⟩ := pub_split nm d cs hl
  have hws : (pubWs nm d cs).length ≤ 6 := by rw [hr]; simp; omega
  have hu := up_pub
  have hmore : ∀ x ∈ (["", "x"] : List Str), RC (jn ("publish" :: pubWs nm d cs) ++ sp ++ x) .non := fun x hx => by
    have hx2 : Wd x := by
      simp only [List.mem_cons, List.not_mem_nil, or_false] at hx
      rcases hx with rfl | rfl
      · exact wd_emp
      · exact wd_x
    rw [← jn_snoc]
    refine rc_pub (ws := pubWs nm d cs ++ [x]) (fun y hy => ?_) (by simp; omega) fun n => pub_more hx hn hd hc hl
    rcases List.mem_append.mp hy with q | q
    · exact hall y q
    · rw [List.mem_singleton.mp q]; exact hx2
  have hsh : ∀ q : List Str, (∀ y ∈ q, Wd y) → q.length ≤ 5 → RC (jn ("publish" :: "" :: nm :: ts d :: q)) .non := fun q hq hql => by
    refine rc_pub (ws := "" :: nm :: ts d :: q) (fun y hy => ?_) (by simp; omega) fun n => pub_sh (n := n + 4) hd
    simp only [List.mem_cons] at hy
    rcases hy with rfl | rfl | rfl | hy
    · exact wd_emp
    · exact hall _ (by rw [hr]; simp)
    · exact hall _ (by rw [hr]; simp)
    · exact hq y hy
  have hrw : ∀ y ∈ r, Wd y := fun y hy => hall y (by rw [hr]; simp [hy])
  intro b hb
  rw [List.append_assoc] at hb
  rcases List.mem_append.mp hb with q | q
  · unfold found3 at q
    rcases List.mem_append.mp q with q | q
    · rcases List.mem_append.mp q with q | q
      · simp only [sp3, List.mem_cons, List.not_mem_nil, or_false] at q
        rcases q with rfl | rfl | rfl
        · rw [← jn_tz]
          have hallp : ∀ x ∈ ("publish" : Str) :: pubWs nm d cs, Wd x := fun x hx => by rcases List.mem_cons.mp hx with rfl | q; exact wd_pub; exact hall x q
          exact rc_sp (jn_le9 hallp (by simp; omega)) (jn_ok _ fun w hw => (hallp w hw).ok)
        · exact rc_badz hu.b1 hu.n1 hu.w2 hall (by omega)
        · exact rc_badz hu.b2 hu.n2 hu.w3 hall (by omega)
      · rw [← jn_tz] at q
        simp only [sp2, List.mem_cons, List.not_mem_nil, or_false] at q
        rcases q with rfl | rfl | rfl
        · have := hmore "" (by simp)
          rw [Aemp] at this
          exact this
        · have e : jn ("publish" :: pubWs nm d cs) ++ (" x" : Str) = jn ("publish" :: pubWs nm d cs) ++ sp ++ "x" := by rw [appA]; rfl
          rw [e]
          exact hmore "x" (by simp)
        · have e : rep1 (jn ("publish" :: pubWs nm d cs)) " " "  " ++ " " = jn ("publish" :: "" :: nm :: ts d :: (r ++ [("" : Str)])) := by
            rw [hr, jn_cons, rep1_app hu.w1.fr]
            have e2 := jn_snoc "publish" (("" : Str) :: nm :: ts d :: r) ""
            rw [Aemp, jn_cons, jn_cons, empA] at e2
            refine Eq.trans ?_ e2.symm
            apply ext_tl
            simp only [tlA, List.append_assoc]
            rfl
          rw [e]
          refine hsh _ (fun y hy => ?_) (by simp; omega)
          rcases List.mem_append.mp hy with q | q
          · exact hrw y q
          · rw [List.mem_singleton.mp q]; exact wd_emp
    · simp only [List.mem_cons, List.not_mem_nil, or_false] at q
      rcases q with rfl | rfl
      · rw [← jn_one "publish"]
        exact rc_pub (ws := []) (by simp) (by simp) fun n => pub_len (n := n + 4) (.inl (by simp))
      · have e : ("publish" : Str) ++ " " ++ tz (pubWs nm d cs) = jn ("publish" :: "" :: nm :: ts d :: r) := by
          rw [hr, jn_cons, jn_cons, empA]
          rfl
        rw [e]
        exact hsh r hrw (by omega)
  · exact pubA_bad b q
theorem line_pub_of {n : Nat} {nm : Str} {d : Int} {cs : List (Int × Int)} (hn : nm ∈ nameW) (hd : d ∈ allDays) (hc : ∀ p ∈ cs, p.1 ∈ allDays ∧ p.2 ∈ allDays) (hl : cs.length ≤ 3)
    (hw : run P (n + 6) "_law_written" [] [.tup [.str "publish", .str nm, .int d, .tup (cs.map pD)]] = .ok (.str (jn ("publish" :: pubWs nm d cs))) []) : LineOk n [.str "publish", .str nm, .int d, .tup (cs.map pD)] := by
  obtain ⟨hrc, hall⟩ := pub_rc hn hd hc hl
  obtain ⟨r, hr, hrl⟩ := pub_split nm d cs hl
  have hws : (pubWs nm d cs).length ≤ 6 := by rw [hr]; simp; omega
  have hu := up_pub
  have hallp : ∀ x ∈ ("publish" : Str) :: pubWs nm d cs, Wd x := fun x hx => by rcases List.mem_cons.mp hx with rfl | q; exact wd_pub; exact hall x q
  have h9 := jn_le9 hallp (by simp; omega)
  have s1 : Spo "publish" "PUBLISH" (tz (pubWs nm d cs)) := ⟨hu.e, hu.l2, hu.l1, by rw [← jn_tz]; omega⟩
  have s2 : Spo2 (("publish" : Str) ++ tz (pubWs nm d cs)) := by
    refine ⟨occ1 _, by rw [← jn_tz]; exact h9, ?_⟩
    rw [← jn_tz, hr, jn_cons, rep1_app hu.w1.fr]
    rw [hr, jn_cons, lenA, lenA, sp_len] at h9
    rw [lenA, lenA]
    have : ("  " : Str).length = 2 := by decide +kernel
    omega
  refine ⟨_, _, hw, hrc, ?_, ?_, pub_bad hn hd hc hl⟩
  · refine pd_refl (k := 3) (pd_tup fun y hy => ?_) (by decide)
    simp only [List.mem_cons, List.not_mem_nil, or_false] at hy
    rcases hy with rfl | rfl | rfl | rfl
    · exact pd_str hu.w1.ok _
    · exact pd_str (nm_wd hn).1.ok _
    · exact pd_int _ _
    · refine pd_tup fun y hy => ?_
      obtain ⟨p, hp, rfl⟩ := List.mem_map.mp hy
      refine pd_tup fun y hy => ?_
      simp only [List.mem_cons, List.not_mem_nil, or_false] at hy
      rcases hy with rfl | rfl <;> exact pd_int _ _
  · rw [jn_tz]
    exact spoilt_pub (by simp) s1 s2
end K83
end

section
set_option maxRecDepth 100000
set_option maxHeartbeats 4000000
set_option linter.all false
open PySem Mn
namespace K83
theorem lc_cw {ρ : Slots} {cs : List (Int × Int)} (hc : ∀ p ∈ cs, p.1 ∈ allDays ∧ p.2 ∈ allDays) (hl : cs.length ≤ 3) (h6 : ρ.length = 6) :
    lcGo (fun x st => lcTurn (put [4, 5] x (Mn.wipe ρ [4, 5])) (fun ρ st => .ok (.bl true) st) (fun ρ st => ((((varD ρ[4]? st).bind fun x st => Res.ok [x] st).bind fun xs st => Mn.lift (bfun .str xs) st).bind fun x st => Mn.lift (bin .Add x (.str "..")) st).bind fun x st => (((varD ρ[5]? st).bind fun x st => Res.ok [x] st).bind fun xs st => Mn.lift (bfun .str xs) st).bind fun y st => Mn.lift (bin .Add x y) st) st) (cs.map pD) [] [] = .ok ((cs.map cw).map D.str) [] := by
  let g : D → D := fun x => match x with
    | .tup [.int a, .int b] => .str (cw (a, b))
    | _ => .non
  have e : (cs.map cw).map D.str = (cs.map pD).map g := by
    rw [List.map_map, List.map_map]
    rfl
  rw [e, lcGo_all (g := g) (fun x hx => ?_) (by simp only [List.length_map, List.length_nil, Nat.zero_add]; exact Nat.le_trans hl (by decide)), List.nil_append]
  obtain ⟨p, hp, rfl⟩ := List.mem_map.mp hx
  obtain ⟨a1, a2, a3, a4, a5⟩ := day_facts (hc p hp).1
  obtain ⟨b1, b2, b3, b4, b5⟩ := day_facts (hc p hp).2
  have dl : dd.length = 2 := by decide +kernel
  have s1 : bfun .str [.int p.1] = some (.str (ts p.1)) := str_ok a1.pw.p
  have s2 : bfun .str [.int p.2] = some (.str (ts p.2)) := str_ok b1.pw.p
  have c1 : bin .Add (.str (ts p.1)) (.str "..") = some (.str (ts p.1 ++ dd)) := b_add_s (by rw [show ("..":Str).length = 2 from dl]; exact Nat.le_trans (show _ ≤ 10 by omega) (by decide))
  have c2 : bin .Add (.str (ts p.1 ++ dd)) (.str (ts p.2)) = some (.str (cw p)) := b_add_s (by rw [lenA, dl]; exact Nat.le_trans (show _ ≤ 18 by omega) (by decide))
  have e4 : (((Mn.wipe ρ [4, 5]).set 4 (Sl.d (.int p.1))).set 5 (Sl.d (.int p.2)))[4]? = some (.d (.int p.1)) := by
    rw [List.getElem?_set_ne (by omega)]
    show (((ρ.set 5 .un).set 4 .un).set 4 (Sl.d (.int p.1)))[4]? = _
    rw [List.getElem?_set_self (by simp; omega)]
  have e5 : (((Mn.wipe ρ [4, 5]).set 4 (Sl.d (.int p.1))).set 5 (Sl.d (.int p.2)))[5]? = some (.d (.int p.2)) := by
    show ((((ρ.set 5 .un).set 4 .un).set 4 (Sl.d (.int p.1))).set 5 _)[5]? = _
    rw [List.getElem?_set_self (by simp; omega)]
  have hput : put [4, 5] (pD p) (Mn.wipe ρ [4, 5]) = some (((Mn.wipe ρ [4, 5]).set 4 (Sl.d (.int p.1))).set 5 (Sl.d (.int p.2))) := rfl
  rw [hput]
  refine lcTurn_t rfl ?_
  simp only [e4, e5, varD_d, bind_ok, s1, s2, lift_some, c1, c2]
  rfl
theorem pub_txt0 (nm s : Str) : ("publish " : Str) ++ nm ++ " " ++ s = jn ["publish", nm, s] := by
  rw [jn_cons, jn_cons, jn_one]
  apply ext_tl
  simp only [tlA, List.append_assoc]
  rfl
theorem pub_txt1 (nm s : Str) (ws : List Str) (h : ws ≠ []) : ("publish " : Str) ++ nm ++ " " ++ s ++ " closed " ++ jn ws = jn ("publish" :: nm :: s :: "closed" :: ws) := by
  cases ws with
  | nil => exact absurd rfl h
  | cons x r =>
    rw [jn_cons, jn_cons, jn_cons, jn_cons]
    apply ext_tl
    simp only [tlA, List.append_assoc]
    rfl
theorem written_pub {n : Nat} {nm : Str} {d : Int} {cs : List (Int × Int)} (hn : nm ∈ nameW) (hd : d ∈ allDays) (hc : ∀ p ∈ cs, p.1 ∈ allDays ∧ p.2 ∈ allDays) (hl : cs.length ≤ 3) :
    run P (n + 1) "_law_written" [] [.tup [.str "publish", .str nm, .int d, .tup (cs.map pD)]] = .ok (.str (jn ("publish" :: pubWs nm d cs))) [] := by
  rw [run_fin d_law_written rfl]
  obtain ⟨a1, a2, a3, a4, a5⟩ := day_facts hd
  have hwn := (nm_wd hn).1.len
  have q0 : ix (.tup [.str "publish", .str nm, .int d, .tup (cs.map pD)]) (.int 0) = some (.str "publish") := rfl
  have q1 : ix (.tup [.str "publish", .str nm, .int d, .tup (cs.map pD)]) (.int 1) = some (.str nm) := rfl
  have q2 : ix (.tup [.str "publish", .str nm, .int d, .tup (cs.map pD)]) (.int 2) = some (.int d) := rfl
  have q3 : ix (.tup [.str "publish", .str nm, .int d, .tup (cs.map pD)]) (.int 3) = some (.tup (cs.map pD)) := rfl
  have k1 : inD (.str "publish") (.lst [.str "most", .str "span", .str "orders"]) = some false := by kernel_rfl
  have k2 : eqD (.str "publish") (.str "publish") = some true := by kernel_rfl
  have s1 : bfun .str [.int d] = some (.str (ts d)) := str_ok a1.pw.p
  have z1 : ("publish " : Str).length = 8 := by decide +kernel
  have z2 : (" " : Str).length = 1 := by decide +kernel
  have z3 : (" closed " : Str).length = 8 := by decide +kernel
  have c1 : bin .Add (.str "publish ") (.str nm) = some (.str ("publish " ++ nm)) := b_add_s (by rw [z1]; exact Nat.le_trans (show _ ≤ 100 by omega) (by decide))
  have c2 : bin .Add (.str ("publish " ++ nm)) (.str " ") = some (.str ("publish " ++ nm ++ " ")) := b_add_s (by rw [lenA, z1, z2]; exact Nat.le_trans (show _ ≤ 100 by omega) (by decide))
  have c3 : bin .Add (.str ("publish " ++ nm ++ " ")) (.str (ts d)) = some (.str ("publish " ++ nm ++ " " ++ ts d)) := b_add_s (by rw [lenA, lenA, z1, z2]; exact Nat.le_trans (show _ ≤ 100 by omega) (by decide))
  cases hcs : cs with
  | nil =>
    rw [← hcs]
    have hp0 : decide ((0 : Int) < ((cs.map pD).length : Int)) = false := by rw [decide_eq_false_iff_not, List.length_map, hcs]; simp
    simp only [xsL_cons, xsL_nil, xs1, ev, evL, bind_ok, lift_some, out_ok, seq_nx, seq_rt, seq_ite, asB_ok, asI_ok, asL_lst, asL_tup, asIt_lst, asIt_tup, asIt_str, andB_ok, andB_t, andB_f, orB_ok, orB_t, orB_f, iteB_ok, ifO_ok, iteB_t, iteB_f, ifO_t, ifO_f, varD_d, nxO_some, putO_some, put_1, put_2, put_3, strR_str,
  bl_len_l, bl_len_t, c_lt, c_le, c_gt, c_ge, c_is, c_isn, c_eq, c_ne, c_in, c_nin, b_add_i, b_sub_i, isN, Option.map_some, Option.bind_some, fin_ite, fin_rt, fin_nx,
  startD, List.map_cons, List.map_nil, List.length_cons, List.length_nil, List.replicate_succ, List.replicate_zero, Nat.sub_zero, Nat.reduceAdd, Nat.reduceSub, List.replicate, List.cons_append, List.nil_append, List.set_cons_zero, List.set_cons_succ, List.getElem?_cons_succ, List.getElem?_cons_zero, Bool.false_eq_true, if_true, if_false, Bool.not_true, Bool.not_false, L0, L1, L2, L3, L4, L5, L6, L7, L8, L9, L10, L11, L12, L13, L14, L15, L16, L17, L18, L19, L20, L21, L22, L23, L24, L25, G.ir__law_written, q0, q1, q2, q3, k1, k2, c1, c2, c3, s1, hp0]
    rw [pub_txt0, hcs]
    rfl
  | cons p r =>
    rw [← hcs]
    have hp0 : decide ((0 : Int) < ((cs.map pD).length : Int)) = true := by rw [decide_eq_true_iff, List.length_map, hcs]; simp
    have hlc := fun ρ (h6 : ρ.length = 6) => lc_cw (ρ := ρ) hc hl h6
    have hcl : ∀ s ∈ cs.map cw, s.length ≤ 100 := fun s hs => by
      obtain ⟨p, hp, rfl⟩ := List.mem_map.mp hs
      exact Nat.le_trans (cw_ok (hc p hp).1 (hc p hp).2).1.len (by decide)
    have hj : smeth .join (.str " ") [.lst ((cs.map cw).map .str)] = some (.str (jn (cs.map cw))) := join_ok hcl (by simp; omega)
    have hjl : (jn (cs.map cw)).length ≤ 4 * 101 := by
      have := jn_le (cs.map cw) 100 hcl
      rw [List.length_map] at this
      exact Nat.le_trans this (Nat.mul_le_mul_right _ (by omega))
    have c4 : bin .Add (.str ("publish " ++ nm ++ " " ++ ts d)) (.str " closed ") = some (.str ("publish " ++ nm ++ " " ++ ts d ++ " closed ")) := b_add_s (by rw [lenA, lenA, lenA, z1, z2, z3]; exact Nat.le_trans (show _ ≤ 100 by omega) (by decide))
    have c5 : bin .Add (.str ("publish " ++ nm ++ " " ++ ts d ++ " closed ")) (.str (jn (cs.map cw))) = some (.str ("publish " ++ nm ++ " " ++ ts d ++ " closed " ++ jn (cs.map cw))) := b_add_s (by rw [lenA, lenA, lenA, lenA, z1, z2, z3]; exact Nat.le_trans (show _ ≤ 1000 by omega) (by decide))
    simp only [xsL_cons, xsL_nil, xs1, ev, evL, bind_ok, lift_some, out_ok, seq_nx, seq_rt, seq_ite, asB_ok, asI_ok, asL_lst, asL_tup, asIt_lst, asIt_tup, asIt_str, andB_ok, andB_t, andB_f, orB_ok, orB_t, orB_f, iteB_ok, ifO_ok, iteB_t, iteB_f, ifO_t, ifO_f, varD_d, nxO_some, putO_some, put_1, put_2, put_3, strR_str,
  bl_len_l, bl_len_t, c_lt, c_le, c_gt, c_ge, c_is, c_isn, c_eq, c_ne, c_in, c_nin, b_add_i, b_sub_i, isN, Option.map_some, Option.bind_some, fin_ite, fin_rt, fin_nx,
  startD, List.map_cons, List.map_nil, List.length_cons, List.length_nil, List.replicate_succ, List.replicate_zero, Nat.sub_zero, Nat.reduceAdd, Nat.reduceSub, List.replicate, List.cons_append, List.nil_append, List.set_cons_zero, List.set_cons_succ, List.getElem?_cons_succ, List.getElem?_cons_zero, Bool.false_eq_true, if_true, if_false, Bool.not_true, Bool.not_false, L0, L1, L2, L3, L4, L5, L6, L7, L8, L9, L10, L11, L12, L13, L14, L15, L16, L17, L18, L19, L20, L21, L22, L23, L24, L25, G.ir__law_written, q0, q1, q2, q3, k1, k2, c1, c2, c3, s1, hp0, hlc, hj, c4, c5]
    rw [pub_txt1 _ _ _ (by rw [hcs]; simp)]
    rw [hcs]
    rfl
theorem line_pub {n : Nat} {nm : Str} {d : Int} {cs : List (Int × Int)} (hn : nm ∈ nameW) (hd : d ∈ allDays) (hc : ∀ p ∈ cs, p.1 ∈ allDays ∧ p.2 ∈ allDays) (hl : cs.length ≤ 3) : LineOk n [.str "publish", .str nm, .int d, .tup (cs.map pD)] :=
  line_pub_of hn hd hc hl (written_pub (n := n + 5) hn hd hc hl)
end K83
end

section
set_option maxRecDepth 100000
set_option maxHeartbeats 8000000
set_option linter.all false
open PySem Mn
namespace K83
theorem ix_mod {l : List D} {v : Int} (m : Nat) (hm : l.length = m) (h0 : 0 < m) : ∃ x ∈ l, ix (.lst l) (.int (v.fmod m)) = some x := by
  have h1 : 0 ≤ v.fmod m := Int.fmod_nonneg_of_pos _ (by omega)
  have h2 : v.fmod m < m := Int.fmod_lt_of_pos _ (by omega)
  obtain ⟨j, hj⟩ : ∃ j : Nat, v.fmod m = (j : Int) := ⟨(v.fmod m).toNat, by omega⟩
  have hjl : j < l.length := by omega
  refine ⟨l[j], List.getElem_mem hjl, ?_⟩
  rw [hj]
  exact L2.atI_nat (List.getElem?_eq_getElem hjl)
theorem b_mod (v m : Int) (h : m ≠ 0) : bin .Mod (.int v) (.int m) = some (.int (v.fmod m)) := by simp [bin, h]
theorem day_mem {d : Int} (h1 : -500 ≤ d) (h2 : d ≤ 708) : d ∈ allDays := by
  unfold allDays
  refine List.mem_append_left _ (List.mem_map.mpr ⟨(d + 500).toNat, List.mem_range.mpr (by omega), by omega⟩)
/-- the stretches that are made -/
def IC (rw' : D) (t u w z : Str) (d k : D) (i : Nat) (ρ : Slots) : Prop := ∃ (cs : List (Int × Int)) (s9 : Sl), ρ = [.d rw', .d (.lst (txW.map .str)), .d (.str t), .d (.str u), .d (.str w), .d (.str z), .d d, .d k, .ml (cs.map pD), s9, .un] ∧ cs.length = i ∧ ∀ p ∈ cs, p.1 ∈ allDays ∧ p.2 ∈ allDays
def linesLoop : List S := match G.ir__law_lines.body[8]! with
  | .loop _ _ b => b
  | _ => []
theorem stepC {n : Nat} {row : List Int} (hr : GoodR row) {t u w z : Str} {d k : D} {i : Nat} {ρ : Slots} (hi : i < 3) (h : IC (.lst (row.map .int)) t u w z d k i ρ) : ∃ ρ', putO (put [9] (.int (0 + (i : Int))) ρ) (fun ρ st => xsL (Γ (n + 1)) 1000 linesLoop ρ st) [] = .nx ρ' [] ∧ IC (.lst (row.map .int)) t u w z d k (i + 1) ρ' := by
  obtain ⟨cs, s9, rfl, hl, hc⟩ := h
  obtain ⟨a, ha, ha0, ha1⟩ := at_ok (n := n) hr (8 + i)
  obtain ⟨b, hb, hb0, hb1⟩ := at_ok (n := n) hr (12 + i)
  have ea : ((8 + i : Nat) : Int) = 8 + (0 + (i : Int)) := by omega
  have eb : ((12 + i : Nat) : Int) = 12 + (0 + (i : Int)) := by omega
  rw [ea] at ha
  rw [eb] at hb
  have ha' : (Γ (n + 1)).call "_law_at" [] [.lst (row.map .int), .int (8 + (0 + (i : Int)))] = .ok (.int a) [] := ha
  have hb' : (Γ (n + 1)).call "_law_at" [] [.lst (row.map .int), .int (12 + (0 + (i : Int)))] = .ok (.int b) [] := hb
  have bi : ∀ v : Int, bfun .int [.int v] = some (.int v) := fun v => rfl
  have hlim : (cs.map pD).length < LIM := by rw [List.length_map, hl]; exact Nat.lt_of_lt_of_le hi (by decide)
  have e : cs.map pD ++ [D.tup [.int (a - 400), .int (b - 300)]] = (cs ++ [(a - 400, b - 300)]).map pD := by rw [List.map_append]; rfl
  refine ⟨[.d (.lst (row.map .int)), .d (.lst (txW.map .str)), .d (.str t), .d (.str u), .d (.str w), .d (.str z), .d d, .d k, .ml ((cs ++ [(a - 400, b - 300)]).map pD), .d (.int (0 + (i : Int))), .un], ?_, _, _, rfl, by simp [hl], ?_⟩
  · rw [← e]
    simp only [xsL_cons, xsL_nil, xs1, ev, evL, bind_ok, lift_some, out_ok, seq_nx, seq_rt, seq_ite, asB_ok, asI_ok, asL_lst, asL_tup, asIt_lst, asIt_tup, asIt_str, andB_ok, andB_t, andB_f, orB_ok, orB_t, orB_f, iteB_ok, ifO_ok, iteB_t, iteB_f, ifO_t, ifO_f, varD_d, nxO_some, putO_some, put_1, put_2, put_3, strR_str,
  bl_len_l, bl_len_t, c_lt, c_le, c_gt, c_ge, c_is, c_isn, c_eq, c_ne, c_in, c_nin, b_add_i, b_sub_i, isN, Option.map_some, Option.bind_some, fin_ite, fin_rt, fin_nx,
  startD, List.map_cons, List.map_nil, List.length_cons, List.length_nil, List.replicate_succ, List.replicate_zero, Nat.sub_zero, Nat.reduceAdd, Nat.reduceSub, List.replicate, List.cons_append, List.nil_append, List.set_cons_zero, List.set_cons_succ, List.getElem?_cons_succ, List.getElem?_cons_zero, Bool.false_eq_true, if_true, if_false, Bool.not_true, Bool.not_false, L0, L1, L2, L3, L4, L5, L6, L7, L8, L9, L10, L11, L12, L13, L14, L15, L16, L17, L18, L19, L20, L21, L22, L23, L24, L25, linesLoop, G.ir__law_lines, List.getElem!_cons_succ, List.getElem!_cons_zero, ha', hb', bi, if_pos hlim]
  · intro p hp
    rcases List.mem_append.mp hp with q | q
    · exact hc p q
    · rw [List.mem_singleton.mp q]
      exact ⟨day_mem (by show -500 ≤ a - 400; omega) (by show a - 400 ≤ 708; omega), day_mem (by show -500 ≤ b - 300; omega) (by show b - 300 ≤ 708; omega)⟩
theorem loopC {n : Nat} {row : List Int} (hr : GoodR row) {t u w z : Str} {d k : D} {m : Nat} (hm : m ≤ 3) : ∃ ρ', loopGo (fun x ρ st => putO (put [9] x ρ) (fun ρ st => xsL (Γ (n + 1)) 1000 linesLoop ρ st) st) ((List.range m).map fun (i : Nat) => D.int (0 + (i : Int))) [.d (.lst (row.map .int)), .d (.lst (txW.map .str)), .d (.str t), .d (.str u), .d (.str w), .d (.str z), .d d, .d k, .ml (([] : List (Int × Int)).map pD), .un, .un] [] = .nx ρ' [] ∧ IC (.lst (row.map .int)) t u w z d k m ρ' := by
  have key : ∀ (l : List Nat) (i : Nat) (ρ : Slots), i + l.length ≤ 3 → (∀ j (h : j < l.length), l[j] = i + j) → IC (.lst (row.map .int)) t u w z d k i ρ → ∃ ρ', loopGo (fun x ρ st => putO (put [9] x ρ) (fun ρ st => xsL (Γ (n + 1)) 1000 linesLoop ρ st) st) (l.map fun (i : Nat) => D.int (0 + (i : Int))) ρ [] = .nx ρ' [] ∧ IC (.lst (row.map .int)) t u w z d k (i + l.length) ρ' := by
    intro l
    induction l with
    | nil => intro i ρ _ _ h; exact ⟨ρ, rfl, h⟩
    | cons x l ih =>
      intro i ρ hi hx h
      simp only [List.length_cons] at hi
      have hx0 : x = i := hx 0 (by simp)
      subst hx0
      obtain ⟨ρ1, e1, h1⟩ := stepC (n := n) hr (by omega) h
      obtain ⟨ρ2, e2, h2⟩ := ih (x + 1) ρ1 (by omega) (fun j hj => by
        have := hx (j + 1) (by simp; omega)
        simp only [List.getElem_cons_succ] at this
        omega) h1
      refine ⟨ρ2, ?_, by rw [List.length_cons, show x + (l.length + 1) = x + 1 + l.length by omega]; exact h2⟩
      show (match putO (put [9] (.int (0 + (x : Int))) ρ) (fun ρ st => xsL (Γ (n + 1)) 1000 linesLoop ρ st) [] with | .nx ρ st => loopGo _ _ ρ st | .ct ρ st => loopGo _ _ ρ st | .bk ρ st => .nx ρ st | o => o) = _
      rw [e1]
      exact e2
  obtain ⟨ρ', e, h⟩ := key (List.range m) 0 _ (by rw [List.length_range]; omega) (fun j hj => by rw [List.getElem_range]; omega) ⟨[], .un, rfl, rfl, fun p hp => nomatch hp⟩
  rw [List.length_range, Nat.zero_add] at h
  exact ⟨ρ', e, h⟩
end K83
end

section
set_option maxRecDepth 100000
set_option maxHeartbeats 8000000
set_option linter.all false
open PySem Mn
namespace K83
theorem seq_assoc (o : Out) (f g : Slots → Store → Out) : (o.seq f).seq g = o.seq fun ρ st => (f ρ st).seq g := by cases o <;> rfl
theorem xsL_app {Γ' : Mn.Ctx} {wf : Nat} {b : List S} : ∀ {a : List S} {ρ : Slots} {st : Store}, xsL Γ' wf (a ++ b) ρ st = (xsL Γ' wf a ρ st).seq fun ρ st => xsL Γ' wf b ρ st
  | [], ρ, st => by rw [List.nil_append, xsL_nil, seq_nx]
  | s :: a, ρ, st => by
    rw [List.cons_append, xsL_cons, xsL_cons, seq_assoc]
    congr 1
    funext ρ st
    exact xsL_app
def linesA : List S := G.ir__law_lines.body.take 8
def linesB : List S := G.ir__law_lines.body.drop 9
def linesM : E := match G.ir__law_lines.body[8]! with
  | .loop _ (.rng1 e) _ => e
  | _ => .k .non
theorem lines_body : G.ir__law_lines.body = linesA ++ (.loop [9] (.rng1 linesM) linesLoop :: linesB) := by kernel_rfl
def st8 (rw' : D) (t u w z : Str) (d k : D) : Slots := [.d rw', .d (.lst (txW.map .str)), .d (.str t), .d (.str u), .d (.str w), .d (.str z), .d d, .d k, .ml (([] : List (Int × Int)).map pD), .un, .un]
theorem linesA_ok {n : Nat} {row : List Int} (hr : GoodR row) : ∃ (t u w z : Str) (d k : Int), xsL (Γ (n + 1)) 1000 linesA (startD 11 [.lst (row.map .int)]) [] = .nx (st8 (.lst (row.map .int)) t u w z (.int d) (.int k)) [] ∧ t ∈ txW ∧ u ∈ txW ∧ w ∈ (["served", "a", "z9", "court"] : List Str) ∧ z ∈ (["reply", "b", "c"] : List Str) ∧ d ∈ allDays ∧ k ∈ ([0, 9, 10, 999] : List Int) := by
  obtain ⟨v0, a0, p0, q0⟩ := at_ok (n := n) hr 0
  obtain ⟨v1, a1, p1, q1⟩ := at_ok (n := n) hr 1
  obtain ⟨v2, a2, p2, q2⟩ := at_ok (n := n) hr 2
  obtain ⟨v3, a3, p3, q3⟩ := at_ok (n := n) hr 3
  obtain ⟨v4, a4, p4, q4⟩ := at_ok (n := n) hr 4
  obtain ⟨v5, a5, p5, q5⟩ := at_ok (n := n) hr 5
  obtain ⟨v6, a6, p6, q6⟩ := at_ok (n := n) hr 6
  have c0 : (Γ (n + 1)).call "_law_at" [] [.lst (row.map .int), .int 0] = .ok (.int v0) [] := a0
  have c1 : (Γ (n + 1)).call "_law_at" [] [.lst (row.map .int), .int 1] = .ok (.int v1) [] := a1
  have c2 : (Γ (n + 1)).call "_law_at" [] [.lst (row.map .int), .int 2] = .ok (.int v2) [] := a2
  have c3 : (Γ (n + 1)).call "_law_at" [] [.lst (row.map .int), .int 3] = .ok (.int v3) [] := a3
  have c4 : (Γ (n + 1)).call "_law_at" [] [.lst (row.map .int), .int 4] = .ok (.int v4) [] := a4
  have c5 : (Γ (n + 1)).call "_law_at" [] [.lst (row.map .int), .int 5] = .ok (.int v5) [] := a5
  have c6 : (Γ (n + 1)).call "_law_at" [] [.lst (row.map .int), .int 6] = .ok (.int v6) [] := a6
  obtain ⟨x0, h0, e0⟩ := ix_mod (l := txW.map D.str) (v := v0) 8 rfl (by decide)
  obtain ⟨x1, h1, e1⟩ := ix_mod (l := txW.map D.str) (v := v1) 8 rfl (by decide)
  obtain ⟨x2, h2, e2⟩ := ix_mod (l := (["served", "a", "z9", "court"] : List Str).map D.str) (v := v2) 4 rfl (by decide)
  obtain ⟨x3, h3, e3⟩ := ix_mod (l := (["reply", "b", "c"] : List Str).map D.str) (v := v3) 3 rfl (by decide)
  obtain ⟨x5, h5, e5⟩ := ix_mod (l := ([v4 - 500, 0, -1000000, 1000000, -7] : List Int).map D.int) (v := v5) 5 rfl (by decide)
  obtain ⟨x6, h6, e6⟩ := ix_mod (l := ([0, 9, 10, 999] : List Int).map D.int) (v := v6) 4 rfl (by decide)
  obtain ⟨t, ht, rfl⟩ := List.mem_map.mp h0
  obtain ⟨u, hu, rfl⟩ := List.mem_map.mp h1
  obtain ⟨w, hw, rfl⟩ := List.mem_map.mp h2
  obtain ⟨z, hz, rfl⟩ := List.mem_map.mp h3
  obtain ⟨d, hd, rfl⟩ := List.mem_map.mp h5
  obtain ⟨k, hk, rfl⟩ := List.mem_map.mp h6
  have f0 : ix (.lst [.str "", .str "a <= b", .str "yes", .str " x", .str "next c(a) ", .str "?", .str "((", .str "a  b"]) (.int (v0.fmod 8)) = some (.str t) := e0
  have f1 : ix (.lst [.str "", .str "a <= b", .str "yes", .str " x", .str "next c(a) ", .str "?", .str "((", .str "a  b"]) (.int (v1.fmod 8)) = some (.str u) := e1
  have f2 : ix (.lst [.str "served", .str "a", .str "z9", .str "court"]) (.int (v2.fmod 4)) = some (.str w) := e2
  have f3 : ix (.lst [.str "reply", .str "b", .str "c"]) (.int (v3.fmod 3)) = some (.str z) := e3
  have f5 : ix (.lst [.int (v4 - 500), .int 0, .int (-1000000), .int 1000000, .int (-7)]) (.int (v5.fmod 5)) = some (.int d) := e5
  have f6 : ix (.lst [.int 0, .int 9, .int 10, .int 999]) (.int (v6.fmod 4)) = some (.int k) := e6
  have bi : ∀ v : Int, bfun .int [.int v] = some (.int v) := fun v => rfl
  have m8 : ∀ v : Int, bin .Mod (.int v) (.int 8) = some (.int (v.fmod 8)) := fun v => b_mod v 8 (by decide)
  have m4 : ∀ v : Int, bin .Mod (.int v) (.int 4) = some (.int (v.fmod 4)) := fun v => b_mod v 4 (by decide)
  have m3 : ∀ v : Int, bin .Mod (.int v) (.int 3) = some (.int (v.fmod 3)) := fun v => b_mod v 3 (by decide)
  have m5 : ∀ v : Int, bin .Mod (.int v) (.int 5) = some (.int (v.fmod 5)) := fun v => b_mod v 5 (by decide)
  refine ⟨t, u, w, z, d, k, ?_, ht, hu, hw, hz, ?_, hk⟩
  · simp only [xsL_cons, xsL_nil, xs1, ev, evL, bind_ok, lift_some, out_ok, seq_nx, seq_rt, seq_ite, asB_ok, asI_ok, asL_lst, asL_tup, asIt_lst, asIt_tup, asIt_str, andB_ok, andB_t, andB_f, orB_ok, orB_t, orB_f, iteB_ok, ifO_ok, iteB_t, iteB_f, ifO_t, ifO_f, varD_d, nxO_some, putO_some, put_1, put_2, put_3, strR_str,
  bl_len_l, bl_len_t, c_lt, c_le, c_gt, c_ge, c_is, c_isn, c_eq, c_ne, c_in, c_nin, b_add_i, b_sub_i, isN, Option.map_some, Option.bind_some, fin_ite, fin_rt, fin_nx,
  startD, List.map_cons, List.map_nil, List.length_cons, List.length_nil, List.replicate_succ, List.replicate_zero, Nat.sub_zero, Nat.reduceAdd, Nat.reduceSub, List.replicate, List.cons_append, List.nil_append, List.set_cons_zero, List.set_cons_succ, List.getElem?_cons_succ, List.getElem?_cons_zero, Bool.false_eq_true, if_true, if_false, Bool.not_true, Bool.not_false, L0, L1, L2, L3, L4, L5, L6, L7, L8, L9, L10, L11, L12, L13, L14, L15, L16, L17, L18, L19, L20, L21, L22, L23, L24, L25, linesA, G.ir__law_lines, List.take_succ_cons, List.take_zero, c0, c1, c2, c3, c4, c5, c6, f0, f1, f2, f3, f5, f6, bi, m8, m4, m3, m5]
    rfl
  · simp only [List.mem_cons, List.not_mem_nil, or_false] at hd
    rcases hd with rfl | rfl | rfl | rfl | rfl
    · exact day_mem (by omega) (by omega)
    · exact day_mem (by decide) (by decide)
    · exact List.mem_append_right _ (by simp)
    · exact List.mem_append_right _ (by simp)
    · exact day_mem (by decide) (by decide)
def lines1 (t u w z : Str) (d k : Int) (cs : List (Int × Int)) : List (List D) :=
  [[.str "assume", .str t], [.str "drop", .int k], [.str "decide", .str t], [.str "most", .str t, .str u], [.str "span", .str t, .str u], [.str "orders", .str u, .str t],
   [.str "run", .str w, .str t], [.str "need", .str u], [.str "always", .str t], [.str "behind", .str w, .str z], [.str "unused"], [.str "open", .int d], [.str "undo"],
   [.str "file", .str w, .int d], [.str "correct", .str z, .int d], [.str "withdraw", .str w], [.str "advance", .int d], [.str "stand", .str u], [.str "due", .str z], [.str "fixed", .str w],
   [.str "text"], [.str "publish", .str w, .int d, .tup (cs.map pD)]]
theorem linesB_ok {n : Nat} {r : D} {t u w z : Str} {d k : Int} {cs : List (Int × Int)} {s9 : Sl} : xsL (Γ n) 1000 linesB [.d r, .d (.lst (txW.map .str)), .d (.str t), .d (.str u), .d (.str w), .d (.str z), .d (.int d), .d (.int k), .ml (cs.map pD), s9, .un] [] = .rt (.lst ((lines1 t u w z d k cs).map .tup)) [] := by
  have bt : ∀ ys : List D, bfun .tuple [.lst ys] = some (.tup ys) := fun _ => rfl
  simp only [xsL_cons, xsL_nil, xs1, ev, evL, bind_ok, lift_some, out_ok, seq_nx, seq_rt, seq_ite, asB_ok, asI_ok, asL_lst, asL_tup, asIt_lst, asIt_tup, asIt_str, andB_ok, andB_t, andB_f, orB_ok, orB_t, orB_f, iteB_ok, ifO_ok, iteB_t, iteB_f, ifO_t, ifO_f, varD_d, nxO_some, putO_some, put_1, put_2, put_3, strR_str,
  bl_len_l, bl_len_t, c_lt, c_le, c_gt, c_ge, c_is, c_isn, c_eq, c_ne, c_in, c_nin, b_add_i, b_sub_i, isN, Option.map_some, Option.bind_some, fin_ite, fin_rt, fin_nx,
  startD, List.map_cons, List.map_nil, List.length_cons, List.length_nil, List.replicate_succ, List.replicate_zero, Nat.sub_zero, Nat.reduceAdd, Nat.reduceSub, List.replicate, List.cons_append, List.nil_append, List.set_cons_zero, List.set_cons_succ, List.getElem?_cons_succ, List.getElem?_cons_zero, Bool.false_eq_true, if_true, if_false, Bool.not_true, Bool.not_false, L0, L1, L2, L3, L4, L5, L6, L7, L8, L9, L10, L11, L12, L13, L14, L15, L16, L17, L18, L19, L20, L21, L22, L23, L24, L25, linesB, G.ir__law_lines, List.drop_succ_cons, List.drop_zero, frzAll, b_add_l, bt, lines1]
end K83
end

section
set_option maxRecDepth 100000
set_option maxHeartbeats 8000000
set_option linter.all false
open PySem Mn
namespace K83
theorem linesM_ok {n : Nat} {r : D} {v : Int} {s : Slots} (h : (Γ n).call "_law_at" [] [r, .int 7] = .ok (.int v) []) : ev (Γ n) linesM (.d r :: s) [] = .ok (.int (v.fmod 4)) [] := by
  have bi : ∀ v : Int, bfun .int [.int v] = some (.int v) := fun v => rfl
  have m4 : ∀ v : Int, bin .Mod (.int v) (.int 4) = some (.int (v.fmod 4)) := fun v => b_mod v 4 (by decide)
  simp only [xsL_cons, xsL_nil, xs1, ev, evL, bind_ok, lift_some, out_ok, seq_nx, seq_rt, seq_ite, asB_ok, asI_ok, asL_lst, asL_tup, asIt_lst, asIt_tup, asIt_str, andB_ok, andB_t, andB_f, orB_ok, orB_t, orB_f, iteB_ok, ifO_ok, iteB_t, iteB_f, ifO_t, ifO_f, varD_d, nxO_some, putO_some, put_1, put_2, put_3, strR_str,
  bl_len_l, bl_len_t, c_lt, c_le, c_gt, c_ge, c_is, c_isn, c_eq, c_ne, c_in, c_nin, b_add_i, b_sub_i, isN, Option.map_some, Option.bind_some, fin_ite, fin_rt, fin_nx,
  startD, List.map_cons, List.map_nil, List.length_cons, List.length_nil, List.replicate_succ, List.replicate_zero, Nat.sub_zero, Nat.reduceAdd, Nat.reduceSub, List.replicate, List.cons_append, List.nil_append, List.set_cons_zero, List.set_cons_succ, List.getElem?_cons_succ, List.getElem?_cons_zero, Bool.false_eq_true, if_true, if_false, Bool.not_true, Bool.not_false, L0, L1, L2, L3, L4, L5, L6, L7, L8, L9, L10, L11, L12, L13, L14, L15, L16, L17, L18, L19, L20, L21, L22, L23, L24, L25, linesM, G.ir__law_lines, List.getElem!_cons_succ, List.getElem!_cons_zero, h, bi, m4]
theorem lines_run {n : Nat} {row : List Int} (hr : GoodR row) : ∃ (t u w z : Str) (d k : Int) (cs : List (Int × Int)), run P (n + 2) "_law_lines" [] [.lst (row.map .int)] = .ok (.lst ((lines1 t u w z d k cs).map .tup)) [] ∧ t ∈ txW ∧ u ∈ txW ∧ w ∈ (["served", "a", "z9", "court"] : List Str) ∧ z ∈ (["reply", "b", "c"] : List Str) ∧ d ∈ allDays ∧ k ∈ ([0, 9, 10, 999] : List Int) ∧ cs.length ≤ 3 ∧ ∀ p ∈ cs, p.1 ∈ allDays ∧ p.2 ∈ allDays := by
  obtain ⟨t, u, w, z, d, k, hA, h1, h2, h3, h4, h5, h6⟩ := linesA_ok (n := n) hr
  obtain ⟨v, hv, _, _⟩ := at_ok (n := n) hr 7
  have hv' : (Γ (n + 1)).call "_law_at" [] [.lst (row.map .int), .int 7] = .ok (.int v) [] := hv
  have q1 : 0 ≤ v.fmod 4 := Int.fmod_nonneg_of_pos _ (by decide)
  have q2 : v.fmod 4 < 4 := Int.fmod_lt_of_pos _ (by decide)
  obtain ⟨j, hj⟩ : ∃ j : Nat, v.fmod 4 = (j : Int) := ⟨(v.fmod 4).toNat, by omega⟩
  have hj3 : j ≤ 3 := by omega
  obtain ⟨ρ', e, cs, s9, rfl, hcl, hcs⟩ := loopC (n := n) hr (t := t) (u := u) (w := w) (z := z) (d := .int d) (k := .int k) hj3
  refine ⟨t, u, w, z, d, k, cs, ?_, h1, h2, h3, h4, h5, h6, by omega, hcs⟩
  have hM : ev (Γ (n + 1)) (.rng1 linesM) (st8 (.lst (row.map .int)) t u w z (.int d) (.int k)) [] = .ok (.lst ((List.range j).map fun (i : Nat) => D.int (0 + (i : Int)))) [] := by
    rw [ev_rngI (i := (j : Int)) (by rw [← hj]; exact linesM_ok hv'), rng63 (by omega)]
    unfold rngR
    rw [if_pos rfl, Int.toNat_natCast]
  have hs : startD G.ir__law_lines.nn [.lst (row.map .int)] = startD 11 [.lst (row.map .int)] := rfl
  rw [run_fin d_law_lines rfl, lines_body, xsL_app, hs, hA, seq_nx, xsL_cons, xs1_loop, hM, asIt_lst, out_ok]
  unfold st8
  rw [e, seq_nx, linesB_ok]
  rfl
theorem names_in {w : Str} (h : w ∈ (["served", "a", "z9", "court"] : List Str) ∨ w ∈ (["reply", "b", "c"] : List Str)) : w ∈ nameW := by
  simp only [List.mem_cons, List.not_mem_nil, or_false] at h
  simp only [nameW, List.mem_cons, List.not_mem_nil, or_false]
  rcases h with (rfl | rfl | rfl | rfl) | (rfl | rfl | rfl) <;> simp
theorem lines_ok {n m : Nat} {row : List Int} (hr : GoodR row) : ∃ L : List (List D), run P (n + 2) "_law_lines" [] [.lst (row.map .int)] = .ok (.lst (L.map .tup)) [] ∧ ∀ l ∈ L, LineOk m l := by
  obtain ⟨t, u, w, z, d, k, cs, e, ht, hu, hw, hz, hd, hk, hcl, hcs⟩ := lines_run (n := n) hr
  refine ⟨_, e, fun l hl => ?_⟩
  have nw := names_in (.inl hw)
  have nz := names_in (.inr hz)
  have dF := (day_facts hd).1
  simp only [lines1, List.mem_cons, List.not_mem_nil, or_false] at hl
  rcases hl with rfl | rfl | rfl | rfl | rfl | rfl | rfl | rfl | rfl | rfl | rfl | rfl | rfl | rfl | rfl | rfl | rfl | rfl | rfl | rfl | rfl | rfl
  · exact line_t (by decide +kernel) ht
  · simp only [List.mem_cons, List.not_mem_nil, or_false] at hk
    rcases hk with rfl | rfl | rfl | rfl
    · exact line_drop (s := "0") (by decide +kernel) (by decide +kernel) ⟨by decide +kernel, by decide +kernel, by decide +kernel⟩ (by decide +kernel)
    · exact line_drop (s := "9") (by decide +kernel) (by decide +kernel) ⟨by decide +kernel, by decide +kernel, by decide +kernel⟩ (by decide +kernel)
    · exact line_drop (s := "10") (by decide +kernel) (by decide +kernel) ⟨by decide +kernel, by decide +kernel, by decide +kernel⟩ (by decide +kernel)
    · exact line_drop (s := "999") (by decide +kernel) (by decide +kernel) ⟨by decide +kernel, by decide +kernel, by decide +kernel⟩ (by decide +kernel)
  · exact line_t (by decide +kernel) ht
  · exact line_u (by decide +kernel) ht hu
  · exact line_u (by decide +kernel) ht hu
  · exact line_u (by decide +kernel) hu ht
  · exact line_run nw ht
  · exact line_t (by decide +kernel) hu
  · exact line_t (by decide +kernel) ht
  · exact line_behind nw nz
  · exact line_0 (by decide +kernel)
  · exact line_day (by decide +kernel) dF
  · exact line_0 (by decide +kernel)
  · exact line_file (by decide +kernel) nw dF
  · exact line_file (by decide +kernel) nz dF
  · exact line_nm (by decide +kernel) nw
  · exact line_day (by decide +kernel) dF
  · exact line_t (by decide +kernel) hu
  · exact line_nm (by decide +kernel) nz
  · exact line_nm (by decide +kernel) nw
  · exact line_0 (by decide +kernel)
  · exact line_pub nw hd hcs hcl
end K83
end

section
set_option maxRecDepth 100000
set_option maxHeartbeats 8000000
set_option linter.all false
open PySem Mn
namespace K83
theorem loopGo_all {body : D → Slots → Store → Out} {st : Store} {I : Slots → Prop} {xs : List D} {ρ : Slots} (hb : ∀ x ∈ xs, ∀ ρ, I ρ → ∃ ρ', body x ρ st = .nx ρ' st ∧ I ρ') (h : I ρ) : ∃ ρ', loopGo body xs ρ st = .nx ρ' st ∧ I ρ' := loopGo_nx hb h
def wBody : List S := match G.ir_law.body[3]! with
  | .loop _ _ b => b
  | _ => []
def wItems : List Str := ["calendar", "calendar x run", "event  a", "rule", "rule a b"]
theorem w_ok {n : Nat} {x : D} (hx : x ∈ wItems.map D.str) {ρ : Slots} (hρ : IL ρ) : ∃ ρ', putO (put [3] x ρ) (fun ρ st => xsL (Γ (n + 6)) 1000 wBody ρ st) [] = .nx ρ' [] ∧ IL ρ' := by
  obtain ⟨s0, s1, s2, s3, s4, s5, s6, rfl⟩ := hρ
  simp only [wItems, List.map_cons, List.map_nil, List.mem_cons, List.not_mem_nil, or_false] at hx
  refine ⟨[s0, s1, s2, .d x, s4, s5, s6], ?_, _, _, _, _, _, _, _, rfl⟩
  rcases hx with rfl | rfl | rfl | rfl | rfl <;> kernel_rfl
def lawA : List S := G.ir_law.body.take 2
def lawB : List S := G.ir_law.body.drop 4
theorem law_body : G.ir_law.body = lawA ++ [.loop [2] (.call "_law_lines" [.var 1]) lawBody, .loop [3] (.lst [.k (.str "calendar"), .k (.str "calendar x run"), .k (.str "event  a"), .k (.str "rule"), .k (.str "rule a b")]) wBody] ++ lawB := by kernel_rfl
theorem lawA_ok {n : Nat} {a r : D} (h : (Γ (n + 6)).call "_law_row" [] [a] = .ok r []) : xsL (Γ (n + 6)) 1000 lawA (startD 7 [a]) [] = .nx [.d a, .d r, .un, .un, .un, .un, .un] [] := by
  have r1 : (Γ (n + 6)).call "read_command" [] [.str ""] = .ok (.tup []) [] := by kernel_rfl
  have r2 : (Γ (n + 6)).call "read_command" [] [.str " "] = .ok .non [] := by kernel_rfl
  have r3 : (Γ (n + 6)).call "read_command" [] [.str "tell a"] = .ok .non [] := by kernel_rfl
  have k1 : eqD (.tup []) (.tup []) = some true := by kernel_rfl
  simp only [xsL_cons, xsL_nil, xs1, ev, evL, bind_ok, lift_some, out_ok, seq_nx, seq_rt, seq_ite, asB_ok, asI_ok, asL_lst, asL_tup, asIt_lst, asIt_tup, asIt_str, andB_ok, andB_t, andB_f, orB_ok, orB_t, orB_f, iteB_ok, ifO_ok, iteB_t, iteB_f, ifO_t, ifO_f, varD_d, nxO_some, putO_some, put_1, put_2, put_3, strR_str,
  bl_len_l, bl_len_t, c_lt, c_le, c_gt, c_ge, c_is, c_isn, c_eq, c_ne, c_in, c_nin, b_add_i, b_sub_i, isN, Option.map_some, Option.bind_some, fin_ite, fin_rt, fin_nx,
  startD, List.map_cons, List.map_nil, List.length_cons, List.length_nil, List.replicate_succ, List.replicate_zero, Nat.sub_zero, Nat.reduceAdd, Nat.reduceSub, List.replicate, List.cons_append, List.nil_append, List.set_cons_zero, List.set_cons_succ, List.getElem?_cons_succ, List.getElem?_cons_zero, Bool.false_eq_true, if_true, if_false, Bool.not_true, Bool.not_false, L0, L1, L2, L3, L4, L5, L6, L7, L8, L9, L10, L11, L12, L13, L14, L15, L16, L17, L18, L19, L20, L21, L22, L23, L24, L25, lawA, G.ir_law, List.take_succ_cons, List.take_zero, h, r1, r2, r3, k1, Bool.or_self, Bool.or_false, Bool.false_or]
theorem lawB_ok {n : Nat} {s0 s1 s2 s3 s4 s5 s6 : Sl} : xsL (Γ (n + 6)) 1000 lawB [s0, s1, s2, s3, s4, s5, s6] [] = .rt (.bl true) [] := by kernel_rfl
theorem call_eq (n : Nat) : (Γ n).call = run P n := rfl
theorem law_run (n : Nat) {ns : List Int} (hns : ns.length ≤ 63) : run P (n + 6 + 1) "law" [] [.lst (ns.map .int)] = .ok (.bl true) [] := by
  obtain ⟨row, h1, hg⟩ := row_ok (n := n + 5) hns
  obtain ⟨L, h2, hL⟩ := lines_ok (n := n + 4) (m := n) hg
  rw [show n + 5 + 1 = n + 6 from rfl] at h1
  rw [show n + 4 + 2 = n + 6 from rfl] at h2
  have h1' : (Γ (n + 6)).call "_law_row" [] [.lst (ns.map .int)] = .ok (.lst (row.map .int)) [] := by rw [call_eq]; exact h1
  have h2' : (Γ (n + 6)).call "_law_lines" [] [.lst (row.map .int)] = .ok (.lst (L.map .tup)) [] := by rw [call_eq]; exact h2
  obtain ⟨ρ1, e1, i1⟩ := loopGo_nx (I := IL) (body := fun x ρ st => putO (put [2] x ρ) (fun ρ st => xsL (Γ (n + 6)) 1000 lawBody ρ st) st) (st := []) (xs := L.map .tup) (ρ := [.d (.lst (ns.map .int)), .d (.lst (row.map .int)), .un, .un, .un, .un, .un]) (fun x hx ρ hρ => by
    obtain ⟨l, hl, rfl⟩ := List.mem_map.mp hx
    exact body_ok (hL l hl) hρ) ⟨_, _, _, _, _, _, _, rfl⟩
  obtain ⟨ρ2, e2, i2⟩ := loopGo_nx (I := IL) (body := fun x ρ st => putO (put [3] x ρ) (fun ρ st => xsL (Γ (n + 6)) 1000 wBody ρ st) st) (st := []) (xs := wItems.map D.str) (ρ := ρ1) (fun x hx ρ hρ => w_ok (n := n) hx hρ) i1
  obtain ⟨s0, s1, s2, s3, s4, s5, s6, rfl⟩ := i2
  have hs : startD G.ir_law.nn [.lst (ns.map .int)] = startD 7 [.lst (ns.map .int)] := rfl
  have hE : ev (Γ (n + 6)) (.call "_law_lines" [.var 1]) [.d (.lst (ns.map .int)), .d (.lst (row.map .int)), .un, .un, .un, .un, .un] [] = .ok (.lst (L.map .tup)) [] := by
    simp only [ev, evL, List.getElem?_cons_zero, List.getElem?_cons_succ, varD_d, bind_ok, h2']
  have hE2 : ev (Γ (n + 6)) (.lst [.k (.str "calendar"), .k (.str "calendar x run"), .k (.str "event  a"), .k (.str "rule"), .k (.str "rule a b")]) ρ1 [] = .ok (.lst (wItems.map .str)) [] := by
    simp only [ev, evL, bind_ok, List.length_cons, List.length_nil, Nat.reduceAdd, Nat.zero_add, L5, if_true]
    rfl
  rw [run_fin d_law rfl, law_body, List.append_assoc, xsL_app, hs]
  rw [lawA_ok h1', seq_nx, List.cons_append, List.cons_append, List.nil_append, xsL_cons, xs1_loop, hE, asIt_lst, out_ok, e1, seq_nx, xsL_cons, xs1_loop, hE2, asIt_lst, out_ok, e2, seq_nx, lawB_ok]
  rfl
theorem hrun : ∀ ns : List Int, ns.length ≤ 63 → ∃ st, run P (20 + 1) "law" [] [.lst (ns.map .int)] = .ok (.bl true) st := fun ns hns => by
  have h := law_run 14 hns
  rw [show 14 + 6 + 1 = 20 + 1 from rfl] at h
  exact ⟨[], h⟩
end K83
end

section
set_option Elab.async false
set_option linter.all false
set_option maxRecDepth 100000
set_option maxHeartbeats 0
open PySem PySem.W PySem.Calls PyProof.Rows
theorem k83_of (hrun : ∀ ns : List Int, ns.length ≤ 63 → ∃ st, Mn.run (Mn.progOf (G.rsl.map Mn.RD.i) G.gloL G.cdsL 1000) (20 + 1) "law" [] [.lst (ns.map .int)] = .ok (.bl true) st) : PySem.Challenge.rw_diesnon_k83_lines_read.Holds := by
  w_on; o_law
  refine HandSHeadRun.head_any (r := OpenLaw.row PySem.Challenge.rw_diesnon_k83_lines_read) (q := view (OpenLaw.row PySem.Challenge.rw_diesnon_k83_lines_read).prog [25]) (H := G.hk) (ob := G.ob) (M := 6000) (loose := G.loose) (d := HandSHeadRun.topDef (OpenLaw.row PySem.Challenge.rw_diesnon_k83_lines_read).prog 25) (kwd := []) G.ob_eq
    (by kernel_rfl) (fun s => by kernel_rfl) G.run (by kernel_rfl) (by kernel_rfl) (by kernel_rfl) (by rfl) (by first | assumption | decide +kernel) (by decide +kernel) ⟨rfl, rfl, rfl, rfl, rfl, by decide +kernel⟩ ?hw ?hc
  case hw => w_witness2
  case hc =>
    refine L2.walk_ofE (l := PySem.Challenge.rw_diesnon_k83_lines_read) (n := 63) (k := 20 + 2) (x := "_law_script") (CX := Mn.CXA) rfl (by decide) (by kernel_rfl) ⟨rfl, by decide, by decide⟩ ?F Mn.cxa_none
    intro w mg fa h Y Gh hmg0
    obtain ⟨K, KX, c⟩ := Y
    have hmg : mg ("law" : PySem.Str) = some (.ref fa) := by
      have e : (HandSHeadRun.topDef (OpenLaw.row PySem.Challenge.rw_diesnon_k83_lines_read).prog 25).name = ("law" : PySem.Str) := by kernel_rfl
      rw [← e]
      exact hmg0
    obtain ⟨fd, sp, hb, hsp, hF⟩ := Mn.row_law (P := (PySem.Challenge.rw_diesnon_k83_lines_read).prog) (w := w) (li := G.r_law) (x := "_law_script") (wf := 1000) (k := 20) KX Gh c G.oks (by simp [G.rsl, G.rsl0]) rfl rfl (by rfl) hrun hmg
    exact ⟨K, fd, sp, KX, hb, fun H a ns hl _ hS => hsp H a ns hl hS, hF⟩
end

set_option maxRecDepth 100000 in
set_option maxHeartbeats 0 in
theorem PySem.Challenge.cw_diesnon_k83_lines_read_holds : PySem.Challenge.rw_diesnon_k83_lines_read.Holds := by
  exact k83_of K83.hrun
