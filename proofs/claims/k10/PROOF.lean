import PyProof.Rows.All
import Wide.All
import OpenK.AllK
import Wide.FinOn
import HandS.ForMost
import HandS.ForExc
import HandS.IsInst
import HandS.Wide
import HandS.Walk
import HandS.TryMany
import HandS.TupMul
import HandS.TupAny
import HandS.Zip
import KE.GoesMore
import KE.GoesEnum
import KE.GoesZip
import HandS.ExcOwn
import PyProof.ExcBaseAll.ValueError
import HandS.Defaults
import HandS.Head0
import HandS.Head1
import HandS.Head2
import HandS.HeadEnd
import HandS.HeadHook1
import HandS.HeadHook2
import HandS.HeadHook4
import HandS.EndBits
import HandS.Codes
import PySem.Challenge.RW_pacefold_k10_coordinates
set_option Elab.async false
set_option linter.all false
set_option maxRecDepth 100000
/-! DL1: programs over plain data, by a function of the text. -/
namespace DL
open PySem PySem.Spec PyProof.Rows L2

abbrev D := PyData
/-- how a list of one's own stands: given up to be data, still changed, or a caller's -/
inductive CS where
  | froz | live | arg
  deriving DecidableEq
structure Cell where
  st : CS
  ds : List D
/-- what an expression is worth: data, a list of one's own, a list that was just made -/
inductive SV where
  | dat (d : D) | own (k : Nat) | fre (ds : List D)
structure Exn where
  cls : Str
  flds : List (Str × D)
abbrev Rho := List (Option SV)
inductive R (α : Type) where
  | ok (a : α) (μ : List Cell)
  | exc (x : Exn) (μ : List Cell)
  | stuck
def R.bind {α β : Type} (r : R α) (f : α → List Cell → R β) : R β := match r with
  | .ok a μ => f a μ
  | .exc x μ => .exc x μ
  | .stuck => .stuck
def R.of {α : Type} (o : Option α) (μ : List Cell) : R α := match o with
  | some a => .ok a μ
  | none => .stuck
/-- a value as data, without giving anything up -/
def SV.look (μ : List Cell) : SV → Option D
  | .dat d => some d
  | .fre ds => some (.list ds)
  | .own k => match μ[k]? with
    | some c => some (.list c.ds)
    | none => none
def looks (μ : List Cell) : List SV → Option (List D)
  | [] => some []
  | v :: vs => match v.look μ, looks μ vs with
    | some d, some ds => some (d :: ds)
    | _, _ => none
/-- a list of one's own is given up -/
def froze (k : Nat) (μ : List Cell) : Option (List D × List Cell) := match μ[k]? with
  | some c => match c.st with
    | .arg => none
    | .live => some (c.ds, μ.set k ⟨.froz, c.ds⟩)
    | .froz => some (c.ds, μ)
  | none => none
/-- a value to be kept, as data -/
def SV.keep (μ : List Cell) : SV → R D
  | .dat d => .ok d μ
  | .fre ds => .ok (.list ds) μ
  | .own k => match froze k μ with
    | some (ds, μ') => .ok (.list ds) μ'
    | none => .stuck

/-! ### defs -/
inductive Arg where
  | dat (d : D) | own (ds : List D)
inductive Rv where
  | dat (d : D) | fre (ds : List D)
inductive Out where
  | ret (r : Rv) (cs : List (List D))
  | exc (x : Exn) (cs : List (List D))
abbrev Fn := List Arg → Option Out
structure Ce where
  name : Str
  arity : Nat
  sem : Fn
/-- an argument: data, a list of one's own that is lent, a list of one's own that is lent to be changed -/
inductive AV where
  | dat (d : D) | tmp (k : Nat) | own (k : Nat)
def AV.arg (μ : List Cell) : AV → Option Arg
  | .dat d => some (.dat d)
  | .tmp k => match μ[k]? with
    | some c => some (.dat (.list c.ds))
    | none => none
  | .own k => match μ[k]? with
    | some c => if c.st = .froz then none else some (.own c.ds)
    | none => none
def avArgs (μ : List Cell) : List AV → Option (List Arg)
  | [] => some []
  | v :: vs => match v.arg μ, avArgs μ vs with
    | some d, some ds => some (d :: ds)
    | _, _ => none
def owns : List AV → List Nat
  | [] => []
  | .own k :: r => k :: owns r
  | _ :: r => owns r
def tmps : List AV → List Nat
  | [] => []
  | .tmp k :: r => k :: tmps r
  | _ :: r => tmps r
/-- the lists that were lent to be changed, as they come back -/
def wback : List Nat → List (List D) → List Cell → List Cell
  | k :: ks, ds :: r, μ => wback ks r (match μ[k]? with
    | some c => μ.set k ⟨c.st, ds⟩
    | none => μ)
  | _, _, μ => μ
def frozes : List Nat → List Cell → Option (List Cell)
  | [], μ => some μ
  | k :: ks, μ => match froze k μ with
    | some (_, μ') => frozes ks μ'
    | none => none
mutual
/-- data in which no list stands -/
def noList : D → Bool
  | .none => true
  | .bool _ => true
  | .int _ => true
  | .str _ => true
  | .list _ => false
  | .dict _ => false
  | .tuple xs => noLists xs
def noLists : List D → Bool
  | [] => true
  | x :: xs => noList x && noLists xs
end
def Rv.noL : Rv → Bool
  | .dat d => noList d
  | .fre ds => noLists ds
def Rv.sv : Rv → SV
  | .dat d => .dat d
  | .fre ds => .fre ds
def disj (as bs : List Nat) : Bool := as.all fun a => !bs.contains a
def callR (c : Ce) (vs : List AV) (μ : List Cell) : R SV :=
  if (owns vs).Nodup ∧ disj (owns vs) (tmps vs) = true ∧ vs.length = c.arity then
    match avArgs μ vs with
    | none => .stuck
    | some as => match c.sem as with
      | none => .stuck
      | some (.ret r cs) => if cs.length = (owns vs).length then
          if (r.noL && cs.all noLists) = true then .ok r.sv (wback (owns vs) cs μ)
          else match frozes (tmps vs) (wback (owns vs) cs μ) with
            | some μ' => .ok r.sv μ'
            | none => .stuck
        else .stuck
      | some (.exc x cs) => if cs.length = (owns vs).length then
          if (noLists (x.flds.map (·.2)) && cs.all noLists) = true then .exc x (wback (owns vs) cs μ)
          else match frozes (tmps vs) (wback (owns vs) cs μ) with
            | some μ' => .exc x μ'
            | none => .stuck
        else .stuck
  else .stuck

/-! ### operators -/
def okMul (i j : Int) : Bool := decide (i.natAbs.log2 + j.natAbs.log2 < 1000000)
def okDiv (j : Int) : Bool := decide (0 < j) && decide (j.natAbs.log2 < 9000)
def okPow (i j : Int) : Bool := decide (0 ≤ j) && decide (j ≤ 1000000) && decide (i.natAbs < 2 ^ 64)
/-- a op b on data -/
def bin2 (o : Operator) (x y : D) : Option SV := match o, x, y with
  | .Add, .int i, .int j => some (.dat (.int (i + j)))
  | .Add, .list a, .list b => if a.length + b.length ≤ sizeLine then some (.fre (a ++ b)) else none
  | .Add, .tuple a, .tuple b => if a.length + b.length ≤ sizeLine then some (.dat (.tuple (a ++ b))) else none
  | .Add, .str a, .str b => if a.length + b.length ≤ sizeLine then some (.dat (.str (a ++ b))) else none
  | .Sub, .int i, .int j => some (.dat (.int (i - j)))
  | .Mult, .int i, .int j => if okMul i j = true then some (.dat (.int (i * j))) else none
  | .Mult, .list a, .int j => if decide (-(2 ^ 63) ≤ j) && decide (j < 2 ^ 63) && decide (a.length * j.toNat ≤ sizeLine) then some (.fre (List.replicate j.toNat a).flatten) else none
  | .Mult, .tuple a, .int j => if decide (a ≠ []) && decide (2 ≤ j) && decide (j ≤ 1000) && decide (a.length ≤ 1000) then some (.dat (.tuple (List.replicate j.toNat a).flatten)) else none
  | .FloorDiv, .int i, .int j => if okDiv j = true then some (.dat (.int (i / j))) else none
  | .Mod, .int i, .int j => if decide (0 < j) = true then some (.dat (.int (i % j))) else none
  | .Pow, .int i, .int j => if okPow i j = true then some (.dat (.int (i ^ j.toNat))) else none
  | _, _, _ => none

/-! ### comparisons, built-ins -/
def flatD : D → Bool
  | .none => true
  | .bool _ => true
  | .int _ => true
  | .str _ => true
  | _ => false
def memD (x : D) (ys : List D) : Bool := ys.any fun y => PyData.eqv y x
def isN : D → Bool
  | .none => true
  | _ => false
def cmp2 (o : CmpOp) (x y : D) : Option Bool := match o, x, y with
  | .Lt, .int i, .int j => some (decide (i < j))
  | .LtE, .int i, .int j => some (decide (i ≤ j))
  | .Gt, .int i, .int j => some (decide (j < i))
  | .GtE, .int i, .int j => some (decide (j ≤ i))
  | .Eq, .str x, .str y => some (decide (x = y))
  | .NotEq, .str x, .str y => some (!decide (x = y))
  | .Eq, x, y => if SeqAt.shaped x && SeqAt.shaped y then some (PyData.eqv x y) else none
  | .NotEq, x, y => if SeqAt.shaped x && SeqAt.shaped y then some (!PyData.eqv x y) else none
  | .Is, x, .none => some (isN x)
  | .IsNot, x, .none => some (!isN x)
  | .In, x, .list ys => if flatD x && ys.all flatD then some (memD x ys) else none
  | .In, x, .tuple ys => if flatD x && ys.all flatD then some (memD x ys) else none
  | .NotIn, x, .list ys => if flatD x && ys.all flatD then some (!memD x ys) else none
  | .NotIn, x, .tuple ys => if flatD x && ys.all flatD then some (!memD x ys) else none
  | _, _, _ => none
def tyD : D → String
  | .none => "NoneType"
  | .bool _ => "bool"
  | .int _ => "int"
  | .str _ => "str"
  | .list _ => "list"
  | .tuple _ => "tuple"
  | .dict _ => "dict"
/-- the built-in classes that a program asks for -/
inductive Ty where
  | int | bool | str | list | tuple | dict
  deriving DecidableEq
def Ty.nm : Ty → String
  | .int => "int"
  | .bool => "bool"
  | .str => "str"
  | .list => "list"
  | .tuple => "tuple"
  | .dict => "dict"
def isTy (d : D) (t : Ty) : Bool := match d, t with
  | .bool _, .bool => true
  | .bool _, .int => true
  | .int _, .int => true
  | .str _, .str => true
  | .list _, .list => true
  | .tuple _, .tuple => true
  | .dict _, .dict => true
  | _, _ => false
inductive Blt where
  | len | abs | min2 | max2 | int1 | list1 | tuple1 | all1 | any1 | sum1 | min1 | max1 | repr1
  deriving DecidableEq
def Blt.nm : Blt → String
  | .len => "len"
  | .abs => "abs"
  | .min2 => "min"
  | .max2 => "max"
  | .int1 => "int"
  | .list1 => "list"
  | .tuple1 => "tuple"
  | .all1 => "all"
  | .any1 => "any"
  | .sum1 => "sum"
  | .min1 => "min"
  | .max1 => "max"
  | .repr1 => "repr"
def toInts : List D → Option (List Int)
  | [] => some []
  | .int i :: r => (toInts r).map (i :: ·)
  | _ :: _ => none
def toBools : List D → Option (List Bool)
  | [] => some []
  | .bool b :: r => (toBools r).map (b :: ·)
  | _ :: _ => none
def leastI : Int → List Int → Int
  | m, [] => m
  | m, x :: r => leastI (if x < m then x else m) r
def mostI : Int → List Int → Int
  | m, [] => m
  | m, x :: r => mostI (if x > m then x else m) r
def bltD (b : Blt) (xs : List D) : Option SV := match b, xs with
  | .len, [.list a] => some (.dat (.int a.length))
  | .len, [.tuple a] => some (.dat (.int a.length))
  | .len, [.str a] => if a.length ≤ sizeLine then some (.dat (.int a.length)) else none
  | .abs, [.int i] => some (.dat (.int (if i < 0 then -i else i)))
  | .min2, [.int i, .int j] => some (.dat (.int (if j < i then j else i)))
  | .max2, [.int i, .int j] => some (.dat (.int (if j > i then j else i)))
  | .int1, [.int i] => some (.dat (.int i))
  | .list1, [.list a] => some (.fre a)
  | .list1, [.tuple a] => some (.fre a)
  | .tuple1, [.list a] => some (.dat (.tuple a))
  | .tuple1, [.tuple a] => some (.dat (.tuple a))
  | .all1, [.list a] => (toBools a).map fun bs => .dat (.bool (bs.all id))
  | .any1, [.list a] => (toBools a).map fun bs => .dat (.bool (bs.any id))
  | .sum1, [.list a] => (toInts a).map fun ns => .dat (.int ns.sum)
  | .min1, [.list a] => match toInts a with
    | some (n :: ns) => some (.dat (.int (leastI n ns)))
    | _ => none
  | .max1, [.list a] => match toInts a with
    | some (n :: ns) => some (.dat (.int (mostI n ns)))
    | _ => none
  | .repr1, [d] => if d.showable && !d.hasDict && decide (d.depth ≤ 64) && decide (d.shown.length ≤ 1000000) then some (.dat (.str d.shown)) else none
  | _, _ => none
/-- places in a list or a tuple -/
def idxD (x y : D) : Option D := match x, y with
  | .list a, .int i => atI a i
  | .tuple a, .int i => atI a i
  | _, _ => none
def cutD (x : D) (lo hi : Option Int) : Option SV := match x with
  | .list a => some (.fre ((a.drop (HT.sIx a.length 0 lo)).take (HT.sIx a.length a.length hi - HT.sIx a.length 0 lo)))
  | .tuple a => some (.dat (.tuple ((a.drop (HT.sIx a.length 0 lo)).take (HT.sIx a.length a.length hi - HT.sIx a.length 0 lo))))
  | _ => none

/-! ### the text -/
/-- a target: a name's place, a tuple of targets -/
inductive Tg where
  | nm (i : Nat) | nil | cons (a b : Tg)
structure TgF where
  one : D → Rho → Option Rho
  all : List D → Rho → Option Rho
def Tg.f : Tg → TgF
  | .nm i => ⟨fun d ρ => some (ρ.set i (some (.dat d))), fun _ _ => none⟩
  | .nil => ⟨fun d ρ => match d with
      | .tuple [] => some ρ
      | _ => none, fun ds ρ => match ds with
      | [] => some ρ
      | _ => none⟩
  | .cons a b => ⟨fun d ρ => match d with
      | .tuple (x :: ds) => match a.f.one x ρ with
        | some ρ' => b.f.all ds ρ'
        | none => none
      | _ => none, fun ds ρ => match ds with
      | x :: ds => match a.f.one x ρ with
        | some ρ' => b.f.all ds ρ'
        | none => none
      | [] => none⟩
inductive IR where
  | nil | cons (a b : IR)
  | var (i : Nat) | lend (i : Nat)
  | dct | lit (d : D) | glb (x : Str) (d : D)
  | bin (o : Operator) (a b : IR) | neg (a : IR) | nt (a : IR)
  | cmp (o : CmpOp) (a b : IR) | chn (o o' : CmpOp) (a b c : IR)
  | bop (o : BoolOp) (es : IR) | ife (c a b : IR)
  | tup (es : IR) | lst (es : IR)
  | idx (a b : IR) | sli (a lo hi : IR)
  | cal (j : Nat) (es : IR) | blt (b : Blt) (es : IR) | isi (a : IR) (ts : List Ty)
  | lc (vs : List (Str × Nat)) (tg : Tg) (it t e : IR)
  | lc2 (vs : List (Str × Nat)) (vs1 : List Nat) (tg : Tg) (it : IR) (tg' : Tg) (it' e : IR)
  | iSeq (e : IR) | iRng (es : IR) | iEnu (e : IR) | iZip (strict : Option Bool) (a b : IR)
  | pass | ret (e : IR) | retN | xpr (e : IR)
  | set (i : Nat) (e : IR) | setO (i : Nat) (e : IR) | par (ts : List (Nat × Bool)) (es : IR) | unp (tg : Tg) (e : IR)
  | aug (i : Nat) (o : Operator) (e : IR) | sti (i : Nat) (a e : IR) | app (i : Nat) (e : IR)
  | ifs (c a b : IR) | fo (tg : Tg) (it b : IR) | whl (c b : IR) | brk | ctn
  | rai (x : Str) (m : Str) | tryM (b hs : IR) | hdl (x : Str) (b : IR)

/-! ### what the text does -/
inductive RS where
  | nx (ρ : Rho) (μ : List Cell) | rt (v : SV) (μ : List Cell) | bk (ρ : Rho) (μ : List Cell) | ct (ρ : Rho) (μ : List Cell)
  | exc (x : Exn) (ρ : Rho) (μ : List Cell) | stuck
def RS.seq (r : RS) (f : Rho → List Cell → RS) : RS := match r with
  | .nx ρ μ => f ρ μ
  | r => r
def R.st {α : Type} (r : R α) (ρ : Rho) (f : α → List Cell → RS) : RS := match r with
  | .ok a μ => f a μ
  | .exc x μ => .exc x ρ μ
  | .stuck => .stuck
def asB : SV → List Cell → R Bool
  | .dat (.bool b), μ => .ok b μ
  | _, _ => .stuck
def asI : SV → List Cell → R Int
  | .dat (.int b), μ => .ok b μ
  | _, _ => .stuck
def lcR (asg : D → Rho → Option Rho) (tt : Rho → List Cell → R Bool) (te : Rho → List Cell → R (List D)) (ρ : Rho) : List D → List Cell → R (List D)
  | [], μ => .ok [] μ
  | d :: ds, μ => match asg d ρ with
    | none => .stuck
    | some ρ1 => (tt ρ1 μ).bind fun b μ1 => match b with
      | true => (te ρ1 μ1).bind fun y μ2 => (lcR asg tt te ρ ds μ2).bind fun ys μ3 => .ok (y ++ ys) μ3
      | false => lcR asg tt te ρ ds μ1
def R.noX {α : Type} (r : R α) : R α := match r with
  | .ok a μ => .ok a μ
  | _ => .stuck
def wipeR (ρ : Rho) : List Nat → Rho
  | [] => ρ
  | v :: vs => (wipeR ρ vs).set v none
def forR (asg : D → Rho → Option Rho) (b : Rho → List Cell → RS) : List D → Rho → List Cell → RS
  | [], ρ, μ => .nx ρ μ
  | d :: ds, ρ, μ => match asg d ρ with
    | none => .stuck
    | some ρ1 => match b ρ1 μ with
      | .nx ρ2 μ2 => forR asg b ds ρ2 μ2
      | .ct ρ2 μ2 => forR asg b ds ρ2 μ2
      | .bk ρ2 μ2 => .nx ρ2 μ2
      | r => r
def whileN (c : Rho → List Cell → R Bool) (b : Rho → List Cell → RS) : Nat → Rho → List Cell → RS
  | 0, _, _ => .stuck
  | n + 1, ρ, μ => (c ρ μ).st ρ fun k μ1 => match k with
    | true => match b ρ μ1 with
      | .nx ρ2 μ2 => whileN c b n ρ2 μ2
      | .ct ρ2 μ2 => whileN c b n ρ2 μ2
      | .bk ρ2 μ2 => .nx ρ2 μ2
      | r => r
    | false => .nx ρ μ1
open Classical in
noncomputable def whileR (c : Rho → List Cell → R Bool) (b : Rho → List Cell → RS) (ρ : Rho) (μ : List Cell) : RS :=
  if h : ∃ n, whileN c b n ρ μ ≠ .stuck then whileN c b (choose h) ρ μ else .stuck
def rangeD (lo : Int) : Nat → List D
  | 0 => []
  | n + 1 => .int lo :: rangeD (lo + 1) n
def rangeC (lo c : Int) : Nat → List D
  | 0 => []
  | n + 1 => .int lo :: rangeC (lo + c) c n
def smallI (i : Int) : Bool := decide (-(2 ^ 62) ≤ i) && decide (i < 2 ^ 62)
/-- the numbers of a range -/
def rngD (xs : List D) : Option (List D) := match xs with
  | [.int j] => if smallI j = true then some (rangeD 0 j.toNat) else none
  | [.int i, .int j] => if smallI i && smallI j then some (rangeD i (j - i).toNat) else none
  | [.int i, .int j, .int (-1)] => if smallI i && smallI j then some (rangeC i (-1) (i - j).toNat) else none
  | _ => none
def itemsD : D → Option (List D)
  | .list a => some a
  | .tuple a => some a
  | _ => none
def enuD (i : Nat) : List D → List D
  | [] => []
  | d :: r => .tuple [.int i, d] :: enuD (i + 1) r
def zipD : List D → List D → List D
  | x :: xs, y :: ys => .tuple [x, y] :: zipD xs ys
  | _, _ => []
/-- an assignment of several values, some to lists of one's own -/
def parS : List (Nat × Bool) → List SV → Rho → List Cell → RS
  | [], [], ρ, μ => .nx ρ μ
  | (i, false) :: ts, v :: vs, ρ, μ => (v.keep μ).st ρ fun d μ1 => parS ts vs (ρ.set i (some (.dat d))) μ1
  | (i, true) :: ts, .fre ds :: vs, ρ, μ => parS ts vs (ρ.set i (some (.own μ.length))) (μ ++ [⟨.live, ds⟩])
  | _, _, _, _ => .stuck
/-- x[i] = v of a list of one's own -/
def stiR (k : Nat) (i : Int) (d : D) (μ : List Cell) : Option (List Cell) := match μ[k]? with
  | some c => if c.st = .froz then none else match ixN c.ds.length i with
    | some j => some (μ.set k ⟨c.st, c.ds.set j d⟩)
    | none => none
  | none => none
def appR (k : Nat) (d : D) (μ : List Cell) : Option (List Cell) := match μ[k]? with
  | some c => if c.st = .froz then none else if c.ds.length < 10000000 then some (μ.set k ⟨c.st, c.ds ++ [d]⟩) else none
  | none => none
def hdlPick (sub : Str → Str → Bool) (x : Str) : List (Str × (Rho → List Cell → RS)) → Option (Rho → List Cell → RS)
  | [] => none
  | (c, h) :: r => if sub x c = true then some h else hdlPick sub x r
end DL

/-! DL2: what a text does, and how it fits the program's own text. -/
namespace DL
open PySem PySem.Spec PyProof.Rows L2
structure Ge where
  ces : List Ce
  con : List (Str × Int)
  exc : List Str
  sub : Str → Str → Bool
structure Den where
  e : Rho → List Cell → R SV
  av : Rho → List Cell → R AV
  o : Rho → List Cell → R (Option Int)
  b : Rho → List Cell → R (List SV)
  bc : BoolOp → Rho → List Cell → R SV
  k : Rho → List Cell → R (List D)
  a : Rho → List Cell → R (List AV)
  i : Rho → List Cell → R (List D)
  s : Rho → List Cell → RS
  h : List (Str × (Rho → List Cell → RS))
def Den.no : Den := ⟨fun _ _ => .stuck, fun _ _ => .stuck, fun _ _ => .stuck, fun _ _ => .stuck, fun _ _ _ => .stuck, fun _ _ => .stuck, fun _ _ => .stuck, fun _ _ => .stuck, fun _ _ => .stuck, []⟩
def avOf : SV → List Cell → R AV
  | .dat d, μ => .ok (.dat d) μ
  | .fre ds, μ => .ok (.dat (.list ds)) μ
  | .own k, μ => .ok (.tmp k) μ
def intO : SV → List Cell → R (Option Int)
  | .dat (.int i), μ => .ok (some i) μ
  | _, _ => .stuck
def Den.ofE (e : Rho → List Cell → R SV) : Den := { Den.no with e := e, av := fun ρ μ => (e ρ μ).bind avOf, o := fun ρ μ => (e ρ μ).bind intO }
def slot (ρ : Rho) (i : Nat) (μ : List Cell) : R SV := match ρ[i]? with
  | some (some v) => .ok v μ
  | _ => .stuck
def dB (b : Bool) (μ : List Cell) : R SV := .ok (.dat (.bool b)) μ
def look1 (v : SV) (μ : List Cell) : R D := R.of (v.look μ) μ
def boolTail (o : BoolOp) (c : Bool) : Bool := match o with
  | .And => c
  | .Or => !c
def keepA : SV → SV
  | .dat d => .dat d
  | .fre ds => .dat (.list ds)
  | .own k => .own k
/-- a value on its way into a name: given a place of its own, or kept -/
def toName : Bool → SV → List Cell → R SV
  | false, v, μ => .ok (keepA v) μ
  | true, .fre ds, μ => .ok (.own μ.length) (μ ++ [⟨.live, ds⟩])
  | true, _, _ => .stuck
/-- several values on their way into names -/
def parN : List Bool → List SV → List Cell → Rho → (List SV → List Cell → RS) → RS
  | [], [], μ, _, c => c [] μ
  | t :: ts, v :: vs, μ, ρ, c => (toName t v μ).st ρ fun w μ1 => parN ts vs μ1 ρ fun ws μ2 => c (w :: ws) μ2
  | _, _, _, _, _ => .stuck
def ownS (ρ : Rho) (i : Nat) : Option Nat := match ρ[i]? with
  | some (some (.own k)) => some k
  | _ => none
def sets : List Nat → List SV → Rho → Option Rho
  | [], [], ρ => some ρ
  | i :: is, v :: vs, ρ => sets is vs (ρ.set i (some v))
  | _, _, _ => none
def augD (o : Operator) (x y : D) : Option SV := match o, x, y with
  | .Add, .int i, .int j => some (.dat (.int (i + j)))
  | .Sub, .int i, .int j => some (.dat (.int (i - j)))
  | .FloorDiv, .int i, .int j => if okDiv j = true then some (.dat (.int (i / j))) else none
  | _, _, _ => none
def stiV (n : Int) (d : D) : SV → List Cell → R (List Cell)
  | .own k, μ => R.of (stiR k n d μ) μ
  | _, _ => .stuck
def appV (d : D) : SV → List Cell → R (List Cell)
  | .own k, μ => R.of (appR k d μ) μ
  | _, _ => .stuck
def testR (t : Rho → List Cell → R SV) (ρ : Rho) (μ : List Cell) : R Bool := (t ρ μ).bind asB
def RS.noX : RS → RS
  | .exc _ _ _ => .stuck
  | r => r
noncomputable def den (G : Ge) : IR → Den
  | .nil => { Den.no with o := fun _ μ => .ok none μ, b := fun _ μ => .ok [] μ, k := fun _ μ => .ok [] μ, a := fun _ μ => .ok [] μ, s := fun ρ μ => .nx ρ μ }
  | .cons x y => { Den.no with
      b := fun ρ μ => ((den G x).e ρ μ).bind fun v μ1 => ((den G y).b ρ μ1).bind fun vs μ2 => .ok (v :: vs) μ2
      bc := fun o ρ μ => match y with
        | .nil => (den G x).e ρ μ
        | _ => ((den G x).e ρ μ).bind fun v μ1 => (asB v μ1).bind fun c μ2 => match boolTail o c with
          | true => (den G y).bc o ρ μ2
          | false => .ok (.dat (.bool c)) μ2
      k := fun ρ μ => ((den G x).e ρ μ).bind fun v μ1 => (v.keep μ1).bind fun d μ2 => ((den G y).k ρ μ2).bind fun ds μ3 => .ok (d :: ds) μ3
      a := fun ρ μ => ((den G x).av ρ μ).bind fun v μ1 => ((den G y).a ρ μ1).bind fun vs μ2 => .ok (v :: vs) μ2
      s := fun ρ μ => ((den G x).s ρ μ).seq (den G y).s
      h := (den G x).h ++ (den G y).h }
  | .var i => Den.ofE fun ρ μ => slot ρ i μ
  | .lend i => { Den.no with av := fun ρ μ => (slot ρ i μ).bind fun v μ1 => match v with
      | .own k => .ok (.own k) μ1
      | _ => .stuck }
  | .lit d => Den.ofE fun _ μ => .ok (.dat d) μ
  | .dct => Den.ofE fun _ μ => .ok (.dat (.dict [])) μ
  | .glb _ d => Den.ofE fun _ μ => .ok (.dat d) μ
  | .bin o x y => Den.ofE fun ρ μ => ((den G x).e ρ μ).bind fun v μ1 => ((den G y).e ρ μ1).bind fun w μ2 => (look1 v μ2).bind fun a μ3 => (look1 w μ3).bind fun b μ4 => R.of (bin2 o a b) μ4
  | .neg x => Den.ofE fun ρ μ => ((den G x).e ρ μ).bind fun v μ1 => (asI v μ1).bind fun i μ2 => .ok (.dat (.int (-i))) μ2
  | .nt x => Den.ofE fun ρ μ => ((den G x).e ρ μ).bind fun v μ1 => (asB v μ1).bind fun c μ2 => dB (!c) μ2
  | .cmp o x y => Den.ofE fun ρ μ => ((den G x).e ρ μ).bind fun v μ1 => ((den G y).e ρ μ1).bind fun w μ2 => (look1 v μ2).bind fun a μ3 => (look1 w μ3).bind fun b μ4 => (R.of (cmp2 o a b) μ4).bind dB
  | .chn o o' x y z => Den.ofE fun ρ μ => ((den G x).e ρ μ).bind fun v μ1 => ((den G y).e ρ μ1).bind fun w μ2 => (look1 v μ2).bind fun a μ3 => (look1 w μ3).bind fun b μ4 => (R.of (cmp2 o a b) μ4).bind fun c μ5 => match c with
      | true => ((den G z).e ρ μ5).bind fun u μ6 => (look1 w μ6).bind fun b' μ7 => (look1 u μ7).bind fun d μ8 => (R.of (cmp2 o' b' d) μ8).bind dB
      | false => dB false μ5
  | .bop o es => Den.ofE ((den G es).bc o)
  | .ife c x y => Den.ofE fun ρ μ => (testR (den G c).e ρ μ).bind fun b μ1 => match b with
      | true => (den G x).e ρ μ1
      | false => (den G y).e ρ μ1
  | .tup es => Den.ofE fun ρ μ => ((den G es).k ρ μ).bind fun ds μ1 => .ok (.dat (.tuple ds)) μ1
  | .lst es => Den.ofE fun ρ μ => ((den G es).k ρ μ).bind fun ds μ1 => .ok (.fre ds) μ1
  | .idx x y => Den.ofE fun ρ μ => ((den G x).e ρ μ).bind fun v μ1 => ((den G y).e ρ μ1).bind fun w μ2 => (look1 v μ2).bind fun a μ3 => (look1 w μ3).bind fun b μ4 => (R.of (idxD a b) μ4).bind fun d μ5 => .ok (.dat d) μ5
  | .sli x lo hi => Den.ofE fun ρ μ => ((den G x).e ρ μ).bind fun v μ1 => ((den G lo).o ρ μ1).bind fun l μ2 => ((den G hi).o ρ μ2).bind fun h μ3 => (look1 v μ3).bind fun a μ4 => R.of (cutD a l h) μ4
  | .cal j es => Den.ofE fun ρ μ => match G.ces[j]? with
      | none => .stuck
      | some c => ((den G es).a ρ μ).bind fun vs μ1 => callR c vs μ1
  | .blt b es => Den.ofE fun ρ μ => ((den G es).b ρ μ).bind fun vs μ1 => (R.of (looks μ1 vs) μ1).bind fun ds μ2 => R.of (bltD b ds) μ2
  | .isi x ts => Den.ofE fun ρ μ => ((den G x).e ρ μ).bind fun v μ1 => (look1 v μ1).bind fun d μ2 => dB (ts.any (isTy d)) μ2
  | .lc vs tg it t e => Den.ofE fun ρ μ => ((den G it).i ρ μ).noX.bind fun ds μ1 =>
      if ds.length ≤ 10000000 then
        (lcR tg.f.one (fun ρ1 μ2 => match t with
          | .nil => .ok true μ2
          | _ => testR (den G t).e ρ1 μ2) (fun ρ1 μ2 => ((den G e).e ρ1 μ2).bind fun v μ3 => (v.keep μ3).bind fun d μ4 => .ok [d] μ4) (wipeR ρ (vs.map (·.2))) ds μ1).noX.bind fun ys μ2 => .ok (.fre ys) μ2
      else .stuck
  | .iSeq e => { Den.no with i := fun ρ μ => ((den G e).e ρ μ).bind fun v μ1 => (v.keep μ1).bind fun d μ2 => R.of (itemsD d) μ2 }
  | .iRng es => { Den.no with i := fun ρ μ => ((den G es).b ρ μ).bind fun vs μ1 => (R.of (looks μ1 vs) μ1).bind fun ds μ2 => R.of (rngD ds) μ2 }
  | .iEnu e => { Den.no with i := fun ρ μ => ((den G e).e ρ μ).bind fun v μ1 => (v.keep μ1).bind fun d μ2 => match d with
      | .list a => .ok (enuD 0 a) μ2
      | _ => .stuck }
  | .iZip st x y => { Den.no with i := fun ρ μ => ((den G x).e ρ μ).bind fun v μ1 => (v.keep μ1).bind fun d μ2 => ((den G y).e ρ μ2).bind fun w μ3 => (w.keep μ3).bind fun d' μ4 => (R.of (itemsD d) μ4).bind fun xs μ5 => (R.of (itemsD d') μ5).bind fun ys μ6 => if st = some true ∧ xs.length ≠ ys.length then .stuck else .ok (zipD xs ys) μ6 }
  | .pass => { Den.no with s := fun ρ μ => .nx ρ μ }
  | .ret e => { Den.no with s := fun ρ μ => ((den G e).e ρ μ).st ρ fun v μ1 => .rt v μ1 }
  | .retN => { Den.no with s := fun _ μ => .rt (.dat .none) μ }
  | .xpr e => { Den.no with s := fun ρ μ => ((den G e).e ρ μ).st ρ fun _ μ1 => .nx ρ μ1 }
  | .set i e => { Den.no with s := fun ρ μ => ((den G e).e ρ μ).st ρ fun v μ1 => .nx (ρ.set i (some (keepA v))) μ1 }
  | .setO i e => { Den.no with s := fun ρ μ => (((den G e).e ρ μ).bind (toName true)).st ρ fun v μ1 => .nx (ρ.set i (some v)) μ1 }
  | .par ts es => { Den.no with s := fun ρ μ => ((den G es).b ρ μ).st ρ fun vs μ1 => parN (ts.map (·.2)) vs μ1 ρ fun ws μ2 => match sets (ts.map (·.1)) ws ρ with
      | some ρ' => .nx ρ' μ2
      | none => .stuck }
  | .unp tg e => { Den.no with s := fun ρ μ => (((den G e).e ρ μ).bind fun v μ1 => v.keep μ1).st ρ fun d μ1 => match tg.f.one d ρ with
      | some ρ' => .nx ρ' μ1
      | none => .stuck }
  | .aug i o e => { Den.no with s := fun ρ μ => ((slot ρ i μ).bind fun v μ1 => (look1 v μ1).bind fun a μ2 => ((den G e).e ρ μ2).bind fun w μ3 => (look1 w μ3).bind fun b μ4 => R.of (augD o a b) μ4).st ρ fun v μ1 => .nx (ρ.set i (some v)) μ1 }
  | .sti i x e => { Den.no with s := fun ρ μ => (((den G e).e ρ μ).bind fun v μ1 => (v.keep μ1).bind fun d μ2 => (slot ρ i μ2).bind fun w μ3 => ((den G x).e ρ μ3).bind fun u μ4 => (asI u μ4).bind fun n μ5 => stiV n d w μ5).st ρ fun r _ => .nx ρ r }
  | .app i e => { Den.no with s := fun ρ μ => match ownS ρ i with
      | some k => (((den G e).e ρ μ).bind fun v μ1 => (v.keep μ1).bind fun d μ2 => R.of (appR k d μ2) μ2).st ρ fun r _ => .nx ρ r
      | none => .stuck }
  | .ifs c x y => { Den.no with s := fun ρ μ => (testR (den G c).e ρ μ).st ρ fun b μ1 => match b with
      | true => (den G x).s ρ μ1
      | false => (den G y).s ρ μ1 }
  | .fo tg it b => { Den.no with s := fun ρ μ => ((den G it).i ρ μ).st ρ fun ds μ1 => forR tg.f.one (den G b).s ds ρ μ1 }
  | .whl c b => { Den.no with s := whileR (testR (den G c).e) (den G b).s }
  | .brk => { Den.no with s := fun ρ μ => .bk ρ μ }
  | .ctn => { Den.no with s := fun ρ μ => .ct ρ μ }
  | .rai x _ => { Den.no with s := fun ρ μ => .exc ⟨x, []⟩ ρ μ }
  | .tryM b hs => { Den.no with s := fun ρ μ => match (den G b).s ρ μ with
      | .exc x ρ1 μ1 => if G.exc.contains x.cls = true then (match hdlPick G.sub x.cls (den G hs).h with
        | some h => (h ρ1 μ1).noX
        | none => .exc x ρ1 μ1) else .stuck
      | r => r }
  | .hdl x b => { Den.no with h := [(x, (den G b).s)] }
  | .lc2 vs vs1 tg it tg' it' e => Den.ofE fun ρ μ => ((den G it).i ρ μ).noX.bind fun ds μ1 =>
      (lcR tg.f.one (fun _ μ2 => .ok true μ2) (fun ρ1 μ2 => ((den G it').i ρ1 μ2).noX.bind fun ds' μ3 =>
        lcR tg'.f.one (fun _ μ4 => .ok true μ4) (fun ρ2 μ4 => ((den G e).e ρ2 μ4).bind fun v μ5 => (v.keep μ5).bind fun d μ6 => .ok [d] μ6) (wipeR ρ1 vs1) ds' μ3) (wipeR ρ (vs.map (·.2))) ds μ1).noX.bind fun ys μ2 => if ys.length ≤ 10000000 then .ok (.fre ys) μ2 else .stuck

/-! ### a def -/
def stR : List Arg → Nat → Rho
  | [], _ => []
  | .dat d :: r, n => some (.dat d) :: stR r n
  | .own _ :: r, n => some (.own n) :: stR r (n + 1)
def stC : List Arg → List Cell
  | [] => []
  | .dat _ :: r => stC r
  | .own ds :: r => ⟨.arg, ds⟩ :: stC r
def outC (n : Nat) (μ : List Cell) : List (List D) := (μ.take n).map (·.ds)
def retV (n : Nat) (μ : List Cell) : SV → Option Rv
  | .dat d => some (.dat d)
  | .fre ds => some (.fre ds)
  | .own k => if k < n then none else match μ[k]? with
    | some c => match c.st with
      | .live => some (.fre c.ds)
      | .froz => some (.dat (.list c.ds))
      | .arg => none
    | none => none
def argsSt (n : Nat) (μ : List Cell) : Bool := (μ.take n).all fun c => decide (c.st ≠ .froz)
def outOf (n : Nat) : RS → Option Out
  | .nx _ μ => if argsSt n μ then some (.ret (.dat .none) (outC n μ)) else none
  | .rt v μ => if argsSt n μ then (retV n μ v).map fun r => .ret r (outC n μ) else none
  | .exc x _ μ => if argsSt n μ then some (.exc x (outC n μ)) else none
  | _ => none
noncomputable def semOf (G : Ge) (body : IR) (slots : Nat) : Fn := fun as =>
  outOf (stC as).length ((den G body).s (stR as 0 ++ List.replicate (slots - as.length) none) (stC as))
end DL

/-! DL3: a text against the program's own syntax. -/
namespace DL
open PySem PySem.Spec PyProof.Rows L2
def visB (sc : Scope) (x : Str) : Bool := match sc.names.lookup x with
  | some .local => true
  | some .cell => true
  | some .free => true
  | _ => false
def locB (sc : Scope) (x : Str) : Bool := match sc.names.lookup x with
  | some .local => true
  | some .cell => true
  | _ => false
def lclB (sc : Scope) (x : Str) : Bool := match sc.names.lookup x with
  | some .local => true
  | _ => false
def glB (sc : Scope) (x : Str) : Bool := match sc.names.lookup x with
  | some .globalImplicit => true
  | _ => false
def okName (x : Str) : Bool := !(x == "__debug__") && !(x == "__classdict__") && decide (x ≠ "__name__")
def litB : D → Const → Bool
  | .none, .none => true
  | .bool a, .bool b => decide (a = b)
  | .int i, .int j => decide (i = j)
  | .str x, .str y => decide (x = y)
  | _, _ => false
def notSlice : Expr → Bool
  | .Slice _ _ _ _ => false
  | _ => true
def notSet : Expr → Bool
  | .Set _ _ _ => false
  | _ => true
def isComp : Expr → Bool
  | .ListComp _ _ _ _ => true
  | .SetComp _ _ _ _ => true
  | .DictComp _ _ _ _ _ => true
  | _ => false
def noMarks (o : CmpOp) (b : Expr) : Bool := !behindInMarks o b
/-- what the model does with the names of a tuple's stores -/
def swpO (sc : Scope) (ts vs : List Expr) : Option (Option (List Str)) :=
  if !(ts.length == 2 || ts.length == 3) || vs.length != ts.length then some none else
  if (vs.any fun | .Starred .. => true | _ => false) then some none else
  let line := (ts.head?.map (·.pos.line)).getD 0
  let names := ts.filterMap fun
    | .Name id pos => if sc.names.lookup id == some .local && pos.line == line then some id else none
    | _ => none
  if names.length != ts.length || names.eraseDups.length != names.length then some none else
  if vs.all (foldedForSure 8) then some none else
  if vs.all (constantsAlone 8) then none else some (some names)
/-- a name = a comprehension: how the model stores it -/
def compSet (sc : Scope) (x : Str) (px : Pos) : Expr → Bool
  | .ListComp _ _ scope pos => lclB sc x && (px.line == pos.line) && !(scope.names.any fun (n, k) => n == x && (k == .local || k == .cell))
  | e => !isComp e
structure Mt where
  e : Scope → Expr → Bool
  a : Scope → Expr → Bool
  es : Scope → List Expr → Bool
  as : Scope → List Expr → Bool
  o : Scope → Option Expr → Bool
  i : Scope → Expr → Expr → Bool
  s : Scope → Stmt → Bool
  ss : Scope → List Stmt → Bool
  hs : Scope → List ExceptHandler → Bool
def Mt.no : Mt := ⟨fun _ _ => false, fun _ _ => false, fun _ _ => false, fun _ _ => false, fun _ _ => false, fun _ _ _ => false, fun _ _ => false, fun _ _ => false, fun _ _ => false⟩
def Mt.ofE (e : Scope → Expr → Bool) : Mt := { Mt.no with
  e := e
  a := e
  o := fun sc x => match x with
    | some y => e sc y
    | none => false }
structure TgM where
  one : Scope → Expr → Bool
  all : Scope → List Expr → Bool
def tgm (N : List Str) : Tg → TgM
  | .nm i => ⟨fun sc x => match x with
      | .Name n _ => decide (N[i]? = some n) && locB sc n
      | _ => false, fun _ _ => false⟩
  | .nil => ⟨fun _ x => match x with
      | .Tuple [] _ _ => true
      | _ => false, fun _ x => match x with
      | [] => true
      | _ => false⟩
  | .cons a b => ⟨fun sc x => match x with
      | .Tuple (y :: ys) _ _ => (tgm N a).one sc y && (tgm N b).all sc ys
      | _ => false, fun sc x => match x with
      | y :: ys => (tgm N a).one sc y && (tgm N b).all sc ys
      | _ => false⟩
/-- what an except suite may hold -/
def IR.hot : IR → Bool
  | .nil => true
  | .cons x y => x.hot && y.hot
  | .lit _ => true
  | .var _ => true
  | .pass => true
  | .ret e => e.hot
  | .retN => true
  | .set _ e => e.hot
  | .brk => true
  | .ctn => true
  | _ => false
def Tg.vars : Tg → List Nat
  | .nm i => [i]
  | .nil => []
  | .cons a b => a.vars ++ b.vars
def parT (N : List Str) (sc : Scope) : List Nat → List Expr → Bool
  | [], [] => true
  | i :: is, .Name n _ :: es => decide (N[i]? = some n) && locB sc n && parT N sc is es
  | _, _ => false
def tyNm (sc : Scope) (t : Ty) : Expr → Bool
  | .Name n _ => decide (n = Str.ofString t.nm) && glB sc n
  | _ => false
def tyNms (sc : Scope) : List Ty → List Expr → Bool
  | [], [] => true
  | t :: ts, e :: es => tyNm sc t e && tyNms sc ts es
  | _, _ => false
def tyEx (sc : Scope) (ts : List Ty) (e : Expr) : Bool := match ts, e with
  | [t], .Name n p => tyNm sc t (.Name n p)
  | ts, .Tuple es _ _ => tyNms sc ts es && decide (ts.length ≤ 100)
  | _, _ => false
def mt (G : Ge) (N : List Str) : IR → Mt
  | .nil => { Mt.no with
      es := fun _ l => match l with
        | [] => true
        | _ => false
      as := fun _ l => match l with
        | [] => true
        | _ => false
      o := fun _ x => match x with
        | none => true
        | _ => false
      ss := fun _ l => match l with
        | [] => true
        | _ => false
      hs := fun _ l => match l with
        | [] => true
        | _ => false }
  | .cons x y => { Mt.no with
      es := fun sc l => match l with
        | e :: r => (mt G N x).e sc e && (mt G N y).es sc r
        | _ => false
      as := fun sc l => match l with
        | e :: r => (mt G N x).a sc e && (mt G N y).as sc r
        | _ => false
      ss := fun sc l => match l with
        | e :: r => (mt G N x).s sc e && (mt G N y).ss sc r
        | _ => false
      hs := fun sc l => match l with
        | e :: r => (mt G N x).hs sc [e] && (mt G N y).hs sc r
        | _ => false }
  | .var i => Mt.ofE fun sc e => match e with
      | .Name n _ => decide (N[i]? = some n) && visB sc n && okName n
      | _ => false
  | .lend i => { Mt.no with a := fun sc e => match e with
      | .Name n _ => decide (N[i]? = some n) && visB sc n && okName n
      | _ => false }
  | .dct => Mt.ofE fun _ e => match e with
      | .Dict [] [] _ => true
      | _ => false
  | .lit d => Mt.ofE fun _ e => match e with
      | .Constant c _ _ => litB d c
      | _ => false
  | .glb x d => Mt.ofE fun sc e => match e, d with
      | .Name n _, .int i => decide (n = x) && glB sc n && okName n && decide ((x, i) ∈ G.con)
      | _, _ => false
  | .bin o x y => Mt.ofE fun sc e => match e with
      | .BinOp l p r _ => decide (o = p) && (mt G N x).e sc l && (mt G N y).e sc r
      | _ => false
  | .neg x => Mt.ofE fun sc e => match e with
      | .UnaryOp .USub l _ => (mt G N x).e sc l
      | _ => false
  | .nt x => Mt.ofE fun sc e => match e with
      | .UnaryOp .Not l _ => (mt G N x).e sc l
      | _ => false
  | .cmp o x y => Mt.ofE fun sc e => match e with
      | .Compare l [p] [r] _ => decide (o = p) && (mt G N x).e sc l && (mt G N y).e sc r && noMarks o r
      | _ => false
  | .chn o o' x y z => Mt.ofE fun sc e => match e with
      | .Compare l [p, p'] [r, r'] _ => decide (o = p) && decide (o' = p') && (mt G N x).e sc l && (mt G N y).e sc r && (mt G N z).e sc r' && noMarks o r && noMarks o' r'
      | _ => false
  | .bop o es => Mt.ofE fun sc e => match e with
      | .BoolOp p (l :: ls) _ => decide (o = p) && (mt G N es).es sc (l :: ls)
      | _ => false
  | .ife c x y => Mt.ofE fun sc e => match e with
      | .IfExp t l r _ => (mt G N c).e sc t && (mt G N x).e sc l && (mt G N y).e sc r
      | _ => false
  | .tup es => Mt.ofE fun sc e => match e with
      | .Tuple l _ _ => (mt G N es).es sc l && decide (l.length ≤ 10000000)
      | _ => false
  | .lst es => Mt.ofE fun sc e => match e with
      | .List l _ => (mt G N es).es sc l && decide (l.length ≤ 10000000)
      | _ => false
  | .idx x y => Mt.ofE fun sc e => match e with
      | .Subscript l r _ => (mt G N x).e sc l && (mt G N y).e sc r && notSlice r
      | _ => false
  | .sli x lo hi => Mt.ofE fun sc e => match e with
      | .Subscript l (.Slice a b none _) _ => (mt G N x).e sc l && (mt G N lo).o sc a && (mt G N hi).o sc b
      | _ => false
  | .cal j es => Mt.ofE fun sc e => match e with
      | .Call (.Name n _) (l :: ls) [] _ => (match G.ces[j]? with
          | some c => decide (c.name = n)
          | none => false) && glB sc n && okName n && (mt G N es).as sc (l :: ls)
      | _ => false
  | .blt b es => Mt.ofE fun sc e => match e with
      | .Call (.Name n _) (l :: ls) [] _ => decide (n = Str.ofString b.nm) && glB sc n && (mt G N es).es sc (l :: ls)
      | _ => false
  | .isi x ts => Mt.ofE fun sc e => match e with
      | .Call (.Name n _) [l, t] [] _ => decide (n = "isinstance") && glB sc n && (mt G N x).e sc l && tyEx sc ts t
      | _ => false
  | .lc vs tg it t e => Mt.ofE fun sc x => match x with
      | .ListComp elt [⟨tg', it', ifs', 0⟩] scope _ => (tgm N tg).one scope tg' && (mt G N it).i sc tg' it' && (mt G N e).e scope elt && blkC N sc scope vs && (tg.vars.all fun i => (vs.map (·.2)).contains i) && (match t, ifs' with
          | .nil, [] => true
          | .nil, _ => false
          | _, [c] => (mt G N t).e scope c
          | _, _ => false)
      | _ => false
  | .lc2 _ _ _ _ _ _ _ => Mt.no
  | .iSeq e => { Mt.no with i := fun sc _ x => (mt G N e).e sc x && notSet x }
  | .iRng es => { Mt.no with i := fun sc _ x => match x with
      | .Call (.Name n _) (l :: ls) [] _ => decide (n = "range") && glB sc n && decide (ls.length ≤ 2) && (mt G N es).es sc (l :: ls)
      | _ => false }
  | .iEnu e => { Mt.no with i := fun sc t x => match t, x with
      | .Tuple _ _ _, .Call (.Name n _) [l] [] _ => decide (n = "enumerate") && glB sc n && (mt G N e).e sc l
      | _, _ => false }
  | .iZip st x y => { Mt.no with i := fun sc t z => match t, z with
      | .Tuple _ _ _, .Call (.Name n _) [l, r] ks _ => decide (n = "zip") && glB sc n && (mt G N x).e sc l && (mt G N y).e sc r && (match st, ks with
          | none, [] => true
          | _, _ => false)
      | _, _ => false }
  | .pass => { Mt.no with s := fun _ x => match x with
      | .Pass _ => true
      | .Expr (.Constant (.str _) _ _) _ => true
      | _ => false }
  | .ret e => { Mt.no with s := fun sc x => match x with
      | .Return (some v) _ => (mt G N e).e sc v
      | _ => false }
  | .retN => { Mt.no with s := fun _ x => match x with
      | .Return none _ => true
      | _ => false }
  | .xpr e => { Mt.no with s := fun sc x => match x with
      | .Expr v _ => (mt G N e).e sc v && !isComp v
      | _ => false }
  | .set i e => { Mt.no with s := fun sc x => match x with
      | .Assign [.Name n p] v _ => decide (N[i]? = some n) && locB sc n && (mt G N e).e sc v && compSet sc n p v
      | _ => false }
  | .setO i e => { Mt.no with s := fun sc x => match x with
      | .Assign [.Name n p] v _ => decide (N[i]? = some n) && locB sc n && (mt G N e).e sc v && compSet sc n p v
      | _ => false }
  | .par ts es => { Mt.no with s := fun sc x => match x with
      | .Assign [.Tuple l _ _] (.Tuple r _ _) _ => parT N sc (ts.map (·.1)) l && (mt G N es).es sc r && decide (r.length = l.length) && decide (r.length ≤ 1000) && decide ((ts.map (·.1)).Nodup) && (match swpO sc l r with
          | none => false
          | some _ => true)
      | _ => false }
  | .unp tg e => { Mt.no with s := fun sc x => match x with
      | .Assign [t] v _ => (tgm N tg).one sc t && (mt G N e).e sc v && (match t, v with
          | .Tuple _ _ _, .Tuple _ _ _ => false
          | .Tuple _ _ _, _ => !isComp v
          | _, _ => false)
      | _ => false }
  | .aug _ _ _ => Mt.no
  | .sti i a e => { Mt.no with s := fun sc x => match x with
      | .Assign [.Subscript (.Name n _) s _] v _ => decide (N[i]? = some n) && visB sc n && okName n && (mt G N a).e sc s && notSlice s && (mt G N e).e sc v && !isComp v
      | _ => false }
  | .app i e => { Mt.no with s := fun sc x => match x with
      | .Expr (.Call (.Attribute (.Name n _) m ap) [v] [] cp) _ => decide (N[i]? = some n) && visB sc n && okName n && decide (m = "append") && (mt G N e).e sc v && (ap.endLine == cp.line)
      | _ => false }
  | .ifs c a b => { Mt.no with s := fun sc x => match x with
      | .If t l r _ => (mt G N c).e sc t && (mt G N a).ss sc l && (mt G N b).ss sc r
      | _ => false }
  | .fo tg it b => { Mt.no with s := fun sc x => match x with
      | .For t v l [] _ => (tgm N tg).one sc t && (mt G N it).i sc t v && (mt G N b).ss sc l
      | _ => false }
  | .whl c b => { Mt.no with s := fun sc x => match x with
      | .While t l [] _ => (mt G N c).e sc t && (mt G N b).ss sc l
      | _ => false }
  | .brk => { Mt.no with s := fun _ x => match x with
      | .Break _ => true
      | _ => false }
  | .ctn => { Mt.no with s := fun _ x => match x with
      | .Continue _ => true
      | _ => false }
  | .rai c m => { Mt.no with s := fun sc x => match x with
      | .Raise (some (.Call (.Name n _) [.Constant (.str y) _ _] [] _)) none _ => decide (n = c) && decide (n ∈ G.exc) && glB sc n && okName n && decide (y = m)
      | _ => false }
  | .tryM b hs => { Mt.no with s := fun sc x => match x with
      | .Try l (h :: r) [] [] _ => (mt G N b).ss sc l && (mt G N hs).hs sc (h :: r)
      | _ => false }
  | .hdl c b => { Mt.no with hs := fun sc l => match l with
      | [.ExceptHandler (some (.Name n _)) none (s :: r) _] => decide (n = c) && decide (n ∈ G.exc) && glB sc n && okName n && b.hot && (mt G N b).ss sc (s :: r)
      | _ => false }
end DL

set_option maxHeartbeats 1000000
/-! DL4: how data lies in the heap, and what a reading keeps. -/
namespace DL
open PySem PySem.Spec PyProof.Rows L2
abbrev St := L2.St
mutual
/-- data as it lies in the heap: its lists and tuples are tracked -/
inductive Dt (H : Hp) : V → D → Prop
  | non : Dt H .non .none
  | bl (b : Bool) : Dt H (.bl b) (.bool b)
  | int (i : Int) : Dt H (.int i) (.int i)
  | str (x : Str) : Dt H (.str x) (.str x)
  | lst {a : Addr} {xs : List V} {ds : List D} : Rd H a (.lst xs) → DtAll H xs ds → Dt H (.ref a) (.list ds)
  | tup {a : Addr} {xs : List V} {ds : List D} : Rd H a (.tup xs) → DtAll H xs ds → Dt H (.ref a) (.tuple ds)
  | dct {a : Addr} : H a = some (.dK []) → Dt H (.ref a) (.dict [])
inductive DtAll (H : Hp) : List V → List D → Prop
  | nil : DtAll H [] []
  | cons {v : V} {vs : List V} {d : D} {ds : List D} : Dt H v d → DtAll H vs ds → DtAll H (v :: vs) (d :: ds)
end
theorem Same.rd {H H' : Hp} {a : Addr} {u : HO} (e : Same H H') (h : Rd H a u) : Rd H' a u := by
  rcases h with h | ⟨o, h⟩
  · exact .inl (e _ _ h)
  · exact .inr ⟨o, e _ _ h⟩
mutual
theorem Dt.dp {K : PySem.W.Frag} {H : Hp} : ∀ {d : D} {v : V}, d.hasDict = false → Dt H v d → Dp K H v d
  | .none, _, _, h => by
    cases h
    exact .non
  | .bool b, _, _, h => by
    cases h
    exact .bl b
  | .int i, _, _, h => by
    cases h
    exact .int i
  | .str x, _, _, h => by
    cases h
    exact .str x
  | .list ds, _, n, h => by
    cases h with
    | lst hs ha => exact .lst (.inl hs) (DtAll.dp (by simpa [PyData.hasDict] using n) ha)
  | .tuple ds, _, n, h => by
    cases h with
    | tup hs ha => exact .tup (.inl hs) (DtAll.dp (by simpa [PyData.hasDict] using n) ha)
  | .dict _, _, n, h => by simp [PyData.hasDict] at n
theorem DtAll.dp {K : PySem.W.Frag} {H : Hp} : ∀ {ds : List D} {vs : List V}, PyData.hasDictAll ds = false → DtAll H vs ds → DpAll K H vs ds
  | [], _, _, h => by
    cases h
    exact .nil
  | d :: ds, _, n, h => by
    simp only [PyData.hasDictAll, Bool.or_eq_false_iff] at n
    cases h with
    | cons h1 h2 => exact .cons (Dt.dp n.1 h1) (DtAll.dp n.2 h2)
end
section
variable {F F' H H' : Hp}
mutual
theorem Dt.mono (e : Same F F') : ∀ {d : D} {v : V}, Dt F v d → Dt F' v d
  | .none, _, h => by
    cases h
    exact .non
  | .bool b, _, h => by
    cases h
    exact .bl b
  | .int i, _, h => by
    cases h
    exact .int i
  | .str x, _, h => by
    cases h
    exact .str x
  | .list ds, _, h => by
    cases h with
    | lst hs ha => exact .lst (Same.rd e hs) (DtAll.mono e ha)
  | .tuple ds, _, h => by
    cases h with
    | tup hs ha => exact .tup (Same.rd e hs) (DtAll.mono e ha)
  | .dict _, _, h => by
    cases h with
    | dct h => exact .dct (e _ _ h)
theorem DtAll.mono (e : Same F F') : ∀ {ds : List D} {vs : List V}, DtAll F vs ds → DtAll F' vs ds
  | [], _, h => by
    cases h
    exact .nil
  | d :: ds, _, h => by
    cases h with
    | cons h1 h2 => exact .cons (Dt.mono e h1) (DtAll.mono e h2)
end
theorem DtAll.length : ∀ {ds : List D} {vs : List V}, DtAll F vs ds → vs.length = ds.length
  | [], _, h => by
    cases h
    rfl
  | d :: ds, _, h => by
    cases h with
    | cons h1 h2 => simp [DtAll.length h2]
theorem DtAll.get : ∀ {ds : List D} {vs : List V} {i : Nat} {d : D}, DtAll F vs ds → ds[i]? = some d → ∃ v, vs[i]? = some v ∧ Dt F v d
  | [], _, _, _, h, e => by simp at e
  | d :: ds, _, 0, _, h, e => by
    cases h with
    | cons h1 h2 =>
      simp at e
      subst e
      exact ⟨_, rfl, h1⟩
  | d :: ds, _, i + 1, _, h, e => by
    cases h with
    | cons h1 h2 => exact DtAll.get (i := i) h2 (by simpa using e)
theorem DtAll.getV : ∀ {ds : List D} {vs : List V} {i : Nat} {v : V}, DtAll F vs ds → vs[i]? = some v → ∃ d, ds[i]? = some d ∧ Dt F v d := fun {ds vs i v} h e => by
  have hi : i < ds.length := by
    rw [← DtAll.length h]
    exact (List.getElem?_eq_some_iff.mp e).1
  obtain ⟨v', e', q⟩ := DtAll.get (i := i) (d := ds[i]) h (by simp [hi])
  rw [e] at e'
  cases e'
  exact ⟨_, by simp [hi], q⟩
theorem DtAll.append : ∀ {ds es : List D} {vs ws : List V}, DtAll F vs ds → DtAll F ws es → DtAll F (vs ++ ws) (ds ++ es)
  | [], _, _, _, h, g => by
    cases h
    exact g
  | d :: ds, _, _, _, h, g => by
    cases h with
    | cons h1 h2 => exact .cons h1 (DtAll.append h2 g)
theorem DtAll.set {d : D} {v : V} (q : Dt F v d) : ∀ {ds : List D} {vs : List V} (i : Nat), DtAll F vs ds → DtAll F (vs.set i v) (ds.set i d)
  | [], _, _, h => by
    cases h
    exact .nil
  | _ :: _, _, 0, h => by
    cases h with
    | cons h1 h2 => exact .cons q h2
  | _ :: _, _, i + 1, h => by
    cases h with
    | cons h1 h2 => exact .cons h1 (DtAll.set q i h2)
theorem DtAll.drop : ∀ {ds : List D} {vs : List V} (n : Nat), DtAll F vs ds → DtAll F (vs.drop n) (ds.drop n)
  | _, _, 0, h => h
  | [], _, _ + 1, h => by
    cases h
    exact .nil
  | _ :: _, _, n + 1, h => by
    cases h with
    | cons h1 h2 => exact DtAll.drop n h2
theorem DtAll.take : ∀ {ds : List D} {vs : List V} (n : Nat), DtAll F vs ds → DtAll F (vs.take n) (ds.take n)
  | _, _, 0, _ => .nil
  | [], _, _ + 1, h => by
    cases h
    exact .nil
  | _ :: _, _, n + 1, h => by
    cases h with
    | cons h1 h2 => exact .cons h1 (DtAll.take n h2)
theorem DtAll.rep {ds : List D} {vs : List V} (h : DtAll F vs ds) : ∀ n : Nat, DtAll F (List.replicate n vs).flatten (List.replicate n ds).flatten
  | 0 => .nil
  | n + 1 => by
    rw [List.replicate_succ, List.replicate_succ, List.flatten_cons, List.flatten_cons]
    exact DtAll.append h (DtAll.rep h n)
/-- data in which no list stands leans on tuples alone -/
def TupSub (F F' : Hp) : Prop := ∀ a xs, Rd F a (.tup xs) → Rd F' a (.tup xs)
mutual
theorem Dt.noL (e : TupSub F F') : ∀ {d : D} {v : V}, noList d = true → Dt F v d → Dt F' v d
  | .none, _, _, h => by
    cases h
    exact .non
  | .bool b, _, _, h => by
    cases h
    exact .bl b
  | .int i, _, _, h => by
    cases h
    exact .int i
  | .str x, _, _, h => by
    cases h
    exact .str x
  | .list ds, _, n, h => by simp [noList] at n
  | .tuple ds, _, n, h => by
    cases h with
    | tup hs ha =>
      exact .tup (e _ _ hs) (DtAll.noL e (by simpa [noList] using n) ha)
  | .dict _, _, n, h => by simp [noList] at n
theorem DtAll.noL (e : TupSub F F') : ∀ {ds : List D} {vs : List V}, noLists ds = true → DtAll F vs ds → DtAll F' vs ds
  | [], _, _, h => by
    cases h
    exact .nil
  | d :: ds, _, n, h => by
    simp only [noLists, Bool.and_eq_true] at n
    cases h with
    | cons h1 h2 => exact .cons (Dt.noL e n.1 h1) (DtAll.noL e n.2 h2)
end
end

/-! ### the state of a def -/
def CellOk (H F : Hp) (a : Addr) (c : Cell) : Prop := ∃ vs, H a = some (.lst vs) ∧ DtAll F vs c.ds ∧ (c.st = .froz → F a = some (.lst vs)) ∧ (c.st ≠ .froz → F a = none)
def SlotOk (F : Hp) (ι : List Addr) (v : V) : SV → Prop
  | .dat d => Dt F v d
  | .own k => ∃ a, ι[k]? = some a ∧ v = .ref a
  | .fre _ => False
structure Sat (ρ : Rho) (μ : List Cell) (σ : St) (H F : Hp) (ι : List Addr) : Prop where
  sub : Same F H
  len : ι.length = μ.length
  nod : ι.Nodup
  cell : ∀ (k : Nat) (a : Addr) (c : Cell), ι[k]? = some a → μ[k]? = some c → CellOk H F a c
  slen : ρ.length = σ.length
  slot : ∀ (i : Nat) (sv : SV), ρ[i]? = some (some sv) → ∃ v, σ[i]? = some (some v) ∧ SlotOk F ι v sv
/-- what goes on leaves what was, but the lists of one's own -/
structure Ext (ι : List Addr) (F H F' H' : Hp) : Prop where
  fs : Same F F'
  hs : ∀ b o, H b = some o → b ∉ ι → H' b = some o
  ht : ∀ b, H' b = none → H b = none
  new : ∀ b o, F' b = some o → F b = some o ∨ H b = none ∨ b ∈ ι
/-- a value as an expression leaves it -/
def VRep (F H : Hp) (ι : List Addr) (v : V) : SV → Prop
  | .dat d => Dt F v d
  | .own k => ∃ a, ι[k]? = some a ∧ v = .ref a
  | .fre ds => ∃ p vs, v = .ref p ∧ H p = some (.lst vs) ∧ F p = none ∧ p ∉ ι ∧ DtAll F vs ds
def NewV (H : Hp) (v : V) : SV → Prop
  | .fre _ => ∀ p, v = .ref p → H p = none
  | _ => True
section
variable {ρ : Rho} {μ μ' : List Cell} {σ : St} {H H' H'' F F' F'' : Hp} {ι : List Addr} {v : V} {sv : SV}
theorem Ext.refl : Ext ι F H F H := ⟨Same.refl F, fun _ _ h _ => h, fun _ h => h, fun _ _ h => .inl h⟩
theorem Ext.trans (a : Ext ι F H F' H') (b : Ext ι F' H' F'' H'') : Ext ι F H F'' H'' where
  fs := a.fs.trans b.fs
  hs := fun c o h n => b.hs c o (a.hs c o h n) n
  ht := fun c h => a.ht c (b.ht c h)
  new := fun c o h => by
    rcases b.new c o h with h | h | h
    · exact a.new c o h
    · exact .inr (.inl (a.ht c h))
    · exact .inr (.inr h)
theorem Sat.inH (S : Sat ρ μ σ H F ι) {a : Addr} (h : a ∈ ι) : ∃ vs, H a = some (.lst vs) := by
  obtain ⟨k, hk, e⟩ := List.getElem_of_mem h
  have hm : k < μ.length := by
    rw [← S.len]
    exact hk
  obtain ⟨vs, q, _⟩ := S.cell k a μ[k] (by simp [hk, e]) (by simp [hm])
  exact ⟨vs, q⟩
theorem Sat.get (S : Sat ρ μ σ H F ι) {k : Nat} {c : Cell} (h : μ[k]? = some c) : ∃ a, ι[k]? = some a ∧ CellOk H F a c := by
  have hm : k < ι.length := by
    rw [S.len]
    exact (List.getElem?_eq_some_iff.mp h).1
  exact ⟨ι[k], by simp [hm], S.cell k _ c (by simp [hm]) h⟩
theorem Sat.notIn (S : Sat ρ μ σ H F ι) {a : Addr} (h : H a = none) : a ∉ ι := fun m => by
  obtain ⟨vs, q⟩ := S.inH m
  rw [h] at q
  cases q
theorem ix_inj {ι : List Addr} (n : ι.Nodup) {i j : Nat} {a : Addr} (h : ι[i]? = some a) (g : ι[j]? = some a) : i = j := by
  obtain ⟨h1, e1⟩ := List.getElem?_eq_some_iff.mp h
  obtain ⟨h2, e2⟩ := List.getElem?_eq_some_iff.mp g
  exact (List.getElem_inj n).mp (e1.trans e2.symm)
/-- a held value stands through what goes on -/
theorem VRep.mono (S : Sat ρ μ σ H F ι) (e : Ext ι F H F' H') (r : VRep F H ι v sv) : VRep F' H' ι v sv := by
  cases sv with
  | dat d => exact Dt.mono e.fs r
  | own k => exact r
  | fre ds =>
    obtain ⟨p, vs, rfl, h, n, m, a⟩ := r
    refine ⟨p, vs, rfl, e.hs p _ h m, ?_, m, DtAll.mono e.fs a⟩
    cases q : F' p with
    | none => rfl
    | some o =>
      rcases e.new p o q with z | z | z
      · rw [n] at z
        cases z
      · rw [h] at z
        cases z
      · exact absurd z m
/-- a value that is borrowed: data of F, or a list whose items are -/
def BV (F H : Hp) (v : V) (d : D) : Prop := Dt F v d ∨ ∃ (p : Addr) (vs : List V) (ds : List D), v = .ref p ∧ d = .list ds ∧ H p = some (.lst vs) ∧ DtAll F vs ds
theorem VRep.look (S : Sat ρ μ σ H F ι) (r : VRep F H ι v sv) {d : D} (h : sv.look μ = some d) : BV F H v d := by
  cases sv with
  | dat d' =>
    cases h
    exact .inl r
  | fre ds =>
    cases h
    obtain ⟨p, vs, rfl, h, n, m, a⟩ := r
    exact .inr ⟨p, vs, ds, rfl, rfl, h, a⟩
  | own k =>
    obtain ⟨a, h1, rfl⟩ := r
    simp only [SV.look] at h
    cases e : μ[k]? with
    | none =>
      rw [e] at h
      cases h
    | some c =>
      rw [e] at h
      cases h
      obtain ⟨vs, q, al, _⟩ := S.cell k a c h1 e
      exact .inr ⟨a, vs, c.ds, rfl, rfl, q, al⟩
theorem BV.dt (s : Same F H) {d : D} (b : BV F H v d) : Dt H v d := by
  rcases b with h | ⟨p, vs, ds, rfl, rfl, h, a⟩
  · exact Dt.mono s h
  · exact .lst (Rd.of h) (DtAll.mono s a)
theorem upd_none {H : Hp} {a b : Addr} {o : HO} (h : upd H a o b = none) : b ≠ a ∧ H b = none := by
  by_cases e : b = a
  · rw [e, upd_same] at h
    cases h
  · rw [upd_ne e] at h
    exact ⟨e, h⟩
theorem Same.upd {F : Hp} {p : Addr} {o : HO} (n : F p = none) : Same F (upd F p o) := fun b u h => by
  rw [upd_ne (ne_of_none h n)]
  exact h
theorem Same.upd2 {F H : Hp} {p : Addr} {o : HO} (s : Same F H) (h : H p = some o) : Same (L2.upd F p o) H := fun b u e => by
  by_cases z : b = p
  · rw [z] at e ⊢
    rw [upd_same] at e
    cases e
    exact h
  · rw [upd_ne z] at e
    exact s b u e
/-- a fresh list becomes data -/
theorem Sat.freezeNew (S : Sat ρ μ σ H F ι) {p : Addr} {vs : List V} (h : H p = some (.lst vs)) (n : F p = none) (m : p ∉ ι) : Sat ρ μ σ H (upd F p (.lst vs)) ι where
  sub := Same.upd2 S.sub h
  len := S.len
  nod := S.nod
  cell := fun k a c h1 h2 => by
    obtain ⟨ws, q, al, f1, f2⟩ := S.cell k a c h1 h2
    have ne : a ≠ p := fun z => m (z ▸ List.mem_of_getElem? h1)
    exact ⟨ws, q, DtAll.mono (Same.upd n) al, fun z => by rw [upd_ne ne]; exact f1 z, fun z => by rw [upd_ne ne]; exact f2 z⟩
  slen := S.slen
  slot := fun i sv e => by
    obtain ⟨w, e1, q⟩ := S.slot i sv e
    refine ⟨w, e1, ?_⟩
    cases sv with
    | dat d => exact Dt.mono (Same.upd n) q
    | own k => exact q
    | fre _ => exact q
/-- a list of one's own is given up -/
theorem Sat.froze (S : Sat ρ μ σ H F ι) {k : Nat} {ds : List D} (h : froze k μ = some (ds, μ')) : ∃ F' a, ι[k]? = some a ∧ Ext ι F H F' H ∧ Sat ρ μ' σ H F' ι ∧ Dt F' (.ref a) (.list ds) := by
  unfold DL.froze at h
  cases e : μ[k]? with
  | none =>
    rw [e] at h
    cases h
  | some c =>
    rw [e] at h
    obtain ⟨a, hk, vs, q, al, f1, f2⟩ := S.get e
    obtain ⟨st, cs⟩ := c
    cases st with
    | arg => cases h
    | froz =>
      cases h
      exact ⟨F, a, hk, Ext.refl, S, .lst (Rd.of (f1 rfl)) al⟩
    | live =>
      cases h
      have n : F a = none := f2 (by simp)
      have sf : Same F (upd F a (.lst vs)) := Same.upd n
      refine ⟨upd F a (.lst vs), a, hk, ⟨sf, fun _ _ h _ => h, fun _ h => h, fun b o h => ?_⟩, ⟨Same.upd2 S.sub q, by simp [S.len], S.nod, fun j b c h1 h2 => ?_, S.slen, fun i sv e => ?_⟩, .lst (Rd.of upd_same) (DtAll.mono sf al)⟩
      · by_cases z : b = a
        · exact .inr (.inr (z ▸ List.mem_of_getElem? hk))
        · rw [upd_ne z] at h
          exact .inl h
      · by_cases z : j = k
        · subst z
          rw [hk] at h1
          cases h1
          have hl : j < μ.length := (List.getElem?_eq_some_iff.mp e).1
          rw [List.getElem?_set_self hl] at h2
          cases h2
          exact ⟨vs, q, DtAll.mono sf al, fun _ => upd_same, fun z => absurd rfl z⟩
        · rw [List.getElem?_set_ne (Ne.symm z)] at h2
          have ne : b ≠ a := fun y => z (ix_inj S.nod h1 (y ▸ hk))
          obtain ⟨ws, q', al', g1, g2⟩ := S.cell j b c h1 h2
          exact ⟨ws, q', DtAll.mono sf al', fun z => by rw [upd_ne ne]; exact g1 z, fun z => by rw [upd_ne ne]; exact g2 z⟩
      · obtain ⟨w, e1, q'⟩ := S.slot i sv e
        refine ⟨w, e1, ?_⟩
        cases sv with
        | dat d => exact Dt.mono sf q'
        | own k => exact q'
        | fre _ => exact q'
/-- a value is kept as data -/
theorem Sat.keep {F0 H0 : Hp} (S : Sat ρ μ σ H F ι) (e0 : Ext ι F0 H0 F H) (r : VRep F H ι v sv) (nw : NewV H0 v sv) {d : D} (h : sv.keep μ = .ok d μ') : ∃ F', Ext ι F0 H0 F' H ∧ Same F F' ∧ Sat ρ μ' σ H F' ι ∧ Dt F' v d := by
  cases sv with
  | dat d' =>
    simp only [SV.keep] at h
    cases h
    exact ⟨F, e0, Same.refl F, S, r⟩
  | fre ds =>
    simp only [SV.keep] at h
    cases h
    obtain ⟨p, vs, rfl, h, n, m, a⟩ := r
    have sf : Same F (upd F p (.lst vs)) := Same.upd n
    refine ⟨upd F p (.lst vs), ⟨e0.fs.trans sf, e0.hs, e0.ht, fun b o z => ?_⟩, sf, S.freezeNew h n m, .lst (Rd.of upd_same) (DtAll.mono sf a)⟩
    by_cases y : b = p
    · subst y
      exact .inr (.inl (nw _ rfl))
    · rw [upd_ne y] at z
      exact e0.new b o z
  | own k =>
    simp only [SV.keep] at h
    obtain ⟨a, hk, rfl⟩ := r
    cases e : DL.froze k μ with
    | none =>
      rw [e] at h
      cases h
    | some z =>
      obtain ⟨ds, μ1⟩ := z
      rw [e] at h
      cases h
      obtain ⟨F', b, hb, x, S', q⟩ := S.froze e
      rw [hk] at hb
      cases hb
      exact ⟨F', e0.trans x, x.fs, S', q⟩
theorem keep_exc {x : Exn} (h : sv.keep μ = .exc x μ') : False := by
  cases sv with
  | dat d => cases h
  | fre ds => cases h
  | own k =>
    simp only [SV.keep] at h
    split at h <;> cases h
end
end DL

set_option maxHeartbeats 1000000
/-! DL5: operators and built-ins on data. -/
namespace DL
open PySem PySem.Spec PyProof.Rows L2
/-- an operation on values: it adds to the heap alone -/
structure OpE (F H F' H' : Hp) : Prop where
  fs : Same F F'
  hs : Same H H'
  sub : Same F' H'
  new : ∀ b o, F' b = some o → F b = some o ∨ H b = none
def RV (F' H' H : Hp) (v : V) : SV → Prop
  | .dat d => Dt F' v d
  | .fre ds => ∃ p vs, v = .ref p ∧ H p = none ∧ H' p = some (.lst vs) ∧ F' p = none ∧ DtAll F' vs ds
  | .own _ => False
def Aftr (F H : Hp) (res : SV) (Q : VK) : Prop := ∀ v F' H', OpE F H F' H' → RV F' H' H v res → Q v H'
def BVs (F H : Hp) : List V → List D → Prop := Paired (BV F H)
def rB (f : D → D → Option SV) : R2 := fun x y H Q => ∃ F dx dy res, Same F H ∧ BV F H x dx ∧ BV F H y dy ∧ f dx dy = some res ∧ Aftr F H res Q
def rN (f : List D → Option SV) : List V → Hp → VK → Prop := fun xs H Q => ∃ F ds res, Same F H ∧ BVs F H xs ds ∧ f ds = some res ∧ Aftr F H res Q
section
variable {F H : Hp} {x : V} {Q : VK}
theorem OpE.refl (s : Same F H) : OpE F H F H := ⟨Same.refl F, Same.refl H, s, fun _ _ h => .inl h⟩
theorem Aftr.dat {d : D} (a : Aftr F H (.dat d) Q) (s : Same F H) (h : Dt F x d) : Q x H := a x F H (OpE.refl s) h
theorem Aftr.newL {ds : List D} {vs : List V} (a : Aftr F H (.fre ds) Q) (s : Same F H) (h : DtAll F vs ds) (p : Addr) (n : H p = none) : Q (.ref p) (upd H p (.lst vs)) := by
  have nf : F p = none := Same.free s n
  exact a (.ref p) F (upd H p (.lst vs)) ⟨Same.refl F, Same.upd n, s.trans (Same.upd n), fun _ _ h => .inl h⟩ ⟨p, vs, rfl, n, upd_same, nf, h⟩
theorem Aftr.newT {ds : List D} {vs : List V} (a : Aftr F H (.dat (.tuple ds)) Q) (s : Same F H) (h : DtAll F vs ds) (p : Addr) (n : H p = none) : Q (.ref p) (upd H p (.tup vs)) := by
  have nf : F p = none := Same.free s n
  refine a (.ref p) (upd F p (.tup vs)) (upd H p (.tup vs)) ⟨Same.upd nf, Same.upd n, fun b u e => ?_, fun b o e => ?_⟩ (.tup (Rd.of upd_same) (DtAll.mono (Same.upd nf) h))
  · by_cases z : b = p
    · rw [z] at e ⊢
      rw [upd_same] at e ⊢
      exact e
    · rw [upd_ne z] at e ⊢
      exact s b u e
  · by_cases z : b = p
    · exact .inr (z ▸ n)
    · rw [upd_ne z] at e
      exact .inl e
theorem bv_none (h : BV F H x .none) : x = .non := by
  rcases h with h | ⟨_, _, _, _, z, _⟩
  · cases h
    rfl
  · cases z
theorem bv_bool {b : Bool} (h : BV F H x (.bool b)) : x = .bl b := by
  rcases h with h | ⟨_, _, _, _, z, _⟩
  · cases h
    rfl
  · cases z
theorem bv_int {i : Int} (h : BV F H x (.int i)) : x = .int i := by
  rcases h with h | ⟨_, _, _, _, z, _⟩
  · cases h
    rfl
  · cases z
theorem bv_str {i : Str} (h : BV F H x (.str i)) : x = .str i := by
  rcases h with h | ⟨_, _, _, _, z, _⟩
  · cases h
    rfl
  · cases z
theorem bv_list (s : Same F H) {ds : List D} (h : BV F H x (.list ds)) : ∃ a vs, x = .ref a ∧ Rd H a (.lst vs) ∧ DtAll F vs ds := by
  rcases h with h | ⟨a, vs, es, rfl, z, h, al⟩
  · cases h with
    | lst h al => exact ⟨_, _, rfl, Same.rd s h, al⟩
  · cases z
    exact ⟨a, vs, rfl, Rd.of h, al⟩
theorem bv_tup (s : Same F H) {ds : List D} (h : BV F H x (.tuple ds)) : ∃ a vs, x = .ref a ∧ Rd H a (.tup vs) ∧ DtAll F vs ds ∧ Dt F x (.tuple ds) := by
  rcases h with h | ⟨a, vs, es, rfl, z, h, al⟩
  · cases id h with
    | tup h' al => exact ⟨_, _, rfl, Same.rd s h', al, h⟩
  · cases z
theorem bv_dict (s : Same F H) {kvs : List (D × D)} (h : BV F H x (.dict kvs)) : ∃ a, x = .ref a ∧ H a = some (.dK []) := by
  rcases h with h | ⟨_, _, _, _, z, _⟩
  · cases h with
    | dct h => exact ⟨_, rfl, s _ _ h⟩
  · cases z
end
section
variable {X : Cx} {pins : List (Addr × Obj)} {σ : St} {H : Hp} {s : Shared}
theorem lstR (I : Inv X pins σ H s) {a : Addr} {xs : List V} (h : Rd H a (.lst xs)) : xs.length ≤ sizeLine ∧ ∃ (its : List Value) (n : Nat), Vals xs its ∧ xs.length = its.length ∧ s.heap.get? a = some { cls := .type "list", data := .seq its.toArray n } := by
  obtain ⟨z, its, n, r, e⟩ := h.ok I.hok
  exact ⟨z, its, n, r, r.length, e⟩
/-- two lists, read, put together -/
theorem op_catR : OpR X (binaryOp .Add) (fun x y H Q => ∃ l b xs zs, x = .ref l ∧ y = .ref b ∧ Rd H l (.lst xs) ∧ Rd H b (.lst zs) ∧ xs.length + zs.length ≤ sizeLine ∧ ∀ p, H p = none → Q (.ref p) (upd H p (.lst (xs ++ zs)))) := by
  intro pins s σ H x y v u Q I rx ry h
  obtain ⟨l, b, xs, zs, rfl, rfl, h1, h2, hz, q⟩ := h
  cases rx
  cases ry
  obtain ⟨_, is, n, r, hl, e⟩ := lstR I h1
  obtain ⟨_, js, m, r', hl', e'⟩ := lstR I h2
  have ea : is.toArray ++ js.toArray = (is ++ js).toArray := by simp
  refine PySem.P.add_list e e' (ea ▸ ?_) (by simp only [List.size_toArray]; omega)
  exact ⟨.ref _, _, I.lnew (t' := s.toks) (r.append r') (by simpa using hz), rfl, q _ I.fresh⟩
theorem op_repR : OpR X (binaryOp .Mult) (fun x y H Q => ∃ l k xs, x = .ref l ∧ y = .int k ∧ Rd H l (.lst xs) ∧ -(2 ^ 63) ≤ k ∧ k < 2 ^ 63 ∧ xs.length * k.toNat ≤ sizeLine ∧
    ∀ p, H p = none → Q (.ref p) (upd H p (.lst (List.replicate k.toNat xs).flatten))) := by
  intro pins s σ H x y v u Q I rx ry h
  obtain ⟨l, k, xs, rfl, rfl, h, h1, h2, hz, q⟩ := h
  rcases h with h | ⟨o, h⟩
  · exact op_rep pins s σ H _ _ v u Q I rx ry ⟨l, k, xs, rfl, rfl, h, h1, h2, hz, q⟩
  · cases rx
    obtain ⟨t, rfl⟩ := ry
    obtain ⟨_, is, n, r, hl, e⟩ := lstR I (.inr ⟨o, h⟩)
    have c1 : is.toArray.size * k.toNat ≤ sizeLine := by
      rw [List.size_toArray, ← hl]
      exact hz
    have c2 : (sizeLine : Nat) ≤ (2 ^ 63 - 1) / 8 := by decide
    have c3 : ∀ m : Nat, List.foldl (fun x1 x2 => x1 ++ x2) #[] (List.replicate m is.toArray) = (List.replicate m is).flatten.toArray := fun m => by
      simpa using foldl_rep is m []
    have c4 : List.foldl (fun x1 x2 => x1 ++ x2) #[] (List.replicate (if is.toArray.isEmpty = true then 0 else k.toNat) is.toArray) = (List.replicate k.toNat is).flatten.toArray := by
      rw [c3]
      cases is with
      | nil => simp
      | cons a r' => rw [if_neg (by simp)]
    refine wpAny_binaryOp_repeat_ref (T := "list") (U := "int") (by decide) ⟨_, e, rfl⟩ (fun s' => typeIs_int s' k t) noFill_list_mul F.fills_int_mul F.slot_int_rmul repeat_list F.slot_int_index.lookup
      (call_meets F.slot_int_rmul (typeIs_int s k t) F.entry_int_rmul (F.args_int_rmul_2 _ _) (int___rmul___int_list k t l is.toArray n)
        ⟨e, rfl, ⟨_, e, rfl⟩, call_meets F.slot_list_mul ⟨_, e, rfl⟩ F.entry_list_mul (F.args_list_mul_2 _ _) (AutoListH.list___mul___list_int_3 l is.toArray n k t (by rw [fitsIndex_both h1 h2]; exact Bool.false_ne_true) (by omega) (by rw [notLongL c1]; exact Bool.false_ne_true)) ⟨e, ?_⟩⟩)
    rw [c4]
    exact ⟨.ref _, _, I.lnew (t' := s.toks) (r.rep k.toNat) (by rw [PyProof.Rows.lm_len_rep_flat, Nat.mul_comm]; exact hz), rfl, q _ I.fresh⟩
end
section
variable {X : Cx}
theorem okMul_ok {i j : Int} (h : okMul i j = true) : CMulW i j := by
  have := of_decide_eq_true h
  exact this
theorem dec_and {p q : Prop} [Decidable p] [Decidable q] (h : (decide p && decide q) = true) : p ∧ q := by
  simpa using h
/-- a op b -/
theorem op_bin (o : Operator) : OpR X (binaryOp o) (rB (bin2 o)) := by
  intro pins s σ H x y v u Q I rx ry h
  obtain ⟨F, dx, dy, res, sm, hx, hy, e, a⟩ := h
  unfold bin2 at e
  split at e
  · -- int + int
    cases e
    exact op_add pins s σ H x y v u Q I rx ry ⟨_, _, bv_int hx, bv_int hy, a.dat sm (.int _)⟩
  · split at e
    · cases e
      obtain ⟨l, vs, rfl, h1, a1⟩ := bv_list sm hx
      obtain ⟨b, ws, rfl, h2, a2⟩ := bv_list sm hy
      have e1 := DtAll.length a1
      have e2 := DtAll.length a2
      exact op_catR pins s σ H _ _ v u Q I rx ry ⟨l, b, vs, ws, rfl, rfl, h1, h2, by omega, fun p n => a.newL sm (DtAll.append a1 a2) p n⟩
    · cases e
  · split at e
    · cases e
      obtain ⟨l, vs, rfl, h1, a1, d1⟩ := bv_tup sm hx
      obtain ⟨b, ws, rfl, h2, a2, d2⟩ := bv_tup sm hy
      have e1 := DtAll.length a1
      have e2 := DtAll.length a2
      refine op_catA pins s σ H _ _ v u Q I rx ry ⟨l, b, vs, ws, rfl, rfl, .inl h1, .inl h2, by omega, fun z => ?_, fun _ z => ?_, fun _ _ p n => a.newT sm (DtAll.append a1 a2) p n⟩
      · subst z
        cases a1
        exact a.dat sm d2
      · subst z
        cases a2
        rw [List.append_nil] at a
        exact a.dat sm d1
    · cases e
  · split at e
    · cases e
      rename_i hz
      exact op_add_str pins s σ H x y v u Q I rx ry ⟨_, _, bv_str hx, bv_str hy, hz, a.dat sm (.str _)⟩
    · cases e
  · cases e
    exact op_sub pins s σ H x y v u Q I rx ry ⟨_, _, bv_int hx, bv_int hy, a.dat sm (.int _)⟩
  · split at e
    · cases e
      rename_i hz
      exact op_mulW pins s σ H x y v u Q I rx ry ⟨_, _, bv_int hx, bv_int hy, okMul_ok hz, a.dat sm (.int _)⟩
    · cases e
  · split at e
    · cases e
      rename_i hz
      simp only [Bool.and_eq_true, decide_eq_true_eq] at hz
      obtain ⟨l, vs, rfl, h1, a1⟩ := bv_list sm hx
      have e1 := DtAll.length a1
      exact op_repR pins s σ H _ _ v u Q I rx ry ⟨l, _, vs, rfl, bv_int hy, h1, hz.1.1, hz.1.2, by rw [e1]; exact hz.2, fun p n => a.newL sm (DtAll.rep a1 _) p n⟩
    · cases e
  · split at e
    · cases e
      rename_i hz
      simp only [Bool.and_eq_true, decide_eq_true_eq] at hz
      obtain ⟨l, vs, rfl, h1, a1, d1⟩ := bv_tup sm hx
      have e1 := DtAll.length a1
      refine op_repT pins s σ H _ _ v u Q I rx ry ⟨l, _, vs, rfl, bv_int hy, .inl h1, fun z => hz.1.1.1 ?_, hz.1.1.2, hz.1.2, by rw [e1]; exact hz.2, fun p n => a.newT sm (DtAll.rep a1 _) p n⟩
      subst z
      cases a1
      rfl
    · cases e
  · split at e
    · cases e
      rename_i hz
      exact op_fdivW pins s σ H x y v u Q I rx ry ⟨_, _, bv_int hx, bv_int hy, dec_and hz, a.dat sm (.int _)⟩
    · cases e
  · split at e
    · cases e
      rename_i hz
      exact op_mod pins s σ H x y v u Q I rx ry ⟨_, _, bv_int hx, bv_int hy, of_decide_eq_true hz, a.dat sm (.int _)⟩
    · cases e
  · split at e
    · cases e
      rename_i hz
      unfold okPow at hz
      simp only [Bool.and_eq_true, decide_eq_true_eq] at hz
      exact op_pow pins s σ H x y v u Q I rx ry ⟨_, _, bv_int hx, bv_int hy, ⟨hz.1.1, hz.1.2, hz.2⟩, a.dat sm (.int _)⟩
    · cases e
  · cases e

/-! ### comparisons -/
theorem flat_V {F H : Hp} {x : V} {d : D} (h : BV F H x d) (f : flatD d = true) : flatV x = true := by
  cases d with
  | none => rw [bv_none h]; rfl
  | bool b => rw [bv_bool h]; rfl
  | int i => rw [bv_int h]; rfl
  | str i => rw [bv_str h]; rfl
  | list _ => cases f
  | tuple _ => cases f
  | dict _ => cases f
theorem eqV_D {F H : Hp} {x y : V} {d e : D} (hx : BV F H x d) (hy : BV F H y e) (fd : flatD d = true) (fe : flatD e = true) : eqV x y = PyData.eqv d e := by
  cases d with
  | list _ => cases fd
  | tuple _ => cases fd
  | dict _ => cases fd
  | none =>
    rw [bv_none hx]
    cases e with
    | list _ => cases fe
    | tuple _ => cases fe
    | dict _ => cases fe
    | none => rw [bv_none hy]; simp [eqV, PyData.eqv]
    | bool b => rw [bv_bool hy]; simp [eqV, PyData.eqv]
    | int i => rw [bv_int hy]; simp [eqV, PyData.eqv]
    | str i => rw [bv_str hy]; simp [eqV, PyData.eqv]
  | bool b =>
    rw [bv_bool hx]
    cases e with
    | list _ => cases fe
    | tuple _ => cases fe
    | dict _ => cases fe
    | none => rw [bv_none hy]; simp [eqV, PyData.eqv]
    | bool b => rw [bv_bool hy]; simp [eqV, PyData.eqv]
    | int i => rw [bv_int hy]; simp [eqV, PyData.eqv]
    | str i => rw [bv_str hy]; simp [eqV, PyData.eqv]
  | int i =>
    rw [bv_int hx]
    cases e with
    | list _ => cases fe
    | tuple _ => cases fe
    | dict _ => cases fe
    | none => rw [bv_none hy]; simp [eqV, PyData.eqv]
    | bool b => rw [bv_bool hy]; simp [eqV, PyData.eqv]
    | int i => rw [bv_int hy]; simp [eqV, PyData.eqv]
    | str i => rw [bv_str hy]; simp [eqV, PyData.eqv]
  | str i =>
    rw [bv_str hx]
    cases e with
    | list _ => cases fe
    | tuple _ => cases fe
    | dict _ => cases fe
    | none => rw [bv_none hy]; simp [eqV, PyData.eqv]
    | bool b => rw [bv_bool hy]; simp [eqV, PyData.eqv]
    | int i => rw [bv_int hy]; simp [eqV, PyData.eqv]
    | str i => rw [bv_str hy]; simp [eqV, PyData.eqv]

theorem flat_all {F H : Hp} (sm : Same F H) : ∀ {ds : List D} {vs : List V}, DtAll F vs ds → ds.all flatD = true → vs.all flatV = true
  | [], _, h, _ => by
    cases h
    rfl
  | d :: ds, _, h, f => by
    simp only [List.all_cons, Bool.and_eq_true] at f
    cases h with
    | cons h1 h2 =>
      rw [List.all_cons, flat_V (H := H) (.inl h1) f.1, flat_all sm h2 f.2]
      rfl
theorem in_D {F H : Hp} {x : V} {d : D} (hx : BV F H x d) (fd : flatD d = true) : ∀ {ds : List D} {vs : List V}, DtAll F vs ds → ds.all flatD = true → inV x vs = memD d ds
  | [], _, h, _ => by
    cases h
    rfl
  | e :: es, _, h, f => by
    simp only [List.all_cons, Bool.and_eq_true] at f
    cases h with
    | cons h1 h2 =>
      have ih := in_D hx fd h2 f.2
      unfold inV memD at ih ⊢
      rw [List.any_cons, List.any_cons, ih, eqV_D (H := H) (.inl h1) hx f.1 fd]
def rC (f : D → D → Option Bool) : R2 := fun x y H Q => ∃ F dx dy b, Same F H ∧ BV F H x dx ∧ BV F H y dy ∧ f dx dy = some b ∧ Q (.bl b) H
theorem isN_V {F H : Hp} {x : V} {d : D} (h : BV F H x d) (s : Same F H) : decide (x = V.non) = isN d := by
  cases d with
  | none => rw [bv_none h]; rfl
  | bool b => rw [bv_bool h]; rfl
  | int i => rw [bv_int h]; rfl
  | str i => rw [bv_str h]; rfl
  | list _ => obtain ⟨a, _, rfl, _⟩ := bv_list s h; rfl
  | tuple _ => obtain ⟨a, _, rfl, _⟩ := bv_tup s h; rfl
  | dict _ =>
    obtain ⟨a, rfl, _⟩ := bv_dict s h
    rfl
theorem nod_shaped {d : D} (h : SeqAt.shaped d = true) : d.hasDict = false := PyData.hasDict_of_canLay d (SeqAt.canLay_of_shaped h)
theorem op_cmp (o : CmpOp) (hu : X.A.units + 64 < cLine) : OpR X (compareOp o) (rC (cmp2 o)) := by
  intro pins s σ H x y v u Q I rx ry h
  obtain ⟨F, dx, dy, b, sm, hx, hy, e, a⟩ := h
  unfold cmp2 at e
  split at e
  · cases e
    exact op_lt pins s σ H x y v u Q I rx ry ⟨_, _, bv_int hx, bv_int hy, a⟩
  · cases e
    exact op_le pins s σ H x y v u Q I rx ry ⟨_, _, bv_int hx, bv_int hy, a⟩
  · cases e
    exact op_gt pins s σ H x y v u Q I rx ry ⟨_, _, bv_int hx, bv_int hy, a⟩
  · cases e
    exact op_ge pins s σ H x y v u Q I rx ry ⟨_, _, bv_int hx, bv_int hy, a⟩
  · cases e
    rw [bv_str hx] at rx
    rw [bv_str hy] at ry
    exact op_eq pins s σ H _ _ v u Q I rx ry ⟨rfl, by simpa using a⟩
  · cases e
    rw [bv_str hx] at rx
    rw [bv_str hy] at ry
    exact op_ne pins s σ H _ _ v u Q I rx ry ⟨rfl, by simpa using a⟩
  · split at e
    · cases e
      rename_i hz
      rw [Bool.and_eq_true] at hz
      exact op_eqD hu pins s σ H x y v u Q I rx ry ⟨_, _, Dt.dp (nod_shaped hz.1) (hx.dt sm), Dt.dp (nod_shaped hz.2) (hy.dt sm), hz.1, hz.2, a⟩
    · cases e
  · split at e
    · cases e
      rename_i hz
      rw [Bool.and_eq_true] at hz
      exact op_neD hu pins s σ H x y v u Q I rx ry ⟨_, _, Dt.dp (nod_shaped hz.1) (hx.dt sm), Dt.dp (nod_shaped hz.2) (hy.dt sm), hz.1, hz.2, a⟩
    · cases e
  · cases e
    exact op_isN pins s σ H x y v u Q I rx ry ⟨bv_none hy, by rw [isN_V hx sm]; exact a⟩
  · cases e
    exact op_notN pins s σ H x y v u Q I rx ry ⟨bv_none hy, by rw [isN_V hx sm]; exact a⟩
  · split at e
    · cases e
      rename_i hz
      rw [Bool.and_eq_true] at hz
      obtain ⟨l, vs, rfl, h1, a1⟩ := bv_list sm hy
      exact op_in_seq pins s σ H x _ v u Q I rx ry ⟨l, vs, rfl, .inl (.inl h1), flat_V hx hz.1, flat_all sm a1 hz.2, by rw [in_D hx hz.1 a1 hz.2]; exact a⟩
    · cases e
  · split at e
    · cases e
      rename_i hz
      rw [Bool.and_eq_true] at hz
      obtain ⟨l, vs, rfl, h1, a1, _⟩ := bv_tup sm hy
      exact op_in_seq pins s σ H x _ v u Q I rx ry ⟨l, vs, rfl, .inr (.inl h1), flat_V hx hz.1, flat_all sm a1 hz.2, by rw [in_D hx hz.1 a1 hz.2]; exact a⟩
    · cases e
  · split at e
    · cases e
      rename_i hz
      rw [Bool.and_eq_true] at hz
      obtain ⟨l, vs, rfl, h1, a1⟩ := bv_list sm hy
      exact op_notIn_seq pins s σ H x _ v u Q I rx ry ⟨l, vs, rfl, .inl (.inl h1), flat_V hx hz.1, flat_all sm a1 hz.2, by rw [in_D hx hz.1 a1 hz.2]; exact a⟩
    · cases e
  · split at e
    · cases e
      rename_i hz
      rw [Bool.and_eq_true] at hz
      obtain ⟨l, vs, rfl, h1, a1, _⟩ := bv_tup sm hy
      exact op_notIn_seq pins s σ H x _ v u Q I rx ry ⟨l, vs, rfl, .inr (.inl h1), flat_V hx hz.1, flat_all sm a1 hz.2, by rw [in_D hx hz.1 a1 hz.2]; exact a⟩
    · cases e
  · cases e

/-! ### places, cuts -/
theorem at_D {F : Hp} {ds : List D} {vs : List V} (h : DtAll F vs ds) {i : Int} {d : D} (e : atI ds i = some d) : ∃ v, atI vs i = some v ∧ Dt F v d := by
  unfold atI at e ⊢
  rw [DtAll.length h]
  cases z : ixN ds.length i with
  | none =>
    rw [z] at e
    cases e
  | some j =>
    rw [z] at e
    exact DtAll.get h e
def rX (f : D → D → Option D) : R2 := fun x y H Q => ∃ F dx dy d, Same F H ∧ BV F H x dx ∧ BV F H y dy ∧ f dx dy = some d ∧ ∀ v, Dt F v d → Q v H
theorem ix_D : IxR X (rX idxD) := by
  intro value slice pins s σ H x y v u Q I rx ry h hs
  obtain ⟨F, dx, dy, d, sm, hx, hy, e, a⟩ := h
  unfold idxD at e
  split at e
  · obtain ⟨l, vs, rfl, h1, a1⟩ := bv_list sm hx
    obtain ⟨w, e1, q⟩ := at_D a1 e
    exact ix_list value slice pins s σ H _ _ v u Q I rx ry ⟨l, vs, _, w, rfl, bv_int hy, .inl h1, e1, a w q⟩ hs
  · obtain ⟨l, vs, rfl, h1, a1, _⟩ := bv_tup sm hx
    obtain ⟨w, e1, q⟩ := at_D a1 e
    exact ix_tup value slice pins s σ H _ _ v u Q I rx ry ⟨l, vs, _, w, rfl, bv_int hy, .inl h1, e1, a w q⟩ hs
  · cases e
def rS (f : D → Option Int → Option Int → Option SV) : V → Option Int → Option Int → Hp → VK → Prop := fun x lo hi H Q => ∃ F dx res, Same F H ∧ BV F H x dx ∧ f dx lo hi = some res ∧ Aftr F H res Q
theorem sl_D : SlR X (rS cutD) := by
  intro pins s σ H x v vl vu lo hi sl Q I rx hs pl pu h
  obtain ⟨F, dx, res, sm, hx, e, a⟩ := h
  unfold cutD at e
  split at e
  · cases e
    obtain ⟨l, vs, rfl, h1, a1⟩ := bv_list sm hx
    refine sl_list pins s σ H _ v vl vu lo hi sl Q I rx hs pl pu ⟨l, vs, rfl, .inl h1, fun p n => ?_⟩
    unfold cutV
    rw [DtAll.length a1]
    exact a.newL sm (DtAll.take _ (DtAll.drop _ a1)) p n
  · cases e
    obtain ⟨l, vs, rfl, h1, a1, d1⟩ := bv_tup sm hx
    have el := DtAll.length a1
    refine sl_tupA pins s σ H _ v vl vu lo hi sl Q I rx hs pl pu ⟨l, vs, rfl, .inl h1, fun z => ?_, fun _ p n => ?_⟩
    · rw [el] at z
      rw [z.1, z.2, List.drop_zero, Nat.sub_zero, List.take_length] at a
      exact a.dat sm d1
    · unfold cutV
      rw [el]
      exact a.newT sm (DtAll.take _ (DtAll.drop _ a1)) p n
  · cases e

/-! ### built-ins -/
theorem bvs1 {F H : Hp} {xs : List V} {d : D} (h : BVs F H xs [d]) : ∃ x, xs = [x] ∧ BV F H x d := by
  cases h with
  | cons h t =>
    cases t
    exact ⟨_, rfl, h⟩
theorem bvs2 {F H : Hp} {xs : List V} {d e : D} (h : BVs F H xs [d, e]) : ∃ x y, xs = [x, y] ∧ BV F H x d ∧ BV F H y e := by
  cases h with
  | cons h t =>
    obtain ⟨y, rfl, q⟩ := bvs1 t
    exact ⟨_, _, rfl, h, q⟩
theorem ints_V {F : Hp} : ∀ {ds : List D} {ns : List Int} {vs : List V}, toInts ds = some ns → DtAll F vs ds → vs = ns.map V.int
  | [], _, _, e, h => by
    cases e
    cases h
    rfl
  | .int i :: r, ns, _, e, h => by
    simp only [toInts, Option.map_eq_some_iff] at e
    obtain ⟨ms, e, rfl⟩ := e
    cases h with
    | cons h1 h2 =>
      cases h1
      rw [ints_V e h2]
      rfl
  | .none :: _, _, _, e, _ => by cases e
  | .bool _ :: _, _, _, e, _ => by cases e
  | .str _ :: _, _, _, e, _ => by cases e
  | .list _ :: _, _, _, e, _ => by cases e
  | .tuple _ :: _, _, _, e, _ => by cases e
  | .dict _ :: _, _, _, e, _ => by cases e
theorem bools_V {F : Hp} : ∀ {ds : List D} {ns : List Bool} {vs : List V}, toBools ds = some ns → DtAll F vs ds → vs = ns.map V.bl
  | [], _, _, e, h => by
    cases e
    cases h
    rfl
  | .bool i :: r, ns, _, e, h => by
    simp only [toBools, Option.map_eq_some_iff] at e
    obtain ⟨ms, e, rfl⟩ := e
    cases h with
    | cons h1 h2 =>
      cases h1
      rw [bools_V e h2]
      rfl
  | .none :: _, _, _, e, _ => by cases e
  | .int _ :: _, _, _, e, _ => by cases e
  | .str _ :: _, _, _, e, _ => by cases e
  | .list _ :: _, _, _, e, _ => by cases e
  | .tuple _ :: _, _, _, e, _ => by cases e
  | .dict _ :: _, _, _, e, _ => by cases e
theorem leastI_le : ∀ (l : List Int) (m : Int), leastI m l ≤ m ∧ ∀ y ∈ l, leastI m l ≤ y
  | [], m => ⟨Int.le_refl _, fun _ h => nomatch h⟩
  | x :: r, m => by
    obtain ⟨h1, h2⟩ := leastI_le r (if x < m then x else m)
    simp only [leastI]
    have hm : (if x < m then x else m) ≤ m ∧ (if x < m then x else m) ≤ x := by split <;> omega
    refine ⟨by omega, fun y hy => ?_⟩
    rcases List.mem_cons.mp hy with rfl | hy
    · omega
    · exact h2 y hy
theorem leastI_mem : ∀ (l : List Int) (m : Int), leastI m l ∈ m :: l
  | [], m => List.mem_cons_self
  | x :: r, m => by
    simp only [leastI]
    have h := leastI_mem r (if x < m then x else m)
    rcases List.mem_cons.mp h with h | h
    · rw [h]
      split
      · exact List.mem_cons_of_mem _ List.mem_cons_self
      · exact List.mem_cons_self
    · exact List.mem_cons_of_mem _ (List.mem_cons_of_mem _ h)
theorem mostI_ge : ∀ (l : List Int) (m : Int), m ≤ mostI m l ∧ ∀ y ∈ l, y ≤ mostI m l
  | [], m => ⟨Int.le_refl _, fun _ h => nomatch h⟩
  | x :: r, m => by
    obtain ⟨h1, h2⟩ := mostI_ge r (if x > m then x else m)
    simp only [mostI]
    have hm : (if x > m then x else m) ≥ m ∧ (if x > m then x else m) ≥ x := by split <;> omega
    refine ⟨by omega, fun y hy => ?_⟩
    rcases List.mem_cons.mp hy with rfl | hy
    · omega
    · exact h2 y hy
theorem mostI_mem : ∀ (l : List Int) (m : Int), mostI m l ∈ m :: l
  | [], m => List.mem_cons_self
  | x :: r, m => by
    simp only [mostI]
    have h := mostI_mem r (if x > m then x else m)
    rcases List.mem_cons.mp h with h | h
    · rw [h]
      split
      · exact List.mem_cons_of_mem _ List.mem_cons_self
      · exact List.mem_cons_self
    · exact List.mem_cons_of_mem _ (List.mem_cons_of_mem _ h)
theorem least_of {n m : Int} {ns : List Int} (h : m ∈ n :: ns) (q : ∀ y, y ∈ n :: ns → m ≤ y) : m = leastI n ns := by
  obtain ⟨h1, h2⟩ := leastI_le ns n
  have h3 := q _ (leastI_mem ns n)
  rcases List.mem_cons.mp h with z | z
  · omega
  · have := h2 m z
    omega
theorem most_of {n m : Int} {ns : List Int} (h : m ∈ n :: ns) (q : ∀ y, y ∈ n :: ns → y ≤ m) : m = mostI n ns := by
  obtain ⟨h1, h2⟩ := mostI_ge ns n
  have h3 := q _ (mostI_mem ns n)
  rcases List.mem_cons.mp h with z | z
  · omega
  · have := h2 m z
    omega
def Blt.val : Blt → Value
  | .int1 => .type "int"
  | .list1 => .type "list"
  | .tuple1 => .type "tuple"
  | b => .builtin b.nm
theorem call_blt (b : Blt) (hc : X.calm = true) (hg : X.A.guards = some []) (hu : X.A.units + 70 < cLine) : CallR X b.val (rN (bltD b)) := by
  intro pins s σ H xs us Q I r h
  obtain ⟨F, ds, res, sm, hx, e, a⟩ := h
  unfold bltD at e
  split at e
  · cases e
    obtain ⟨x, rfl, h1⟩ := bvs1 hx
    obtain ⟨l, vs, rfl, h1, a1⟩ := bv_list sm h1
    exact call_len pins s σ H _ us Q I r ⟨_, vs.length, rfl, .inl ⟨vs, .inl h1, rfl⟩, a.dat sm (by rw [DtAll.length a1]; exact .int _)⟩
  · cases e
    obtain ⟨x, rfl, h1⟩ := bvs1 hx
    obtain ⟨l, vs, rfl, h1, a1, _⟩ := bv_tup sm h1
    exact call_len pins s σ H _ us Q I r ⟨_, vs.length, rfl, .inr ⟨vs, .inl h1, rfl⟩, a.dat sm (by rw [DtAll.length a1]; exact .int _)⟩
  · split at e
    · cases e
      rename_i hz
      obtain ⟨x, rfl, h1⟩ := bvs1 hx
      rw [bv_str h1] at r
      exact call_len pins s σ H _ us Q I r ⟨_, _, rfl, ⟨hz, rfl⟩, a.dat sm (.int _)⟩
    · cases e
  · cases e
    obtain ⟨x, rfl, h1⟩ := bvs1 hx
    rw [bv_int h1] at r
    exact call_abs pins s σ H _ us Q I r ⟨_, rfl, a.dat sm (.int _)⟩
  · cases e
    obtain ⟨x, y, rfl, h1, h2⟩ := bvs2 hx
    rw [bv_int h1, bv_int h2] at r
    exact call_min2 hc pins s σ H _ us Q I r ⟨_, _, rfl, a.dat sm (.int _)⟩
  · cases e
    obtain ⟨x, y, rfl, h1, h2⟩ := bvs2 hx
    rw [bv_int h1, bv_int h2] at r
    exact call_max2 hc pins s σ H _ us Q I r ⟨_, _, rfl, a.dat sm (.int _)⟩
  · cases e
    obtain ⟨x, rfl, h1⟩ := bvs1 hx
    rw [bv_int h1] at r
    exact call_int1 pins s σ H _ us Q I r (.inl ⟨_, rfl, a.dat sm (.int _)⟩)
  · cases e
    obtain ⟨x, rfl, h1⟩ := bvs1 hx
    obtain ⟨l, vs, rfl, h1, a1⟩ := bv_list sm h1
    exact call_list_of pins s σ H _ us Q I r ⟨l, vs, rfl, .inl (.inl h1), fun p n => a.newL sm a1 p n⟩
  · cases e
    obtain ⟨x, rfl, h1⟩ := bvs1 hx
    obtain ⟨l, vs, rfl, h1, a1, _⟩ := bv_tup sm h1
    exact call_list_of pins s σ H _ us Q I r ⟨l, vs, rfl, .inr (.inl h1), fun p n => a.newL sm a1 p n⟩
  · cases e
    obtain ⟨x, rfl, h1⟩ := bvs1 hx
    obtain ⟨l, vs, rfl, h1, a1⟩ := bv_list sm h1
    exact call_tuple_of pins s σ H _ us Q I r ⟨l, vs, rfl, .inl ⟨.inl h1, fun p n => a.newT sm a1 p n⟩⟩
  · cases e
    obtain ⟨x, rfl, h1⟩ := bvs1 hx
    obtain ⟨l, vs, rfl, h1, a1, d1⟩ := bv_tup sm h1
    exact call_tuple_of pins s σ H _ us Q I r ⟨l, vs, rfl, .inr ⟨.inl h1, a.dat sm d1⟩⟩
  · simp only [Option.map_eq_some_iff] at e
    obtain ⟨bs, e, rfl⟩ := e
    obtain ⟨x, rfl, h1⟩ := bvs1 hx
    obtain ⟨l, vs, rfl, h1, a1⟩ := bv_list sm h1
    exact cr_all hc pins s σ H _ us Q I r ⟨l, bs, rfl, .inl (by rw [← bools_V e a1]; exact h1), a.dat sm (.bl _)⟩
  · simp only [Option.map_eq_some_iff] at e
    obtain ⟨bs, e, rfl⟩ := e
    obtain ⟨x, rfl, h1⟩ := bvs1 hx
    obtain ⟨l, vs, rfl, h1, a1⟩ := bv_list sm h1
    exact cr_any hc pins s σ H _ us Q I r ⟨l, bs, rfl, .inl (by rw [← bools_V e a1]; exact h1), a.dat sm (.bl _)⟩
  · simp only [Option.map_eq_some_iff] at e
    obtain ⟨bs, e, rfl⟩ := e
    obtain ⟨x, rfl, h1⟩ := bvs1 hx
    obtain ⟨l, vs, rfl, h1, a1⟩ := bv_list sm h1
    exact cr_sum hc pins s σ H _ us Q I r ⟨l, bs, rfl, .inl (by rw [← ints_V e a1]; exact h1), a.dat sm (.int _)⟩
  · split at e
    · cases e
      rename_i e
      obtain ⟨x, rfl, h1⟩ := bvs1 hx
      obtain ⟨l, vs, rfl, h1, a1⟩ := bv_list sm h1
      exact cr_min hc pins s σ H _ us Q I r ⟨l, _, rfl, .inl (by rw [← ints_V e a1]; exact h1), by simp, fun m h q => by rw [least_of h q]; exact a.dat sm (.int _)⟩
    · cases e
  · split at e
    · cases e
      rename_i e
      obtain ⟨x, rfl, h1⟩ := bvs1 hx
      obtain ⟨l, vs, rfl, h1, a1⟩ := bv_list sm h1
      exact cr_max hc pins s σ H _ us Q I r ⟨l, _, rfl, .inl (by rw [← ints_V e a1]; exact h1), by simp, fun m h q => by rw [most_of h q]; exact a.dat sm (.int _)⟩
    · cases e
  · split at e
    · cases e
      rename_i d hz
      simp only [Bool.and_eq_true, decide_eq_true_eq, Bool.not_eq_true'] at hz
      obtain ⟨⟨⟨z1, z2⟩, z3⟩, z4⟩ := hz
      have z5 : d.shown.length ≤ sizeLine := by
        have := sizeLine_eq
        omega
      obtain ⟨x, rfl, h1⟩ := bvs1 hx
      have fin : ∀ h' u tk, (∀ b o, s.heap.get? b = some o → h'.get? b = some o) → EP X pins σ Q (.str d.shown u) { s with heap := h', toks := tk } := fun h' u tk hk => ⟨.str _, H, I.kept hk, ⟨_, rfl⟩, a.dat sm (.str _)⟩
      have dp : Dp X.K H x d := Dt.dp z2 (h1.dt sm)
      obtain ⟨w, rfl, rw1⟩ := vals1 r
      cases d with
      | none =>
        rw [bv_none h1] at rw1
        cases rw1
        exact PySem.P.repr_of_none (fin s.heap _ _ fun _ _ e => e)
      | bool b =>
        rw [bv_bool h1] at rw1
        cases rw1
        exact PySem.P.repr_of_bool (fin s.heap _ _ fun _ _ e => e)
      | int i =>
        rw [bv_int h1] at rw1
        obtain ⟨t, rfl⟩ := rw1
        exact PySem.P.repr_of_int (of_decide_eq_true z1) (fin s.heap _ _ fun _ _ e => e)
      | str i =>
        rw [bv_str h1] at rw1
        obtain ⟨t, rfl⟩ := rw1
        exact PySem.P.repr_of_str (fin s.heap _ _ fun _ _ e => e) z5
      | list es =>
        obtain ⟨as, rd⟩ := Dp.reads I _ _ _ dp rw1
        obtain ⟨l, _, rfl, _⟩ := bv_list sm h1
        cases rw1
        exact PySem.repr_of_reads' rd z1 (fun z => by rw [z2] at z; cases z) hg (by omega) (fun _ _ e => e) fin z5
      | tuple es =>
        obtain ⟨as, rd⟩ := Dp.reads I _ _ _ dp rw1
        obtain ⟨l, _, rfl, _⟩ := bv_tup sm h1
        cases rw1
        exact PySem.repr_of_reads' rd z1 (fun z => by rw [z2] at z; cases z) hg (by omega) (fun _ _ e => e) fin z5
      | dict es => simp [PyData.hasDict] at z2
    · cases e
  · cases e
end
end DL

set_option maxHeartbeats 1000000
/-! DL6: promises on data, and the steps of a reading. -/
namespace DL
open PySem PySem.Spec PyProof.Rows L2
/-- how an exception lies: its class by its name, its own fields -/
def FldRep (F : Hp) : List (Str × V) → List (Str × D) → Prop := Paired fun p q => p.1 = q.1 ∧ Dt F p.2 q.2
def ExRep (mg : Str → Option Value) (F H : Hp) (x : Exn) (c : Value) (d : Option Addr) : Prop :=
  mg x.cls = some c ∧ ((x.flds = [] ∧ d = none) ∨ ∃ dd fs, x.flds ≠ [] ∧ d = some dd ∧ H dd = some (.xd fs) ∧ FldRep F fs x.flds)
/-- the arguments as they are handed over; A: where the lists stand that may be changed -/
inductive ArgsRep (H F : Hp) : List V → List Arg → List Addr → Prop
  | nil : ArgsRep H F [] [] []
  | dat {v : V} {d : D} {vs : List V} {as : List Arg} {A : List Addr} : Dt F v d → ArgsRep H F vs as A → ArgsRep H F (v :: vs) (.dat d :: as) A
  | own {a : Addr} {xs : List V} {ds : List D} {vs : List V} {as : List Arg} {A : List Addr} : H a = some (.lst xs) → F a = none → DtAll F xs ds → a ∉ A → ArgsRep H F vs as A → ArgsRep H F (.ref a :: vs) (.own ds :: as) (a :: A)
/-- the lists that were lent, behind the call -/
inductive Backs (H F : Hp) : List Addr → List (List D) → Prop
  | nil : Backs H F [] []
  | cons {a : Addr} {xs : List V} {ds : List D} {A : List Addr} {cs : List (List D)} : H a = some (.lst xs) → F a = none → DtAll F xs ds → Backs H F A cs → Backs H F (a :: A) (ds :: cs)
def RvRep (F' H' H : Hp) (A : List Addr) (v : V) : Rv → Prop
  | .dat d => Dt F' v d
  | .fre ds => ∃ p vs, v = .ref p ∧ H p = none ∧ H' p = some (.lst vs) ∧ F' p = none ∧ p ∉ A ∧ DtAll F' vs ds
def OutPost (mg : Str → Option Value) (F H : Hp) (A : List Addr) (o : Out) (Q : VK) (E : XK) : Prop := match o with
  | .ret r cs => ∀ v F' H', Ext A F H F' H' → Same F' H' → Backs H' F' A cs → RvRep F' H' H A v r → Q v H'
  | .exc x cs => ∀ c d F' H', Ext A F H F' H' → Same F' H' → Backs H' F' A cs → ExRep mg F' H' x c d → E c d H'
/-- a def's promise: what its function on data says -/
def spOf (mg : Str → Option Value) (f : Fn) : Sp := fun vs H Q E => ∃ F as A o, Same F H ∧ ArgsRep H F vs as A ∧ f as = some o ∧ OutPost mg F H A o Q E
/-- a def keeps a promise, where no repr is under way -/
structure GFn (P : Program) (w : World) (K : PySem.W.Frag) (mg : Str → Option Value) (base : Heap) (k : Nat) (f : Addr) (fd : FuncData) (ps : List Str) (sp : Sp) : Prop where
  run : ∀ (A : Around) (outer : List Env) (s : Shared) (H : Hp) (args : Args) (us : List Value) (vs : List V) (Q : VK) (E : XK), A.guards = some [] → Room k A → Env0 P w K mg base A outer s H → BindsTo s fd args (ps.zip us) → Vals vs us → sp vs H Q E → vs.length = ps.length →
    codeAny (model P w) A (.call (.ref f) args) (CR (L2.CX P w) outer P w H s Q E) s
theorem GFn.mono {P : Program} {w : World} {K : PySem.W.Frag} {mg : Str → Option Value} {base : Heap} {j k : Nat} {f : Addr} {fd : FuncData} {ps : List Str} {sp : Sp} (g : GFn P w K mg base j f fd ps sp) (h : j ≤ k) : GFn P w K mg base k f fd ps sp :=
  ⟨fun A outer s H args us vs Q E hg hr => g.run A outer s H args us vs Q E hg (hr.mono h)⟩
/-- a def that may be called -/
structure CalOk (X : Cx) (k : Nat) (c : Ce) : Prop where
  ex : ∃ (f : Addr) (fd : FuncData) (ps : List Str), GFn X.prog X.w X.K X.mg X.base k f fd ps (spOf X.mg c.sem) ∧ ps.length = c.arity ∧ X.mg c.name = some (.ref f) ∧ PySem.W.keepIn X.K (.ref f) = true ∧ Binds X.K fd ps []
/-- a class of errors that may be raised with a text -/
structure ExcOk (X : Cx) (x : Str) : Prop where
  ex : ∃ C : Addr, X.mg x = some (.ref C) ∧ PySem.W.excIn X.K C [.type "ValueError", .type "Exception", .type "BaseException", .type "object"] "ValueError.__new__" = true ∧ PySem.W.keepIn X.K (.ref C) = true ∧
    PySem.W.subIn X.K (.ref C) (.type "BaseException") = some true ∧ PySem.W.typeIn X.K (.ref C) = some (.type "type")
def bltNames : List Str := ["len", "abs", "min", "max", "int", "list", "tuple", "all", "any", "sum", "repr", "isinstance", "bool", "str", "dict", "range", "enumerate", "zip"]
/-- the names of sc, as they are seen where one stands -/
structure Sees (sc : Scope) (X : Cx) : Prop where
  vis : ∀ n, visB sc n = true → Vis X.env.scope n
  loc : ∀ n, locB sc n = true → Loc X.env.scope n ∧ (X.fn n = true ∨ X.env.scope.names.lookup n = some .local)
  gl : ∀ n, glB sc n = true → X.env.scope.names.lookup n = some .globalImplicit
  lcl : ∀ n, lclB sc n = true → X.env.scope.names.lookup n = some .local
  fr : ∀ n, (sc.names.lookup n = some .cell ∨ sc.names.lookup n = some .free) → (X.env.scope.names.lookup n = some .cell ∨ X.env.scope.names.lookup n = some .free)
  kind : X.env.scope.kind = .function
/-- where one stands -/
structure OkX (G : Ge) (N : List Str) (k : Nat) (sc : Scope) (X : Cx) : Prop where
  hN : X.N = N
  nd : N.Nodup
  hsc : Sees sc X
  calm : X.calm = true
  room : Room k X.A
  grd : X.A.guards = some []
  cal : ∀ c ∈ G.ces, CalOk X k c
  con : ∀ x i, (x, i) ∈ G.con → ∃ t, X.mg x = some (.int i t)
  blt : ∀ x ∈ bltNames, X.mg x = none
  exo : ∀ c ∈ G.exc, ExcOk X c
  exm : ∀ x c vx vc, x ∈ G.exc → c ∈ G.exc → X.mg x = some vx → X.mg c = some vc → PySem.W.exmOne X.K vx vc = some (G.sub x c)

/-! ### readings -/
section
variable {α β γ δ : Type}
abbrev Rel (β α : Type) := Hp → Hp → Hp → List Addr → β → α → Prop
/-- what is wanted behind a part that is worth r -/
def Aft (mg : Str → Option Value) (W : WX) (T : Rel β α) (ρ : Rho) (σ : St) (ι : List Addr) (F0 H0 : Hp) (r : R α) (Q : β → Hp → Prop) : Prop := match r with
  | .ok a μ' => ∀ x F' H', Ext ι F0 H0 F' H' → Sat ρ μ' σ H' F' ι → T H0 F' H' ι x a → Q x H'
  | .exc e μ' => ∀ c d F' H', Ext ι F0 H0 F' H' → Sat ρ μ' σ H' F' ι → ExRep mg F' H' e c d → W c d σ H'
  | .stuck => False
def Rd (mg : Str → Option Value) (W : WX) (T : Rel β α) (m : Rho → List Cell → R α) : St → Hp → (β → Hp → Prop) → Prop := fun σ H Q =>
  ∃ ρ μ F ι, Sat ρ μ σ H F ι ∧ Aft mg W T ρ σ ι F H (m ρ μ) Q
abbrev RelE : Rel V SV := fun H0 F' H' ι x sv => VRep F' H' ι x sv ∧ NewV H0 x sv
abbrev RelB : Rel Bool Bool := fun _ _ _ _ x b => x = b
abbrev RelO : Rel (Option Int) (Option Int) := fun _ _ _ _ x b => x = b
abbrev RelK : Rel (List V) (List D) := fun _ F' _ _ vs ds => DtAll F' vs ds
abbrev RelL : Rel (List V) (List SV) := fun _ F' H' ι vs ss => Paired (VRep F' H' ι) vs ss
def AvRep (F : Hp) (ι : List Addr) (v : V) : AV → Prop
  | .dat d => Dt F v d
  | .tmp k => ∃ a, ι[k]? = some a ∧ v = .ref a
  | .own k => ∃ a, ι[k]? = some a ∧ v = .ref a
abbrev RelAV : Rel V AV := fun _ F' _ ι v a => AvRep F' ι v a
abbrev RelA : Rel (List V) (List AV) := fun _ F' _ ι vs as => Paired (AvRep F' ι) vs as
variable {mg : Str → Option Value} {W : WX} {ρ : Rho} {μ : List Cell} {σ : St} {ι : List Addr} {F0 H0 F H : Hp} {Q : β → Hp → Prop} {T : Rel β α} {U : Rel δ γ}
/-- one part, then the rest -/
theorem Aft.step {m : Rho → List Cell → R γ} {f : γ → List Cell → R α} (a : Aft mg W T ρ σ ι F0 H0 ((m ρ μ).bind f) Q) (S : Sat ρ μ σ H F ι) (e : Ext ι F0 H0 F H) :
    Rd mg W U m σ H fun x H1 => ∃ a1 μ1 F1, Ext ι F0 H0 F1 H1 ∧ Ext ι F H F1 H1 ∧ Sat ρ μ1 σ H1 F1 ι ∧ U H F1 H1 ι x a1 ∧ Aft mg W T ρ σ ι F0 H0 (f a1 μ1) Q := by
  refine ⟨ρ, μ, F, ι, S, ?_⟩
  cases h : m ρ μ with
  | ok a1 μ1 =>
    rw [h] at a
    exact fun x F1 H1 e1 S1 t => ⟨a1, μ1, F1, e.trans e1, e1, S1, t, a⟩
  | exc x μ1 =>
    rw [h] at a
    exact fun c d F1 H1 e1 S1 t => a c d F1 H1 (e.trans e1) S1 t
  | stuck =>
    rw [h] at a
    exact a.elim
theorem Rd.mono {m : Rho → List Cell → R α} {Q' : β → Hp → Prop} (h : Rd mg W T m σ H Q) (g : ∀ x H1, Q x H1 → Q' x H1) : Rd mg W T m σ H Q' := by
  obtain ⟨ρ, μ, F, ι, S, a⟩ := h
  refine ⟨ρ, μ, F, ι, S, ?_⟩
  cases e : m ρ μ with
  | ok a1 μ1 =>
    rw [e] at a
    exact fun x F1 H1 e1 S1 t => g _ _ (a x F1 H1 e1 S1 t)
  | exc x μ1 =>
    rw [e] at a
    exact a
  | stuck =>
    rw [e] at a
    exact a
/-- the last part -/
theorem Aft.last {m : Rho → List Cell → R α} (a : Aft mg W T ρ σ ι F0 H0 (m ρ μ) Q) (S : Sat ρ μ σ H F ι) (e : Ext ι F0 H0 F H) (t : ∀ x F' H' a, T H F' H' ι x a → T H0 F' H' ι x a) : Rd mg W T m σ H Q := by
  refine ⟨ρ, μ, F, ι, S, ?_⟩
  cases h : m ρ μ with
  | ok a1 μ1 =>
    rw [h] at a
    exact fun x F1 H1 e1 S1 y => a x F1 H1 (e.trans e1) S1 (t _ _ _ _ y)
  | exc x μ1 =>
    rw [h] at a
    exact fun c d F1 H1 e1 S1 y => a c d F1 H1 (e.trans e1) S1 y
  | stuck =>
    rw [h] at a
    exact a.elim
theorem Aft.of {o : Option γ} {f : γ → List Cell → R α} (a : Aft mg W T ρ σ ι F0 H0 ((R.of o μ).bind f) Q) : ∃ x, o = some x ∧ Aft mg W T ρ σ ι F0 H0 (f x μ) Q := by
  cases o with
  | none => exact a.elim
  | some x => exact ⟨x, rfl, a⟩
theorem Aft.of1 {o : Option α} (a : Aft mg W T ρ σ ι F0 H0 (R.of o μ) Q) : ∃ x, o = some x ∧ Aft mg W T ρ σ ι F0 H0 (.ok x μ) Q := by
  cases o with
  | none => exact a.elim
  | some x => exact ⟨x, rfl, a⟩
theorem Aft.asB {v : SV} {f : Bool → List Cell → R α} (a : Aft mg W T ρ σ ι F0 H0 ((asB v μ).bind f) Q) : ∃ b, v = .dat (.bool b) ∧ Aft mg W T ρ σ ι F0 H0 (f b μ) Q := by
  unfold DL.asB at a
  split at a
  · exact ⟨_, rfl, a⟩
  · exact a.elim
theorem Aft.asI {v : SV} {f : Int → List Cell → R α} (a : Aft mg W T ρ σ ι F0 H0 ((asI v μ).bind f) Q) : ∃ b, v = .dat (.int b) ∧ Aft mg W T ρ σ ι F0 H0 (f b μ) Q := by
  unfold DL.asI at a
  split at a
  · exact ⟨_, rfl, a⟩
  · exact a.elim
theorem Aft.keep {v : SV} {x : V} {G0 H1 F1 : Hp} {f : D → List Cell → R α} (a : Aft mg W T ρ σ ι F0 H0 ((v.keep μ).bind f) Q) (S : Sat ρ μ σ H1 F1 ι) (e : Ext ι F0 H0 F1 H1) (r : VRep F1 H1 ι x v) (n : NewV G0 x v) (g : ∀ b, G0 b = none → H0 b = none) :
    ∃ d μ' F', Ext ι F0 H0 F' H1 ∧ Same F1 F' ∧ Sat ρ μ' σ H1 F' ι ∧ Dt F' x d ∧ Aft mg W T ρ σ ι F0 H0 (f d μ') Q := by
  have n0 : NewV H0 x v := by
    cases v with
    | fre ds => exact fun p z => g p (n p z)
    | _ => trivial
  cases h : v.keep μ with
  | ok d μ' =>
    rw [h] at a
    obtain ⟨F', e', sf, S', q⟩ := S.keep e r n0 h
    exact ⟨d, μ', F', e', sf, S', q, a⟩
  | exc x μ' => exact (keep_exc h).elim
  | stuck =>
    rw [h] at a
    exact a.elim
theorem Ext.htw (e : Ext ι F0 H0 F H) : ∀ b, H b = none → H0 b = none := e.ht
/-- behind an operation on values -/
theorem OpE.ext {F' H' : Hp} (o : OpE F H F' H') : Ext ι F H F' H' := ⟨o.fs, fun b u h _ => o.hs b u h, fun b h => Same.free o.hs h, fun b u h => (o.new b u h).elim .inl fun z => .inr (.inl z)⟩
theorem OpE.sat {F' H' : Hp} (o : OpE F H F' H') (S : Sat ρ μ σ H F ι) : Sat ρ μ σ H' F' ι where
  sub := o.sub
  len := S.len
  nod := S.nod
  cell := fun k a c h1 h2 => by
    obtain ⟨vs, q, al, f1, f2⟩ := S.cell k a c h1 h2
    refine ⟨vs, o.hs _ _ q, DtAll.mono o.fs al, fun z => o.fs _ _ (f1 z), fun z => ?_⟩
    cases y : F' a with
    | none => rfl
    | some u =>
      rcases o.new a u y with z' | z'
      · rw [f2 z] at z'
        cases z'
      · rw [q] at z'
        cases z'
  slen := S.slen
  slot := fun i sv e => by
    obtain ⟨w, e1, q⟩ := S.slot i sv e
    refine ⟨w, e1, ?_⟩
    cases sv with
    | dat d => exact Dt.mono o.fs q
    | own k => exact q
    | fre _ => exact q
theorem RV.vrep {F' H' : Hp} {v : V} {res : SV} (S : Sat ρ μ σ H F ι) (r : RV F' H' H v res) : VRep F' H' ι v res ∧ NewV H v res := by
  cases res with
  | dat d => exact ⟨r, trivial⟩
  | own k => exact r.elim
  | fre ds =>
    obtain ⟨p, vs, rfl, h, h', f, al⟩ := r
    refine ⟨⟨p, vs, rfl, h', f, S.notIn h, al⟩, fun q z => ?_⟩
    cases z
    exact h
theorem NewV.back {v : V} {sv : SV} (n : NewV H v sv) (g : ∀ b, H b = none → H0 b = none) : NewV H0 v sv := by
  cases sv with
  | fre ds => exact fun p z => g p (n p z)
  | _ => trivial
/-- the end of an expression that is an operation on values -/
theorem Aft.aftr {res : SV} {Q : VK} (a : Aft mg W RelE ρ σ ι F0 H0 (.ok res μ) Q) (S : Sat ρ μ σ H F ι) (e : Ext ι F0 H0 F H) : Aftr F H res Q := fun v F' H' o r => by
  obtain ⟨h1, h2⟩ := RV.vrep S r
  exact a v F' H' (e.trans o.ext) (o.sat S) ⟨h1, h2.back e.ht⟩
/-- the end of an expression that is worth plain data where it stands -/
theorem Aft.end_ {d : D} {Q : VK} {x : V} (a : Aft mg W RelE ρ σ ι F0 H0 (.ok (.dat d) μ) Q) (S : Sat ρ μ σ H F ι) (e : Ext ι F0 H0 F H) (h : Dt F x d) : Q x H := a x F H e S ⟨h, trivial⟩
end
theorem PE.imp {X : Cx} {e : Expr} {t t' : TE} (h : PE X e t) (i : ∀ σ H Q, t' σ H Q → t σ H Q) : PE X e t' := ⟨fun pins s σ H Q I q => h.run pins s σ H Q I (i σ H Q q)⟩
theorem PT.imp {X : Cx} {e : Expr} {t t' : TT} (h : PT X e t) (i : ∀ σ H Q, t' σ H Q → t σ H Q) : PT X e t' := ⟨fun pins s σ H Q I q => h.run pins s σ H Q I (i σ H Q q)⟩
theorem PW.imp {X : Cx} {e : Expr} {t t' : TT} (h : PW X e t) (i : ∀ σ H Q, t' σ H Q → t σ H Q) : PW X e t' := ⟨fun wh pins s σ H Q I q => h.run wh pins s σ H Q I (i σ H Q q)⟩
theorem PA.imp {X : Cx} {e : List Expr} {t t' : TA} (h : PA X e t) (i : ∀ σ H Q, t' σ H Q → t σ H Q) : PA X e t' := ⟨fun pos pins s σ H Q I q => h.run pos pins s σ H Q I (i σ H Q q)⟩
theorem PO.imp {X : Cx} {e : Option Expr} {t t' : TO} (h : PO X e t) (i : ∀ σ H Q, t' σ H Q → t σ H Q) : PO X e t' := ⟨fun pins s σ H Q I q => h.run pins s σ H Q I (i σ H Q q)⟩
theorem PS.imp {X : Cx} {e : Stmt} {t t' : TS} (h : PS X e t) (i : ∀ D σ H, t' D σ H → t D σ H) : PS X e t' := ⟨fun pins s σ H D I q => h.run pins s σ H D I (i D σ H q)⟩
theorem PSs.imp {X : Cx} {e : List Stmt} {t t' : TS} (h : PSs X e t) (i : ∀ D σ H, t' D σ H → t D σ H) : PSs X e t' := ⟨fun pins s σ H D I q => h.run pins s σ H D I (i D σ H q)⟩
end DL

set_option maxHeartbeats 1000000
/-! DL7: expressions do what the function of the text says. -/
namespace DL
open PySem PySem.Spec PyProof.Rows L2
def Star1 (e : Expr) : Prop := ∀ (es : List Expr) (env : Env), starEach (e :: es) env = (false, eval e env) :: starEach es env
def NoStar (l : List Expr) : Prop := ∀ (pos : Pos) (env : Env), (backTo pos (starEach l env)).any (·.1) = false
structure SE (G : Ge) (N : List Str) (k : Nat) (ir : IR) : Prop where
  e : ∀ {sc : Scope} {X : Cx} {W : WX} {x : Expr}, OkX G N k sc X → Takes X W → (mt G N ir).e sc x = true → PE X x (Rd X.mg W RelE (den G ir).e)
  t : ∀ {sc : Scope} {X : Cx} {W : WX} {x : Expr}, OkX G N k sc X → Takes X W → (mt G N ir).e sc x = true → PT X x (Rd X.mg W RelB (testR (den G ir).e))
  st : ∀ {sc : Scope} {x : Expr}, (mt G N ir).e sc x = true → Star1 x
  a : ∀ {sc : Scope} {X : Cx} {W : WX} {x : Expr}, OkX G N k sc X → Takes X W → (mt G N ir).a sc x = true → PE X x (Rd X.mg W RelAV (den G ir).av)
  ast : ∀ {sc : Scope} {x : Expr}, (mt G N ir).a sc x = true → Star1 x
  o : ∀ {sc : Scope} {X : Cx} {W : WX} {x : Option Expr}, OkX G N k sc X → Takes X W → (mt G N ir).o sc x = true → PO X x (Rd X.mg W RelO (den G ir).o)
structure SL (G : Ge) (N : List Str) (k : Nat) (ir : IR) : Prop where
  b : ∀ {sc : Scope} {X : Cx} {W : WX} {l : List Expr}, OkX G N k sc X → Takes X W → (mt G N ir).es sc l = true → PA X l (Rd X.mg W RelL (den G ir).b)
  kl : ∀ {sc : Scope} {X : Cx} {W : WX} {l : List Expr}, OkX G N k sc X → Takes X W → (mt G N ir).es sc l = true → PA X l fun σ H Q => Rd X.mg W RelK (den G ir).k σ H fun vs H1 => vs.length = l.length → Q vs H1
  aa : ∀ {sc : Scope} {X : Cx} {W : WX} {l : List Expr}, OkX G N k sc X → Takes X W → (mt G N ir).as sc l = true → PA X l (Rd X.mg W RelA (den G ir).a)
  bc : ∀ {sc : Scope} {X : Cx} {W : WX} {l : List Expr} {o : BoolOp} {e : Expr} {p : Pos}, OkX G N k sc X → Takes X W → (mt G N ir).es sc (e :: l) = true → PE X (.BoolOp o (e :: l) p) (Rd X.mg W RelE ((den G ir).bc o))
  bt : ∀ {sc : Scope} {X : Cx} {W : WX} {l : List Expr} {o : BoolOp} {e : Expr} {p : Pos}, OkX G N k sc X → Takes X W → (mt G N ir).es sc (e :: l) = true → PW X (.BoolOp o (e :: l) p) (Rd X.mg W RelB (testR ((den G ir).bc o)))
  sl : ∀ {sc : Scope} {l : List Expr}, (mt G N ir).es sc l = true → NoStar l
  asl : ∀ {sc : Scope} {l : List Expr}, (mt G N ir).as sc l = true → NoStar l
section
variable {G : Ge} {N : List Str} {k : Nat} {ir x y z : IR}
theorem SL.none (h1 : ∀ sc l, (mt G N ir).es sc l = false) (h2 : ∀ sc l, (mt G N ir).as sc l = false) : SL G N k ir where
  b := fun _ _ h => by
    rw [h1] at h
    cases h
  kl := fun _ _ h => by
    rw [h1] at h
    cases h
  aa := fun _ _ h => by
    rw [h2] at h
    cases h
  bc := fun _ _ h => by
    rw [h1] at h
    cases h
  bt := fun _ _ h => by
    rw [h1] at h
    cases h
  sl := fun h => by
    rw [h1] at h
    cases h
  asl := fun h => by
    rw [h2] at h
    cases h
theorem SE.none (h1 : ∀ sc l, (mt G N ir).e sc l = false) (h2 : ∀ sc l, (mt G N ir).a sc l = false) (h3 : ∀ sc l, (mt G N ir).o sc l = false) : SE G N k ir where
  e := fun _ _ h => by
    rw [h1] at h
    cases h
  t := fun _ _ h => by
    rw [h1] at h
    cases h
  st := fun h => by
    rw [h1] at h
    cases h
  a := fun _ _ h => by
    rw [h2] at h
    cases h
  ast := fun h => by
    rw [h2] at h
    cases h
  o := fun _ _ h => by
    rw [h3] at h
    cases h
/-- a test by an expression's truth value -/
theorem tB_of {X : Cx} {W : WX} {m : Rho → List Cell → R SV} {σ : St} {H : Hp} {Q : Bool → Hp → Prop} (h : Rd X.mg W RelB (testR m) σ H Q) : tB (Rd X.mg W RelE m) σ H Q := by
  obtain ⟨ρ, μ, F, ι, S, a⟩ := h
  refine Rd.mono (Aft.step (U := RelE) a S Ext.refl) fun x H1 ⟨v, μ1, F1, e1, _, S1, ⟨r, _⟩, a⟩ => ?_
  unfold asB at a
  split at a
  · cases r
    exact ⟨_, rfl, a _ F1 H1 e1 S1 rfl⟩
  · exact a.elim
theorem pt_of {X : Cx} {W : WX} {m : Rho → List Cell → R SV} {e : Expr} (h : PE X e (Rd X.mg W RelE m)) (he : ∀ whole, isTrue e X.env whole = (do let v ← whole; standAt e.pos; holding [v] (truthy v))) : PT X e (Rd X.mg W RelB (testR m)) :=
  PT.imp (pt_val h he) fun _ _ _ => tB_of
/-- an argument, by its expression -/
theorem pe_av {X : Cx} {W : WX} {m : Rho → List Cell → R SV} {e : Expr} (h : PE X e (Rd X.mg W RelE m)) : PE X e (Rd X.mg W RelAV fun ρ μ => (m ρ μ).bind avOf) := by
  refine PE.imp h fun σ H Q ⟨ρ, μ, F, ι, S, a⟩ => Rd.mono (Aft.step (U := RelE) a S Ext.refl) fun x H1 ⟨v, μ1, F1, e1, _, S1, ⟨r, n⟩, a⟩ => ?_
  cases v with
  | dat d => exact a x F1 H1 e1 S1 r
  | own j => exact a x F1 H1 e1 S1 r
  | fre ds =>
    obtain ⟨F2, e2, _, S2, q⟩ := S1.keep e1 r n (d := .list ds) (μ' := μ1) rfl
    exact a x F2 H1 e2 S2 q
theorem po_of {X : Cx} {W : WX} {m : Rho → List Cell → R SV} {e : Expr} (h : PE X e (Rd X.mg W RelE m)) : PO X (some e) (Rd X.mg W RelO fun ρ μ => (m ρ μ).bind intO) := by
  refine PO.imp (po_some h) fun σ H Q ⟨ρ, μ, F, ι, S, a⟩ => Rd.mono (Aft.step (U := RelE) a S Ext.refl) fun x H1 ⟨v, μ1, F1, e1, _, S1, ⟨r, n⟩, a⟩ => ?_
  unfold intO at a
  split at a
  · cases r
    exact ⟨_, rfl, a _ F1 H1 e1 S1 rfl⟩
  · exact a.elim
/-- what an expression's text gives besides -/
theorem SE.of {m : Rho → List Cell → R SV} {f : Scope → Expr → Bool} (hd : den G ir = Den.ofE m) (hm : mt G N ir = Mt.ofE f)
    (he : ∀ {sc : Scope} {X : Cx} {W : WX} {x : Expr}, OkX G N k sc X → Takes X W → f sc x = true → PE X x (Rd X.mg W RelE m) ∧ PT X x (Rd X.mg W RelB (testR m)))
    (hs : ∀ {sc : Scope} {x : Expr}, f sc x = true → Star1 x) : SE G N k ir where
  e := fun ok tk h => by
    rw [hm] at h
    rw [hd]
    exact (he ok tk h).1
  t := fun ok tk h => by
    rw [hm] at h
    rw [hd]
    exact (he ok tk h).2
  st := fun h => by
    rw [hm] at h
    exact hs h
  a := fun ok tk h => by
    rw [hm] at h
    rw [hd]
    exact pe_av (he ok tk h).1
  ast := fun h => by
    rw [hm] at h
    exact hs h
  o := fun {sc X W x} ok tk h => by
    rw [hm] at h
    rw [hd]
    cases x with
    | none => cases h
    | some e => exact po_of (he ok tk h).1

/-! ### names and constants -/
theorem vis_of {sc : Scope} {X : Cx} {n : Str} (hsc : Sees sc X) (h : visB sc n = true) : Vis X.env.scope n := hsc.vis n h
theorem loc_of {sc : Scope} {X : Cx} {n : Str} (hsc : Sees sc X) (h : locB sc n = true) : Loc X.env.scope n := (hsc.loc n h).1
theorem gl_of {sc : Scope} {X : Cx} {n : Str} (hsc : Sees sc X) (h : glB sc n = true) : Gl X n := hsc.gl n h
theorem fn_of' {sc : Scope} {X : Cx} {n : Str} (ok : OkX G N k sc X) (h : locB sc n = true) : X.fn n = true ∨ X.env.scope.names.lookup n = some .local := (ok.hsc.loc n h).2
/-- where the scope is one's own -/
theorem Sees.of {sc : Scope} {X : Cx} (e : X.env.scope = sc) (hk : sc.kind = .function) (fn : ∀ x, sc.names.lookup x = some .cell → X.fn x = true) : Sees sc X where
  vis := fun n h => by
    rw [e]
    unfold visB at h
    split at h
    · exact .inl (by assumption)
    · exact .inr (.inl (by assumption))
    · exact .inr (.inr (by assumption))
    · cases h
  loc := fun n h => by
    rw [e]
    unfold locB at h
    split at h
    · exact ⟨.inl (by assumption), .inr (by assumption)⟩
    · exact ⟨.inr (by assumption), .inl (fn _ (by assumption))⟩
    · cases h
  gl := fun n h => by
    rw [e]
    unfold glB at h
    split at h
    · assumption
    · cases h
  lcl := fun n h => by
    rw [e]
    unfold lclB at h
    split at h
    · assumption
    · cases h
  fr := fun n h => by
    rw [e]
    exact h
  kind := by rw [e]; exact hk
theorem okName_of {n : Str} (h : okName n = true) : (n == ("__debug__" : Str)) = false ∧ (n == ("__classdict__" : Str)) = false ∧ n ≠ "__name__" := by
  unfold okName at h
  simpa [Bool.and_eq_true, and_assoc] using h
theorem pe_slot {sc : Scope} {X : Cx} {W : WX} {n : Str} {p : Pos} {i : Nat} (ok : OkX G N k sc X) (h1 : N[i]? = some n) (h2 : visB sc n = true) (h3 : okName n = true) : PE X (.Name n p) (Rd X.mg W RelE fun ρ μ => slot ρ i μ) := by
  obtain ⟨n1, n2, _⟩ := okName_of h3
  refine PE.imp (pe_var (i := i) (by rw [ok.hN]; exact h1) (vis_of ok.hsc h2) n1 n2) fun σ H Q ⟨ρ, μ, F, ι, S, a⟩ => ?_
  replace a : Aft X.mg W RelE ρ σ ι F H (slot ρ i μ) Q := a
  unfold slot at a
  split at a
  · rename_i v e
    obtain ⟨w, e1, q⟩ := S.slot i v e
    refine ⟨w, e1, a w F H Ext.refl S ⟨?_, ?_⟩⟩
    · cases v with
      | dat d => exact q
      | own j => exact q
      | fre ds => exact q.elim
    · cases v with
      | fre ds => exact q.elim
      | _ => trivial
  · exact a.elim
theorem se_var {i : Nat} : SE G N k (.var i) := by
  refine SE.of rfl rfl (fun {sc X W x} ok tk h => ?_) fun {sc x} h => ?_
  · split at h
    · simp only [Bool.and_eq_true, decide_eq_true_eq] at h
      have q := pe_slot (W := W) (p := by assumption) ok h.1.1 h.1.2 h.2
      exact ⟨q, pt_of q fun _ => rfl⟩
    · cases h
  · split at h
    · exact fun _ _ => rfl
    · cases h
theorem se_lend {i : Nat} : SE G N k (.lend i) := by
  refine ⟨(fun _ _ h => nomatch h), (fun _ _ h => nomatch h), (fun h => nomatch h), fun {sc X W x} ok tk h => ?_, fun {sc x} h => ?_, (fun _ _ h => nomatch h)⟩
  · dsimp only [mt] at h
    split at h
    · simp only [Bool.and_eq_true, decide_eq_true_eq] at h
      refine PE.imp (pe_slot (W := W) ok h.1.1 h.1.2 h.2) fun σ H Q ⟨ρ, μ, F, ι, S, a⟩ => Rd.mono (Aft.step (U := RelE) a S Ext.refl) fun x H1 ⟨v, μ1, F1, e1, _, S1, ⟨r, n⟩, a⟩ => ?_
      cases v with
      | dat d => exact a.elim
      | fre d => exact a.elim
      | own j => exact a x F1 H1 e1 S1 r
    · cases h
  · dsimp only [mt] at h
    split at h
    · exact fun _ _ => rfl
    · cases h
def litV : D → V
  | .bool b => .bl b
  | .int i => .int i
  | .str x => .str x
  | _ => .non
theorem pe_lit {X : Cx} {W : WX} {d : D} {c : Const} {j : Nat} {p : Pos} (h : litB d c = true) : PE X (.Constant c j p) (Rd X.mg W RelE fun _ μ => .ok (.dat d) μ) := by
  unfold litB at h
  split at h
  · exact PE.imp pe_non fun σ H Q ⟨ρ, μ, F, ι, S, a⟩ => a.end_ S Ext.refl .non
  · cases of_decide_eq_true h
    exact PE.imp pe_bl fun σ H Q ⟨ρ, μ, F, ι, S, a⟩ => a.end_ S Ext.refl (.bl _)
  · cases of_decide_eq_true h
    exact PE.imp pe_int fun σ H Q ⟨ρ, μ, F, ι, S, a⟩ => a.end_ S Ext.refl (.int _)
  · cases of_decide_eq_true h
    exact PE.imp pe_str fun σ H Q ⟨ρ, μ, F, ι, S, a⟩ => a.end_ S Ext.refl (.str _)
  · cases h
theorem se_lit {d : D} : SE G N k (.lit d) := by
  refine SE.of rfl rfl (fun {sc X W x} ok tk h => ?_) fun {sc x} h => ?_
  · split at h
    · have q := pe_lit (X := X) (W := W) (p := by assumption) (j := by assumption) h
      exact ⟨q, pt_of q fun _ => rfl⟩
    · cases h
  · split at h
    · exact fun _ _ => rfl
    · cases h
theorem se_glb {y : Str} {d : D} : SE G N k (.glb y d) := by
  refine SE.of rfl rfl (fun {sc X W x} ok tk h => ?_) fun {sc x} h => ?_
  · split at h
    · simp only [Bool.and_eq_true, decide_eq_true_eq] at h
      obtain ⟨⟨⟨h1, h2⟩, h3⟩, h4⟩ := h
      subst h1
      obtain ⟨t, hm⟩ := ok.con _ _ h4
      have q : PE X _ (Rd X.mg W RelE fun _ μ => .ok (.dat (.int _)) μ) := PE.imp (pe_glob (pos := by assumption) (gl_of ok.hsc h2) hm (v := .int _) ⟨t, rfl⟩ (okName_of h3).1) fun σ H Q ⟨ρ, μ, F, ι, S, a⟩ => a.end_ S Ext.refl (.int _)
      exact ⟨q, pt_of q fun _ => rfl⟩
    · cases h
  · split at h
    · exact fun _ _ => rfl
    · cases h
end
end DL

set_option maxHeartbeats 1000000
/-! DL8: operators, tests, displays, subscripts, built-ins. -/
namespace DL
open PySem PySem.Spec PyProof.Rows L2
theorem R.assoc {α β γ : Type} (r : R α) (f : α → List Cell → R β) (g : β → List Cell → R γ) : (r.bind f).bind g = r.bind fun a μ => (f a μ).bind g := by
  cases r <;> rfl
section
variable {α : Type} {mg : Str → Option Value} {W : WX} {ρ : Rho} {μ : List Cell} {σ : St} {ι : List Addr} {F0 H0 F H : Hp} {β : Type} {Q : β → Hp → Prop} {T : Rel β α}
theorem Aft.look {v : SV} {f : D → List Cell → R α} {x : V} (a : Aft mg W T ρ σ ι F0 H0 ((look1 v μ).bind f) Q) (S : Sat ρ μ σ H F ι) (r : VRep F H ι x v) : ∃ d, BV F H x d ∧ Aft mg W T ρ σ ι F0 H0 (f d μ) Q := by
  obtain ⟨d, e, a⟩ := Aft.of (o := v.look μ) a
  exact ⟨d, r.look S e, a⟩
end
section
variable {G : Ge} {N : List Str} {k : Nat} {x y z : IR}
/-- a test's reading as the value's -/
theorem tB_to {X : Cx} {W : WX} {m : Rho → List Cell → R SV} {σ : St} {H : Hp} {Q : Bool → Hp → Prop} (h : Rd X.mg W RelB (testR m) σ H Q) : Rd X.mg W RelE m σ H fun x H' => ∃ k, x = .bl k ∧ Q k H' := tB_of h
theorem units_of {sc : Scope} {X : Cx} (ok : OkX G N k sc X) : X.A.units + 64 < cLine := ok.room.units
theorem units70 {sc : Scope} {X : Cx} (ok : OkX G N k sc X) : X.A.units + 70 < cLine := by
  have := ok.room.un
  omega
theorem se_bin {o : Operator} (hx : SE G N k x) (hy : SE G N k y) : SE G N k (.bin o x y) := by
  refine SE.of rfl rfl (fun {sc X W e} ok tk h => ?_) fun {sc e} h => ?_
  · split at h
    · simp only [Bool.and_eq_true, decide_eq_true_eq] at h
      obtain ⟨⟨rfl, h1⟩, h2⟩ := h
      refine (fun q => ⟨q, pt_of q fun _ => rfl⟩) (PE.imp (pe_op (op_bin o) (hx.e ok tk h1) (hy.e ok tk h2)) fun σ H Q ⟨ρ, μ, F, ι, S, a⟩ => ?_)
      refine Rd.mono (Aft.step (U := RelE) a S Ext.refl) fun v1 H1 ⟨s1, μ1, F1, e1, d1, S1, ⟨r1, n1⟩, a⟩ => ?_
      refine Rd.mono (Aft.step (U := RelE) a S1 e1) fun v2 H2 ⟨s2, μ2, F2, e2, d2, S2, ⟨r2, n2⟩, a⟩ => ?_
      obtain ⟨da, b1, a⟩ := a.look S2 (r1.mono S1 d2)
      obtain ⟨db, b2, a⟩ := a.look S2 r2
      obtain ⟨res, l3, a⟩ := a.of1
      exact ⟨F2, da, db, res, S2.sub, b1, b2, l3, a.aftr S2 e2⟩
    · cases h
  · split at h
    · exact fun _ _ => rfl
    · cases h
theorem se_neg (hx : SE G N k x) : SE G N k (.neg x) := by
  refine SE.of rfl rfl (fun {sc X W e} ok tk h => ?_) fun {sc e} h => ?_
  · split at h
    · refine (fun q => ⟨q, pt_of q fun _ => rfl⟩) (PE.imp (pe_un un_neg (hx.e ok tk h)) fun σ H Q ⟨ρ, μ, F, ι, S, a⟩ => ?_)
      refine Rd.mono (Aft.step (U := RelE) a S Ext.refl) fun v1 H1 ⟨s1, μ1, F1, e1, d1, S1, ⟨r1, n1⟩, a⟩ => ?_
      obtain ⟨i, rfl, a⟩ := a.asI
      cases r1
      exact ⟨i, rfl, a.end_ S1 e1 (.int _)⟩
    · cases h
  · split at h
    · exact fun _ _ => rfl
    · cases h
theorem se_nt (hx : SE G N k x) : SE G N k (.nt x) := by
  refine SE.of rfl rfl (fun {sc X W e} ok tk h => ?_) fun {sc e} h => ?_
  · split at h
    · constructor
      · refine PE.imp (pe_not (hx.e ok tk h)) fun σ H Q ⟨ρ, μ, F, ι, S, a⟩ => ?_
        refine Rd.mono (Aft.step (U := RelE) a S Ext.refl) fun v1 H1 ⟨s1, μ1, F1, e1, d1, S1, ⟨r1, n1⟩, a⟩ => ?_
        obtain ⟨b, rfl, a⟩ := a.asB
        cases r1
        exact ⟨b, rfl, a.end_ S1 e1 (.bl _)⟩
      · refine PT.imp (pt_not (hx.t ok tk h)) fun σ H Q ⟨ρ, μ, F, ι, S, a⟩ => ?_
        have e : testR (fun ρ μ => ((den G x).e ρ μ).bind fun v μ1 => (asB v μ1).bind fun c μ2 => dB (!c) μ2) ρ μ = (testR (den G x).e ρ μ).bind fun c μ2 => .ok (!c) μ2 := by
          unfold testR
          rw [R.assoc, R.assoc]
          congr 1
          funext v μ1
          rw [R.assoc]
          rfl
        rw [e] at a
        exact Rd.mono (Aft.step (U := RelB) a S Ext.refl) fun b H1 ⟨b', μ1, F1, e1, d1, S1, r1, a⟩ => a _ F1 H1 e1 S1 (by rw [r1])
    · cases h
  · split at h
    · exact fun _ _ => rfl
    · cases h
theorem noMarks_of {o : CmpOp} {b : Expr} (h : noMarks o b = true) : behindInMarks o b = false := by
  unfold noMarks at h
  simpa using h
theorem rd_cmp {X : Cx} {W : WX} {o : CmpOp} {mx my : Rho → List Cell → R SV} {σ : St} {H : Hp} {Q : VK}
    (h : Rd X.mg W RelE (fun ρ μ => (mx ρ μ).bind fun v μ1 => (my ρ μ1).bind fun w μ2 => (look1 v μ2).bind fun a μ3 => (look1 w μ3).bind fun b μ4 => (R.of (cmp2 o a b) μ4).bind dB) σ H Q) :
    tOp (rC (cmp2 o)) (Rd X.mg W RelE mx) (Rd X.mg W RelE my) σ H Q := by
  obtain ⟨ρ, μ, F, ι, S, a⟩ := h
  refine Rd.mono (Aft.step (U := RelE) a S Ext.refl) fun v1 H1 ⟨s1, μ1, F1, e1, d1, S1, ⟨r1, n1⟩, a⟩ => ?_
  refine Rd.mono (Aft.step (U := RelE) a S1 e1) fun v2 H2 ⟨s2, μ2, F2, e2, d2, S2, ⟨r2, n2⟩, a⟩ => ?_
  obtain ⟨da, b1, a⟩ := a.look S2 (r1.mono S1 d2)
  obtain ⟨db, b2, a⟩ := a.look S2 r2
  obtain ⟨res, l3, a⟩ := a.of
  exact ⟨F2, da, db, res, S2.sub, b1, b2, l3, a.end_ S2 e2 (.bl _)⟩
theorem se_cmp {o : CmpOp} (hx : SE G N k x) (hy : SE G N k y) : SE G N k (.cmp o x y) := by
  refine SE.of rfl rfl (fun {sc X W e} ok tk h => ?_) fun {sc e} h => ?_
  · split at h
    · simp only [Bool.and_eq_true, decide_eq_true_eq] at h
      obtain ⟨⟨⟨rfl, h1⟩, h2⟩, h3⟩ := h
      exact ⟨PE.imp (pe_cmpR (op_cmp o (units_of ok)) (hx.e ok tk h1) (hy.e ok tk h2) (noMarks_of h3)) fun σ H Q q => rd_cmp q,
        PT.imp (pt_cmpR (op_cmp o (units_of ok)) (hx.e ok tk h1) (hy.e ok tk h2) (noMarks_of h3)) fun σ H Q q => rd_cmp (tB_to q)⟩
    · cases h
  · split at h
    · exact fun _ _ => rfl
    · cases h
theorem se_chn {o o' : CmpOp} (hx : SE G N k x) (hy : SE G N k y) (hz : SE G N k z) : SE G N k (.chn o o' x y z) := by
  refine SE.of rfl rfl (fun {sc X W e} ok tk h => ?_) fun {sc e} h => ?_
  · split at h
    · simp only [Bool.and_eq_true, decide_eq_true_eq] at h
      obtain ⟨⟨⟨⟨⟨⟨rfl, rfl⟩, h1⟩, h2⟩, h3⟩, h4⟩, h5⟩ := h
      have hm := noMarks_of h5
      have go : ∀ (σ : St) (H : Hp) (Q : VK), Rd X.mg W RelE (den G (.chn o o' x y z)).e σ H Q → tChain (rC (cmp2 o)) (rC (cmp2 o')) (Rd X.mg W RelE (den G x).e) (Rd X.mg W RelE (den G y).e) (Rd X.mg W RelE (den G z).e) σ H Q := by
        intro σ H Q ⟨ρ, μ, F, ι, S, a⟩
        refine Rd.mono (Aft.step (U := RelE) a S Ext.refl) fun v1 H1 ⟨s1, μ1, F1, e1, d1, S1, ⟨r1, n1⟩, a⟩ => ?_
        refine Rd.mono (Aft.step (U := RelE) a S1 e1) fun v2 H2 ⟨s2, μ2, F2, e2, d2, S2, ⟨r2, n2⟩, a⟩ => ?_
        obtain ⟨da, b1, a⟩ := a.look S2 (r1.mono S1 d2)
        obtain ⟨db, b2, a⟩ := a.look S2 r2
        obtain ⟨res, l3, a⟩ := a.of
        refine ⟨F2, da, db, res, S2.sub, b1, b2, l3, res, rfl, ?_⟩
        cases res with
        | false => exact iteF (a.end_ S2 e2 (.bl _))
        | true =>
          refine iteT (Rd.mono (Aft.step (U := RelE) a S2 e2) fun v3 H3 ⟨s3, μ3, F3, e3, d3, S3, ⟨r3, n3⟩, a⟩ => ?_)
          obtain ⟨dc, b3, a⟩ := a.look S3 (r2.mono S2 d3)
          obtain ⟨dd, b4, a⟩ := a.look S3 r3
          obtain ⟨res, l4, a⟩ := a.of
          exact ⟨F3, dc, dd, res, S3.sub, b3, b4, l4, a.end_ S3 e3 (.bl _)⟩
      exact ⟨PE.imp (pe_chain (op_cmp o (units_of ok)) (op_cmp o' (units_of ok)) (hx.e ok tk h1) (hy.e ok tk h2) (hz.e ok tk h3) hm) go,
        PT.imp (pt_chain (op_cmp o (units_of ok)) (op_cmp o' (units_of ok)) (hx.e ok tk h1) (hy.e ok tk h2) (hz.e ok tk h3) hm) fun σ H Q q => go σ H _ (tB_to q)⟩
    · cases h
  · split at h
    · exact fun _ _ => rfl
    · cases h
theorem se_bop {o : BoolOp} (hx : SL G N k x) : SE G N k (.bop o x) := by
  refine SE.of rfl rfl (fun {sc X W e} ok tk h => ?_) fun {sc e} h => ?_
  · split at h
    · simp only [Bool.and_eq_true, decide_eq_true_eq] at h
      obtain ⟨rfl, h1⟩ := h
      exact ⟨hx.bc ok tk h1, PW.pt (hx.bt ok tk h1)⟩
    · cases h
  · split at h
    · exact fun _ _ => rfl
    · cases h
theorem se_ife (hx : SE G N k x) (hy : SE G N k y) (hz : SE G N k z) : SE G N k (.ife x y z) := by
  refine SE.of rfl rfl (fun {sc X W e} ok tk h => ?_) fun {sc e} h => ?_
  · split at h
    · simp only [Bool.and_eq_true] at h
      obtain ⟨⟨h1, h2⟩, h3⟩ := h
      constructor
      · refine PE.imp (pe_ifExp (hx.t ok tk h1) (hy.e ok tk h2) (hz.e ok tk h3)) fun σ H Q ⟨ρ, μ, F, ι, S, a⟩ => ?_
        refine Rd.mono (Aft.step (U := RelB) a S Ext.refl) fun b H1 ⟨b', μ1, F1, e1, d1, S1, r1, a⟩ => ?_
        cases r1
        cases b with
        | true => exact iteT (Aft.last a S1 e1 fun v F' H' s ⟨r, n⟩ => ⟨r, n.back e1.ht⟩)
        | false => exact iteF (Aft.last a S1 e1 fun v F' H' s ⟨r, n⟩ => ⟨r, n.back e1.ht⟩)
      · refine ⟨fun pins s σ H Q I q => ?_⟩
        obtain ⟨ρ, μ, F, ι, S, a⟩ := q
        have e : testR (fun ρ μ => (testR (den G x).e ρ μ).bind fun b μ1 => match b with
            | true => (den G y).e ρ μ1
            | false => (den G z).e ρ μ1) ρ μ = (testR (den G x).e ρ μ).bind fun b μ1 => match b with
            | true => testR (den G y).e ρ μ1
            | false => testR (den G z).e ρ μ1 := by
          show R.bind (R.bind _ _) _ = _
          rw [R.assoc]
          congr 1
          funext b μ1
          cases b <;> rfl
        replace a := (congrArg (fun r => Aft X.mg W RelB ρ σ ι F H r Q) e).mp a
        refine isTrue_IfExp (thn ((hx.t ok tk h1).run pins s σ H _ I (Aft.step (U := RelB) a S Ext.refl)) fun b s1 ⟨H1, I1, b', μ1, F1, e1, d1, S1, r1, a⟩ => ?_)
        cases r1
        cases b with
        | true => exact (hy.t ok tk h2).run pins s1 σ H1 Q I1 (Aft.last a S1 e1 fun _ _ _ _ z => z)
        | false => exact (hz.t ok tk h3).run pins s1 σ H1 Q I1 (Aft.last a S1 e1 fun _ _ _ _ z => z)
    · cases h
  · split at h
    · exact fun _ _ => rfl
    · cases h
theorem size7 {n : Nat} (h : n ≤ 10000000) : n ≤ sizeLine := by
  have := sizeLine_eq
  omega
theorem se_tup (hx : SL G N k x) : SE G N k (.tup x) := by
  refine SE.of rfl rfl (fun {sc X W e} ok tk h => ?_) fun {sc e} h => ?_
  · split at h
    · simp only [Bool.and_eq_true, decide_eq_true_eq] at h
      obtain ⟨h1, h2⟩ := h
      refine (fun q => ⟨q, pt_of q fun _ => rfl⟩) (PE.imp (pe_tup (hx.kl ok tk h1)) fun σ H Q ⟨ρ, μ, F, ι, S, a⟩ => ?_)
      refine (Rd.mono (Aft.step (U := RelK) a S Ext.refl) fun vs H1 ⟨ds, μ1, F1, e1, d1, S1, r1, a⟩ hl => ?_)
      exact ⟨by rw [hl]; exact size7 h2, fun p n => (a.aftr S1 e1).newT S1.sub r1 p n⟩
    · cases h
  · split at h
    · exact fun _ _ => rfl
    · cases h
theorem se_lst (hx : SL G N k x) : SE G N k (.lst x) := by
  refine SE.of rfl rfl (fun {sc X W e} ok tk h => ?_) fun {sc e} h => ?_
  · split at h
    · simp only [Bool.and_eq_true, decide_eq_true_eq] at h
      obtain ⟨h1, h2⟩ := h
      refine (fun q => ⟨q, pt_of q fun _ => rfl⟩) (PE.imp (pe_lst (hx.kl ok tk h1)) fun σ H Q ⟨ρ, μ, F, ι, S, a⟩ => ?_)
      refine (Rd.mono (Aft.step (U := RelK) a S Ext.refl) fun vs H1 ⟨ds, μ1, F1, e1, d1, S1, r1, a⟩ hl => ?_)
      exact ⟨by rw [hl]; exact size7 h2, fun p n => (a.aftr S1 e1).newL S1.sub r1 p n⟩
    · cases h
  · split at h
    · exact fun _ _ => rfl
    · cases h
theorem se_dct : SE G N k .dct := by
  refine SE.of rfl rfl (fun {sc X W e} ok tk h => ?_) fun {sc e} h => ?_
  · split at h
    · refine (fun q => ⟨q, pt_of q fun _ => rfl⟩) (PE.imp pe_dnewK fun σ H Q ⟨ρ, μ, F, ι, S, a⟩ p n => ?_)
      have nF : F p = none := by
        cases e : F p with
        | none => rfl
        | some o => rw [S.sub _ _ e] at n; cases n
      have op : OpE F H (upd F p (.dK [])) (upd H p (.dK [])) := ⟨Same.upd nF, Same.upd n, fun b u h => by
        by_cases z : b = p
        · subst z
          rw [upd_same] at h ⊢
          exact h
        · rw [upd_ne z] at h ⊢
          exact S.sub _ _ h, fun b o h => by
        by_cases z : b = p
        · subst z
          exact .inr n
        · rw [upd_ne z] at h
          exact .inl h⟩
      exact a _ _ _ op.ext (op.sat S) ⟨.dct upd_same, trivial⟩
    · cases h
  · split at h
    · exact fun _ _ => rfl
    · cases h
theorem plainIx_of {b : Expr} (h : notSlice b = true) : PlainIx b := by
  cases b <;> first
    | exact fun _ _ => rfl
    | cases h
theorem se_idx (hx : SE G N k x) (hy : SE G N k y) : SE G N k (.idx x y) := by
  refine SE.of rfl rfl (fun {sc X W e} ok tk h => ?_) fun {sc e} h => ?_
  · split at h
    · simp only [Bool.and_eq_true] at h
      obtain ⟨⟨h1, h2⟩, h3⟩ := h
      refine (fun q => ⟨q, pt_of q fun _ => rfl⟩) (PE.imp (pe_ix ix_D (hx.e ok tk h1) (hy.e ok tk h2) (plainIx_of h3)) fun σ H Q ⟨ρ, μ, F, ι, S, a⟩ => ?_)
      refine Rd.mono (Aft.step (U := RelE) a S Ext.refl) fun v1 H1 ⟨s1, μ1, F1, e1, d1, S1, ⟨r1, n1⟩, a⟩ => ?_
      refine Rd.mono (Aft.step (U := RelE) a S1 e1) fun v2 H2 ⟨s2, μ2, F2, e2, d2, S2, ⟨r2, n2⟩, a⟩ => ?_
      obtain ⟨da, b1, a⟩ := a.look S2 (r1.mono S1 d2)
      obtain ⟨db, b2, a⟩ := a.look S2 r2
      obtain ⟨res, l3, a⟩ := a.of
      exact ⟨F2, da, db, res, S2.sub, b1, b2, l3, fun v q => a.end_ S2 e2 q⟩
    · cases h
  · split at h
    · exact fun _ _ => rfl
    · cases h
theorem se_sli (hx : SE G N k x) (hy : SE G N k y) (hz : SE G N k z) : SE G N k (.sli x y z) := by
  refine SE.of rfl rfl (fun {sc X W e} ok tk h => ?_) fun {sc e} h => ?_
  · split at h
    · simp only [Bool.and_eq_true] at h
      obtain ⟨⟨h1, h2⟩, h3⟩ := h
      refine (fun q => ⟨q, pt_of q fun _ => rfl⟩) (PE.imp (pe_slice sl_D (hx.e ok tk h1) (hy.o ok tk h2) (hz.o ok tk h3)) fun σ H Q ⟨ρ, μ, F, ι, S, a⟩ => ?_)
      refine Rd.mono (Aft.step (U := RelE) a S Ext.refl) fun v1 H1 ⟨s1, μ1, F1, e1, d1, S1, ⟨r1, n1⟩, a⟩ => ?_
      refine Rd.mono (Aft.step (U := RelO) a S1 e1) fun l H2 ⟨l', μ2, F2, e2, d2, S2, r2, a⟩ => ?_
      refine Rd.mono (Aft.step (U := RelO) a S2 e2) fun u H3 ⟨u', μ3, F3, e3, d3, S3, r3, a⟩ => ?_
      cases r2
      cases r3
      obtain ⟨da, b1, a⟩ := a.look S3 ((r1.mono S1 d2).mono S2 d3)
      obtain ⟨res, l3, a⟩ := a.of1
      exact ⟨F3, da, res, S3.sub, b1, l3, a.aftr S3 e3⟩
    · cases h
  · split at h
    · exact fun _ _ => rfl
    · cases h

/-! ### lists of expressions -/
theorem sl_nil : SL G N k .nil where
  b := fun {sc X W l} ok tk h => by
    cases l with
    | nil => exact PA.imp pa_nil fun σ H Q ⟨ρ, μ, F, ι, S, a⟩ => a [] F H Ext.refl S .nil
    | cons _ _ => cases h
  kl := fun {sc X W l} ok tk h => by
    cases l with
    | nil => exact PA.imp pa_nil fun σ H Q ⟨ρ, μ, F, ι, S, a⟩ => a [] F H Ext.refl S .nil rfl
    | cons _ _ => cases h
  aa := fun {sc X W l} ok tk h => by
    cases l with
    | nil => exact PA.imp pa_nil fun σ H Q ⟨ρ, μ, F, ι, S, a⟩ => a [] F H Ext.refl S .nil
    | cons _ _ => cases h
  bc := fun _ _ h => by cases h
  bt := fun _ _ h => by cases h
  sl := fun {sc l} h => by
    cases l with
    | nil => exact fun _ _ => rfl
    | cons _ _ => cases h
  asl := fun {sc l} h => by
    cases l with
    | nil => exact fun _ _ => rfl
    | cons _ _ => cases h
theorem nil_or_cons {sc : Scope} {l : List Expr} (h : (mt G N y).es sc l = true) : (y = .nil ∧ l = []) ∨ ∃ a b e r, y = .cons a b ∧ l = e :: r := by
  cases y with
  | nil =>
    cases l with
    | nil => exact .inl ⟨rfl, rfl⟩
    | cons _ _ => cases h
  | cons a b =>
    cases l with
    | nil => cases h
    | cons e r => exact .inr ⟨a, b, e, r, rfl, rfl⟩
  | _ => cases h
theorem es_cons {sc : Scope} {e : Expr} {l : List Expr} (h : (mt G N (.cons x y)).es sc (e :: l) = true) : (mt G N x).e sc e = true ∧ (mt G N y).es sc l = true := Bool.and_eq_true_iff.mp h
theorem as_cons {sc : Scope} {e : Expr} {l : List Expr} (h : (mt G N (.cons x y)).as sc (e :: l) = true) : (mt G N x).a sc e = true ∧ (mt G N y).as sc l = true := Bool.and_eq_true_iff.mp h
theorem nostar_cons {e : Expr} {l : List Expr} (h1 : Star1 e) (h2 : NoStar l) : NoStar (e :: l) := fun pos env => by
  rw [h1 l env]
  show (false || (backTo pos (starEach l env)).any (·.1)) = false
  rw [h2 pos env]
  rfl
theorem bc_cons2 {a b : IR} {o : BoolOp} : (den G (.cons x (.cons a b))).bc o = fun ρ μ => ((den G x).e ρ μ).bind fun v μ1 => (asB v μ1).bind fun c μ2 => match boolTail o c with
  | true => (den G (.cons a b)).bc o ρ μ2
  | false => .ok (.dat (.bool c)) μ2 := rfl
theorem sl_cons (hx : SE G N k x) (hy : SL G N k y) : SL G N k (.cons x y) where
  b := fun {sc X W l} ok tk h => by
    cases l with
    | nil => cases h
    | cons e l =>
      obtain ⟨h1, h2⟩ := es_cons h
      refine PA.imp (pa_cons (hx.e ok tk h1) (hy.b ok tk h2) (hx.st h1 _ _)) fun σ H Q ⟨ρ, μ, F, ι, S, a⟩ => ?_
      refine Rd.mono (Aft.step (U := RelE) a S Ext.refl) fun v1 H1 ⟨s1, μ1, F1, e1, d1, S1, ⟨r1, n1⟩, a⟩ => ?_
      refine Rd.mono (Aft.step (U := RelL) a S1 e1) fun vs H2 ⟨ss, μ2, F2, e2, d2, S2, r2, a⟩ => ?_
      exact a _ F2 H2 e2 S2 (.cons (r1.mono S1 d2) r2)
  kl := fun {sc X W l} ok tk h => by
    cases l with
    | nil => cases h
    | cons e l =>
      obtain ⟨h1, h2⟩ := es_cons h
      refine PA.imp (pa_cons (hx.e ok tk h1) (hy.kl ok tk h2) (hx.st h1 _ _)) fun σ H Q ⟨ρ, μ, F, ι, S, a⟩ => ?_
      refine Rd.mono (Aft.step (U := RelE) a S Ext.refl) fun v1 H1 ⟨s1, μ1, F1, e1, d1, S1, ⟨r1, n1⟩, a⟩ => ?_
      obtain ⟨d, μ2, F2, e2, sf, S2, q, a⟩ := a.keep S1 e1 r1 n1 fun _ z => z
      refine Rd.mono (Aft.step (U := RelK) a S2 e2) fun vs H3 ⟨ds, μ3, F3, e3, d3, S3, r3, a⟩ hl => ?_
      exact a (v1 :: vs) F3 H3 e3 S3 (.cons (Dt.mono d3.fs q) r3) (by simp [hl])
  aa := fun {sc X W l} ok tk h => by
    cases l with
    | nil => cases h
    | cons e l =>
      obtain ⟨h1, h2⟩ := as_cons h
      refine PA.imp (pa_cons (hx.a ok tk h1) (hy.aa ok tk h2) (hx.ast h1 _ _)) fun σ H Q ⟨ρ, μ, F, ι, S, a⟩ => ?_
      refine Rd.mono (Aft.step (U := RelAV) a S Ext.refl) fun v1 H1 ⟨s1, μ1, F1, e1, d1, S1, r1, a⟩ => ?_
      refine Rd.mono (Aft.step (U := RelA) a S1 e1) fun vs H2 ⟨ss, μ2, F2, e2, d2, S2, r2, a⟩ => ?_
      refine a _ F2 H2 e2 S2 (.cons ?_ r2)
      cases s1 with
      | dat d => exact Dt.mono d2.fs r1
      | tmp j => exact r1
      | own j => exact r1
  bc := fun {sc X W l o e p} ok tk h => by
    obtain ⟨h1, h2⟩ := es_cons h
    rcases nil_or_cons h2 with ⟨rfl, rfl⟩ | ⟨a, b, e', r, rfl, rfl⟩
    · exact pe_one (hx.e ok tk h1)
    · have hb := hy.bc (o := o) (p := p) ok tk h2
      rw [bc_cons2]
      have go : ∀ (σ : St) (H : Hp) (Q : VK), Rd X.mg W RelE (fun ρ μ => ((den G x).e ρ μ).bind fun v μ1 => (asB v μ1).bind fun c μ2 => match boolTail o c with
          | true => (den G (.cons a b)).bc o ρ μ2
          | false => .ok (.dat (.bool c)) μ2) σ H Q → Rd X.mg W RelE (den G x).e σ H fun v H1 => ∃ c, v = .bl c ∧ if boolTail o c = true then Rd X.mg W RelE ((den G (.cons a b)).bc o) σ H1 Q else Q (.bl c) H1 := by
        intro σ H Q ⟨ρ, μ, F, ι, S, q⟩
        refine Rd.mono (Aft.step (U := RelE) q S Ext.refl) fun v1 H1 ⟨s1, μ1, F1, e1, d1, S1, ⟨r1, n1⟩, q⟩ => ?_
        obtain ⟨c, ec, q2⟩ := q.asB
        clear q
        subst ec
        cases r1
        refine ⟨c, rfl, ?_⟩
        cases hc : boolTail o c with
        | true =>
          simp only [hc] at q2
          exact iteT (Aft.last q2 S1 e1 fun v F' H' s ⟨r, n⟩ => ⟨r, n.back e1.ht⟩)
        | false =>
          simp only [hc] at q2
          exact iteF (q2.end_ S1 e1 (.bl _))
      cases o with
      | And =>
        refine PE.imp (pe_and (hx.e ok tk h1) hb) fun σ H Q q => Rd.mono (go σ H Q q) fun v H1 ⟨c, e, q⟩ => ⟨c, e, ?_⟩
        cases c with
        | true => exact q
        | false => exact q
      | Or =>
        refine PE.imp (pe_or (hx.e ok tk h1) hb) fun σ H Q q => Rd.mono (go σ H Q q) fun v H1 ⟨c, e, q⟩ => ⟨c, e, ?_⟩
        cases c with
        | true => exact q
        | false => exact q
  bt := fun {sc X W l o e p} ok tk h => by
    obtain ⟨h1, h2⟩ := es_cons h
    rcases nil_or_cons h2 with ⟨rfl, rfl⟩ | ⟨a, b, e', r, rfl, rfl⟩
    · cases o with
      | And => exact pw_and1 (hx.t ok tk h1)
      | Or => exact pw_or1 (hx.t ok tk h1)
    · have hb := hy.bt (o := o) (p := p) ok tk h2
      rw [bc_cons2]
      have go : ∀ (σ : St) (H : Hp) (Q : Bool → Hp → Prop), Rd X.mg W RelB (testR fun ρ μ => ((den G x).e ρ μ).bind fun v μ1 => (asB v μ1).bind fun c μ2 => match boolTail o c with
          | true => (den G (.cons a b)).bc o ρ μ2
          | false => .ok (.dat (.bool c)) μ2) σ H Q → Rd X.mg W RelB (testR (den G x).e) σ H fun c H1 => if boolTail o c = true then Rd X.mg W RelB (testR ((den G (.cons a b)).bc o)) σ H1 Q else Q c H1 := by
        intro σ H Q ⟨ρ, μ, F, ι, S, q⟩
        have e : (testR (fun ρ μ => ((den G x).e ρ μ).bind fun v μ1 => (asB v μ1).bind fun c μ2 => match boolTail o c with
          | true => (den G (.cons a b)).bc o ρ μ2
          | false => .ok (.dat (.bool c)) μ2) ρ μ) = (testR (den G x).e ρ μ).bind fun c μ2 => match boolTail o c with
          | true => testR ((den G (.cons a b)).bc o) ρ μ2
          | false => .ok c μ2 := by
          unfold testR
          rw [R.assoc, R.assoc]
          congr 1
          funext v μ1
          rw [R.assoc]
          congr 1
          funext c μ2
          cases boolTail o c <;> rfl
        replace q := (congrArg (fun r => Aft X.mg W RelB ρ σ ι F H r Q) e).mp q
        refine Rd.mono (Aft.step (U := RelB) q S Ext.refl) fun c H1 ⟨c', μ1, F1, e1, d1, S1, r1, q⟩ => ?_
        cases r1
        cases hc : boolTail o c with
        | true =>
          simp only [hc] at q
          exact iteT (Aft.last q S1 e1 fun _ _ _ _ z => z)
        | false =>
          simp only [hc] at q
          exact iteF (q _ F1 H1 e1 S1 rfl)
      cases o with
      | And =>
        refine PW.imp (pw_and (hx.t ok tk h1) hb) fun σ H Q q => Rd.mono (go σ H Q q) fun c H1 q => ?_
        cases c with
        | true => exact q
        | false => exact q
      | Or =>
        refine PW.imp (pw_or (hx.t ok tk h1) hb) fun σ H Q q => Rd.mono (go σ H Q q) fun c H1 q => ?_
        cases c with
        | true => exact q
        | false => exact q
  sl := fun {sc l} h => by
    cases l with
    | nil => cases h
    | cons e l =>
      obtain ⟨h1, h2⟩ := es_cons h
      exact nostar_cons (hx.st h1) (hy.sl h2)
  asl := fun {sc l} h => by
    cases l with
    | nil => cases h
    | cons e l =>
      obtain ⟨h1, h2⟩ := as_cons h
      exact nostar_cons (hx.ast h1) (hy.asl h2)
end
end DL

set_option maxHeartbeats 1000000
/-! DL9: built-ins called, isinstance, calls of one's own defs. -/
namespace DL
open PySem PySem.Spec PyProof.Rows L2
section
variable {G : Ge} {N : List Str} {k : Nat} {x y z : IR}
theorem bvs_of {ρ : Rho} {μ : List Cell} {σ : St} {H F : Hp} {ι : List Addr} (S : Sat ρ μ σ H F ι) : ∀ {vs : List V} {ss : List SV} {ds : List D}, Paired (VRep F H ι) vs ss → looks μ ss = some ds → BVs F H vs ds
  | _, [], _, h, e => by
    cases h
    cases e
    exact .nil
  | _, s :: ss, _, h, e => by
    cases h with
    | cons h t =>
      unfold looks at e
      split at e
      · rename_i d ds e1 e2
        cases e
        exact .cons (h.look S e1) (bvs_of S t e2)
      · cases e
theorem boot_blt (b : Blt) : bootBuiltins (Str.ofString b.nm) = some b.val := by
  cases b <;> decide +kernel
theorem blt_in (b : Blt) : Str.ofString b.nm ∈ bltNames := by
  cases b <;> decide +kernel
theorem blt_nn (b : Blt) : Str.ofString b.nm ≠ "__name__" ∧ (Str.ofString b.nm == ("__debug__" : Str)) = false := by
  cases b <;> decide +kernel
theorem se_blt {b : Blt} (hx : SL G N k x) : SE G N k (.blt b x) := by
  refine SE.of rfl rfl (fun {sc X W e} ok tk h => ?_) fun {sc e} h => ?_
  · split at h
    · rename_i n p1 l ls p2
      simp only [Bool.and_eq_true, decide_eq_true_eq] at h
      obtain ⟨⟨rfl, h2⟩, h3⟩ := h
      have hl := (nil_or_cons h3)
      obtain ⟨a, b', e', r, rfl, e1⟩ : ∃ a b e r, x = IR.cons a b ∧ l :: ls = e :: r := by
        rcases hl with ⟨_, z⟩ | z
        · cases z
        · exact z
      cases e1
      have hs : (mt G N (.cons a b')).es sc (l :: ls) = true := h3
      have hstar : ∀ env, starEach (l :: ls) env = (false, eval l env) :: starEach ls env := fun env => by
        have q := hx.sl hs
        have := q ⟨0, 0, 0, 0⟩ env
        cases l <;> first
          | rfl
          | (exfalso; revert this; simp [starEach, backTo])
      have hno : NoStar ls := fun pos env => by
        have q := hx.sl hs pos env
        rw [hstar env] at q
        exact q
      have core : ∀ (σ : St) (H : Hp) (Q : VK), Rd X.mg W RelE (den G (.blt b (.cons a b'))).e σ H Q → tCB (rN (bltD b)) (Rd X.mg W RelL (den G (.cons a b')).b) σ H Q := by
        intro σ H Q ⟨ρ, μ, F, ι, S, q⟩
        refine Rd.mono (Aft.step (U := RelL) q S Ext.refl) fun vs H1 ⟨ss, μ1, F1, e1, d1, S1, r1, q2⟩ => ?_
        obtain ⟨ds, e2, q3⟩ := q2.of
        obtain ⟨res, e3, q4⟩ := q3.of1
        exact ⟨F1, ds, res, S1.sub, bvs_of S1 r1 e2, e3, q4.aftr S1 e1⟩
      have hm := ok.blt _ (blt_in b)
      have hc := call_blt (X := X) b ok.calm ok.grd (units70 ok)
      have hb := boot_blt b
      obtain ⟨n1, n2⟩ := blt_nn b
      have hgl := gl_of ok.hsc h2
      have hpa := hx.b ok tk hs
      have both : PE X (.Call (.Name (Str.ofString b.nm) p1) (l :: ls) [] p2) (tCB (rN (bltD b)) (Rd X.mg W RelL (den G (.cons a b')).b)) := by
        cases b with
        | int1 => exact pe_callTy hc hgl hm hb hpa n1 n2 (hstar _) (hno _ _)
        | list1 => exact pe_callTy hc hgl hm hb hpa n1 n2 (hstar _) (hno _ _)
        | tuple1 => exact pe_callTy hc hgl hm hb hpa n1 n2 (hstar _) (hno _ _)
        | len => exact pe_callB hc hgl hm hb hpa n1 n2 (hstar _) (hno _ _)
        | abs => exact pe_callB hc hgl hm hb hpa n1 n2 (hstar _) (hno _ _)
        | min2 => exact pe_callB hc hgl hm hb hpa n1 n2 (hstar _) (hno _ _)
        | max2 => exact pe_callB hc hgl hm hb hpa n1 n2 (hstar _) (hno _ _)
        | all1 => exact pe_callB hc hgl hm hb hpa n1 n2 (hstar _) (hno _ _)
        | any1 => exact pe_callB hc hgl hm hb hpa n1 n2 (hstar _) (hno _ _)
        | sum1 => exact pe_callB hc hgl hm hb hpa n1 n2 (hstar _) (hno _ _)
        | min1 => exact pe_callB hc hgl hm hb hpa n1 n2 (hstar _) (hno _ _)
        | max1 => exact pe_callB hc hgl hm hb hpa n1 n2 (hstar _) (hno _ _)
        | repr1 => exact pe_callB hc hgl hm hb hpa n1 n2 (hstar _) (hno _ _)
      exact (fun q => ⟨q, pt_of q fun _ => rfl⟩) (PE.imp both core)
    · cases h
  · split at h
    · exact fun _ _ => rfl
    · cases h

/-! ### isinstance -/
theorem BV.mono {F H H' : Hp} {v : V} {d : D} (h : BV F H v d) (s : Same H H') : BV F H' v d := by
  rcases h with h | ⟨p, vs, ds, h1, h2, h3, h4⟩
  · exact .inl h
  · exact .inr ⟨p, vs, ds, h1, h2, s _ _ h3, h4⟩
theorem tyx_of {K : PySem.W.Frag} {F H : Hp} {v : V} {d : D} (s : Same F H) (h : BV F H v d) : TyX K H v (.type (tyD d)) := by
  cases d with
  | none => rw [bv_none h]; exact .base .non
  | bool b => rw [bv_bool h]; exact .base (.bl b)
  | int i => rw [bv_int h]; exact .base (.int i)
  | str i => rw [bv_str h]; exact .base (.str i)
  | list ds =>
    obtain ⟨a, vs, rfl, h, _⟩ := bv_list s h
    rcases h with h | ⟨o, h⟩
    · exact .base (.lst h)
    · exact .base (.frz h)
  | tuple ds =>
    obtain ⟨a, vs, rfl, h, _⟩ := bv_tup s h
    rcases h with h | ⟨o, h⟩
    · exact .base (.tup h)
    · exact .fTuple h
  | dict _ =>
    obtain ⟨a, rfl, hd⟩ := bv_dict s h
    exact .base (.dK hd)
theorem kit_all (d : D) (t : Ty) : kitB (tyD d) t.nm = some (isTy d t) := by
  cases d <;> cases t <;> (simp only [tyD, Ty.nm, isTy]; decide +kernel)
theorem kit_any {K : PySem.W.Frag} (d : D) : ∀ ts : List Ty, PySem.W.kitAny K (.type (tyD d)) (ts.map fun t => .type t.nm) = some (ts.any (isTy d))
  | [] => kitAny_nil
  | t :: ts => by
    rw [List.map_cons, List.any_cons]
    refine kitAny_cons (kit_ty (kit_all d t)) (fun e => ?_) fun e => by rw [e]; rfl
    rw [e, kit_any d ts]
    rfl
theorem boot_ty (t : Ty) : bootBuiltins (Str.ofString t.nm) = some (.type t.nm) := by
  cases t <;> decide +kernel
theorem ty_in (t : Ty) : Str.ofString t.nm ∈ bltNames := by
  cases t <;> decide +kernel
theorem ty_nn (t : Ty) : Str.ofString t.nm ≠ "__name__" ∧ (Str.ofString t.nm == ("__debug__" : Str)) = false := by
  cases t <;> decide +kernel
theorem pe_ty {sc : Scope} {X : Cx} {t : Ty} {n : Str} {p : Pos} (ok : OkX G N k sc X) (h : tyNm sc t (.Name n p) = true) : PE X (.Name n p) (tC (.ty t.nm)) := by
  unfold tyNm at h
  simp only [Bool.and_eq_true, decide_eq_true_eq] at h
  obtain ⟨rfl, h⟩ := h
  obtain ⟨n1, n2⟩ := ty_nn t
  exact pe_bltn (gl_of ok.hsc h) (ok.blt _ (ty_in t)) (boot_ty t) rfl n1 n2
theorem pa_tys {sc : Scope} {X : Cx} (ok : OkX G N k sc X) : ∀ {ts : List Ty} {es : List Expr}, tyNms sc ts es = true → PA X es fun σ H Q => Q (ts.map fun t => V.ty t.nm) H
  | [], [], _ => PA.imp pa_nil fun _ _ _ q => q
  | [], _ :: _, h => by cases h
  | _ :: _, [], h => by cases h
  | t :: ts, e :: es, h => by
    unfold tyNms at h
    rw [Bool.and_eq_true] at h
    cases e with
    | Name n p => exact PA.imp (pa_cons (pe_ty ok h.1) (pa_tys ok h.2) rfl) fun _ _ _ q => q
    | _ => cases h.1
theorem tys_cls : ∀ ts : List Ty, Paired ClsV (ts.map fun t => V.ty t.nm) (ts.map fun t => Value.type t.nm)
  | [] => .nil
  | t :: ts => .cons (.ty _) (tys_cls ts)
theorem tys_len {sc : Scope} : ∀ {ts : List Ty} {es : List Expr}, tyNms sc ts es = true → ts.length = es.length
  | [], [], _ => rfl
  | [], _ :: _, h => by cases h
  | _ :: _, [], h => by cases h
  | t :: ts, e :: es, h => by
    unfold tyNms at h
    rw [Bool.and_eq_true] at h
    rw [List.length_cons, List.length_cons, tys_len h.2]
theorem se_isi {ts : List Ty} (hx : SE G N k x) : SE G N k (.isi x ts) := by
  refine SE.of rfl rfl (fun {sc X W e} ok tk h => ?_) fun {sc e} h => ?_
  · split at h
    · rename_i n p1 l t p2
      simp only [Bool.and_eq_true, decide_eq_true_eq] at h
      obtain ⟨⟨⟨rfl, h1⟩, h2⟩, h3⟩ := h
      have hm : X.mg "isinstance" = none := ok.blt _ (by decide +kernel)
      have hb : bootBuiltins "isinstance" = some (.builtin "isinstance") := by decide +kernel
      have hgl := gl_of ok.hsc h1
      have st := hx.st h2
      have start : ∀ {σ : St} {H : Hp} {Q : VK}, Rd X.mg W RelE (den G (.isi x ts)).e σ H Q → Rd X.mg W RelE (den G x).e σ H fun v H1 => ∃ F1 d, Same F1 H1 ∧ BV F1 H1 v d ∧ Aftr F1 H1 (.dat (.bool (ts.any (isTy d)))) Q := by
        intro σ H Q ⟨ρ, μ, F, ι, S, q⟩
        refine Rd.mono (Aft.step (U := RelE) q S Ext.refl) fun v H1 ⟨s1, μ1, F1, e1, d1, S1, ⟨r1, n1⟩, q2⟩ => ?_
        obtain ⟨d, b, q3⟩ := q2.look S1 r1
        exact ⟨F1, d, S1.sub, b, Aft.aftr q3 S1 e1⟩
      unfold tyEx at h3
      split at h3
      · rename_i t n p
        have ha : PA X [l, .Name n p] (tCons (Rd X.mg W RelE (den G x).e) (tCons (tC (.ty t.nm)) tNil)) := pa_cons (hx.e ok tk h2) (pa_cons (pe_ty ok h3) pa_nil rfl) (st _ _)
        refine (fun q => ⟨q, pt_of q fun _ => rfl⟩) (PE.imp (pe_callB call_isi hgl hm hb ha (by decide) (by decide) (st _ _) rfl) fun σ H Q q => Rd.mono (start q) fun v H1 ⟨F1, d, sm, b, a⟩ => ?_)
        refine ⟨v, .ty t.nm, _, _, _, rfl, .ty _, tyx_of sm b, kit_ty (kit_all d t), ?_⟩
        have := a.dat sm (.bl _)
        simpa using this
      · rename_i ts' es p1' p2'
        rw [Bool.and_eq_true, decide_eq_true_eq] at h3
        obtain ⟨h3, h4⟩ := h3
        have ha : PA X [l, .Tuple es p1' p2'] (tCons (Rd X.mg W RelE (den G x).e) (tCons (tTup fun σ H Q => Q (ts.map fun t => V.ty t.nm) H) tNil)) := pa_cons (hx.e ok tk h2) (pa_cons (pe_tup (pa_tys ok h3)) pa_nil rfl) (st _ _)
        refine (fun q => ⟨q, pt_of q fun _ => rfl⟩) (PE.imp (pe_callB call_isiT hgl hm hb ha (by decide) (by decide) (st _ _) rfl) fun σ H Q q => Rd.mono (start q) fun v H1 ⟨F1, d, sm, b, a⟩ => ?_)
        refine ⟨size7 (by rw [List.length_map]; omega), fun p n => ?_⟩
        have sf : Same H1 (upd H1 p (.tup (ts.map fun t => V.ty t.nm))) := Same.upd n
        exact ⟨v, p, _, _, _, _, rfl, upd_same, tys_cls ts, tyx_of (sm.trans sf) (b.mono sf), kit_any d ts, a (.bl _) F1 _ ⟨Same.refl F1, sf, sm.trans sf, fun _ _ z => .inl z⟩ (.bl _)⟩
      · cases h3
    · cases h
  · split at h
    · exact fun _ _ => rfl
    · cases h
end
end DL

set_option maxHeartbeats 1000000
/-! DL10: calls of one's own defs. -/
namespace DL
open PySem PySem.Spec PyProof.Rows L2
section
variable {μ μ' : List Cell} {ι : List Addr} {H H' F F' : Hp}
/-- each of these stands there -/
abbrev Stands (ι : List Addr) : List Nat → List Addr → Prop := Paired fun k a => ι[k]? = some a
theorem Stands.mem : ∀ {ks : List Nat} {A : List Addr} {j : Nat} {a : Addr}, Stands ι ks A → ι[j]? = some a → j ∈ ks → a ∈ A
  | _, _, _, _, .nil, _, h => by cases h
  | _, _, j, a, .cons h t, e, m => by
    rcases List.mem_cons.mp m with rfl | m
    · rw [h] at e
      cases e
      exact List.mem_cons_self
    · exact List.mem_cons_of_mem _ (Stands.mem t e m)
theorem Stands.back (n : ι.Nodup) : ∀ {ks : List Nat} {A : List Addr} {j : Nat} {a : Addr}, Stands ι ks A → ι[j]? = some a → a ∈ A → j ∈ ks
  | _, _, _, _, .nil, _, h => by cases h
  | _, _, j, a, .cons h t, e, m => by
    rcases List.mem_cons.mp m with rfl | m
    · exact List.mem_cons.mpr (.inl (ix_inj n e h))
    · exact List.mem_cons_of_mem _ (Stands.back n t e m)
theorem Stands.sub : ∀ {ks : List Nat} {A : List Addr} {a : Addr}, Stands ι ks A → a ∈ A → a ∈ ι
  | _, _, _, .nil, h => by cases h
  | _, _, a, .cons h t, m => by
    rcases List.mem_cons.mp m with rfl | m
    · exact List.mem_of_getElem? h
    · exact Stands.sub t m
theorem wback_len : ∀ (ks : List Nat) (cs : List (List D)) (μ : List Cell), (wback ks cs μ).length = μ.length
  | [], _, _ => rfl
  | _ :: _, [], _ => rfl
  | k :: ks, ds :: cs, μ => by
    simp only [wback]
    rw [wback_len ks cs]
    split <;> simp
theorem wback_other : ∀ (ks : List Nat) (cs : List (List D)) (μ : List Cell) {j : Nat}, j ∉ ks → (wback ks cs μ)[j]? = μ[j]?
  | [], _, _, _, _ => rfl
  | _ :: _, [], _, _, _ => rfl
  | k :: ks, ds :: cs, μ, j, h => by
    simp only [wback]
    rw [wback_other ks cs _ (fun m => h (List.mem_cons_of_mem _ m))]
    have ne : k ≠ j := fun z => h (z ▸ List.mem_cons_self)
    split
    · rw [List.getElem?_set_ne ne]
    · rfl
/-- what comes back in the place of a list that was lent -/
theorem wback_mem : ∀ {ks : List Nat} {A : List Addr} {cs : List (List D)} {μ : List Cell} {j : Nat} {a : Addr} {c : Cell}, Stands ι ks A → ks.Nodup → Backs H F A cs → j ∈ ks → ι[j]? = some a → (wback ks cs μ)[j]? = some c →
    ∃ xs c0, μ[j]? = some c0 ∧ c.st = c0.st ∧ H a = some (.lst xs) ∧ F a = none ∧ DtAll F xs c.ds ∧ c.ds ∈ cs
  | _, _, _, _, _, _, _, .nil, _, _, m, _, _ => by cases m
  | k :: ks, _, _, μ, j, a, c, .cons h t, nd, .cons b1 b2 b3 b4, m, e, g => by
    rw [List.nodup_cons] at nd
    simp only [wback] at g
    by_cases z : j = k
    · subst z
      rw [wback_other ks _ _ nd.1] at g
      rw [h] at e
      cases e
      cases q : μ[j]? with
      | none =>
        rw [q] at g
        simp only at g
        rw [q] at g
        cases g
      | some c0 =>
        rw [q] at g
        simp only at g
        rw [List.getElem?_set_self (List.getElem?_eq_some_iff.mp q).1] at g
        cases g
        exact ⟨_, c0, rfl, rfl, b1, b2, b3, List.mem_cons_self⟩
    · have m' : j ∈ ks := (List.mem_cons.mp m).resolve_left z
      obtain ⟨xs, c0, q1, q2, q3, q4, q5, q6⟩ := wback_mem t nd.2 b4 m' e g
      refine ⟨xs, c0, ?_, q2, q3, q4, q5, List.mem_cons_of_mem _ q6⟩
      split at q1
      · rw [List.getElem?_set_ne (Ne.symm z)] at q1
        exact q1
      · exact q1
theorem froze_spec {k : Nat} {ds : List D} (h : froze k μ = some (ds, μ')) : μ'.length = μ.length ∧ (∃ c, μ[k]? = some c ∧ c.st ≠ .arg ∧ μ'[k]? = some ⟨.froz, c.ds⟩) ∧ ∀ j, j ≠ k → μ'[j]? = μ[j]? := by
  unfold froze at h
  split at h
  · rename_i c e
    obtain ⟨st, cs⟩ := c
    cases st with
    | arg => cases h
    | live =>
      cases h
      exact ⟨by simp, ⟨_, e, by simp, List.getElem?_set_self (List.getElem?_eq_some_iff.mp e).1⟩, fun j z => List.getElem?_set_ne (Ne.symm z)⟩
    | froz =>
      cases h
      exact ⟨rfl, ⟨_, e, by simp, e⟩, fun _ _ => rfl⟩
  · cases h
theorem frozes_spec : ∀ {ks : List Nat} {μ μ' : List Cell}, frozes ks μ = some μ' → μ'.length = μ.length ∧ (∀ k ∈ ks, ∃ c, μ[k]? = some c ∧ c.st ≠ .arg ∧ μ'[k]? = some ⟨.froz, c.ds⟩) ∧ ∀ j, j ∉ ks → μ'[j]? = μ[j]?
  | [], μ, μ', h => by
    cases h
    exact ⟨rfl, fun _ m => (nomatch m), fun _ _ => rfl⟩
  | k :: ks, μ, μ', h => by
    unfold frozes at h
    split at h
    · rename_i μ1 e
      obtain ⟨l1, ⟨c, a1, a2, a3⟩, b1⟩ := froze_spec e
      obtain ⟨l2, a4, b2⟩ := frozes_spec h
      refine ⟨l2.trans l1, fun j m => ?_, fun j m => ?_⟩
      · by_cases z : j ∈ ks
        · obtain ⟨c', q1, q2, q3⟩ := a4 j z
          by_cases y : j = k
          · subst y
            rw [a3] at q1
            cases q1
            exact ⟨c, a1, a2, q3⟩
          · rw [b1 j y] at q1
            exact ⟨c', q1, q2, q3⟩
        · have y : j = k := (List.mem_cons.mp m).resolve_right z
          subst y
          exact ⟨c, a1, a2, (b2 j z).trans a3⟩
      · exact (b2 j fun z => m (List.mem_cons_of_mem _ z)).trans (b1 j fun z => m (List.mem_cons.mpr (.inl z)))
    · cases h
end
section
variable {ρ : Rho} {μ : List Cell} {σ : St} {H F : Hp} {ι : List Addr}
/-- the data of a def's call: what is lent stands among it -/
def lent (F H : Hp) (ι : List Addr) (ts : List Nat) : Hp := fun b => if (ts.any fun k => decide (ι[k]? = some b)) = true then H b else F b
theorem lent_in {ts : List Nat} {k : Nat} {b : Addr} (h : k ∈ ts) (e : ι[k]? = some b) : lent F H ι ts b = H b := by
  unfold lent
  rw [if_pos (List.any_eq_true.mpr ⟨k, h, decide_eq_true e⟩)]
theorem lent_out {ts : List Nat} {b : Addr} (h : ∀ k ∈ ts, ι[k]? ≠ some b) : lent F H ι ts b = F b := by
  unfold lent
  rw [if_neg]
  intro z
  obtain ⟨k, m, e⟩ := List.any_eq_true.mp z
  exact h k m (of_decide_eq_true e)
theorem lent_or {ts : List Nat} (b : Addr) : (∃ k ∈ ts, ι[k]? = some b) ∨ ∀ k ∈ ts, ι[k]? ≠ some b := by
  by_cases h : ∃ k ∈ ts, ι[k]? = some b
  · exact .inl h
  · exact .inr fun k m e => h ⟨k, m, e⟩
theorem lent_up (s : Same F H) {ts : List Nat} : Same F (lent F H ι ts) := fun b o h => by
  rcases lent_or (ι := ι) (ts := ts) b with ⟨k, m, e⟩ | z
  · rw [lent_in m e]
    exact s b o h
  · rw [lent_out z]
    exact h
theorem lent_sub (s : Same F H) {ts : List Nat} : Same (lent F H ι ts) H := fun b o h => by
  rcases lent_or (ι := ι) (ts := ts) b with ⟨k, m, e⟩ | z
  · rw [lent_in m e] at h
    exact h
  · rw [lent_out z] at h
    exact s b o h
theorem args_ok (S : Sat ρ μ σ H F ι) {ts : List Nat} : ∀ {vs : List V} {avs : List AV} {as : List Arg}, Paired (AvRep F ι) vs avs → avArgs μ avs = some as → (owns avs).Nodup → (∀ j ∈ owns avs, j ∉ ts) → (∀ j ∈ tmps avs, j ∈ ts) →
    ∃ A, ArgsRep H (lent F H ι ts) vs as A ∧ Stands ι (owns avs) A
  | _, [], _, h, e, _, _, _ => by
    cases h
    cases e
    exact ⟨[], .nil, .nil⟩
  | _, v :: avs, _, h, e, nd, h1, h2 => by
    cases h with
    | cons r t =>
      unfold avArgs at e
      split at e
      · rename_i d ds e1 e2
        cases e
        cases v with
        | dat x =>
          cases e1
          obtain ⟨A, a1, a2⟩ := args_ok S t e2 nd h1 h2
          exact ⟨A, .dat (Dt.mono (lent_up S.sub) r) a1, a2⟩
        | tmp j =>
          simp only [AV.arg] at e1
          obtain ⟨a, q, rfl⟩ := r
          split at e1
          · rename_i c ec
            cases e1
            obtain ⟨A, a1, a2⟩ := args_ok S t e2 nd h1 fun i m => h2 i (List.mem_cons_of_mem _ m)
            obtain ⟨xs, c1, c2, _⟩ := S.cell j a c q ec
            exact ⟨A, .dat (.lst (Rd.of ((lent_in (h2 j List.mem_cons_self) q).trans c1)) (DtAll.mono (lent_up S.sub) c2)) a1, a2⟩
          · cases e1
        | own j =>
          simp only [AV.arg] at e1
          obtain ⟨a, q, rfl⟩ := r
          split at e1
          · rename_i c ec
            split at e1
            · cases e1
            · rename_i nf
              cases e1
              have nd' : (j :: owns avs).Nodup := nd
              rw [List.nodup_cons] at nd'
              obtain ⟨A, a1, a2⟩ := args_ok S t e2 nd'.2 (fun i m => h1 i (List.mem_cons_of_mem _ m)) h2
              obtain ⟨xs, c1, c2, _, c3⟩ := S.cell j a c q ec
              have out : ∀ i ∈ ts, ι[i]? ≠ some a := fun i m z => h1 j List.mem_cons_self (ix_inj S.nod z q ▸ m)
              exact ⟨a :: A, .own c1 ((lent_out out).trans (c3 nf)) (DtAll.mono (lent_up S.sub) c2) (fun m => nd'.1 (a2.back S.nod q m)) a1, .cons q a2⟩
          · cases e1
      · cases e
/-- behind a call, where what was lent goes on being one's own -/
def unlent (F F' : Hp) (ι : List Addr) (ts : List Nat) : Hp := fun b => if (ts.any fun k => decide (ι[k]? = some b)) = true then F b else F' b
theorem unlent_in {F' : Hp} {ts : List Nat} {k : Nat} {b : Addr} (h : k ∈ ts) (e : ι[k]? = some b) : unlent F F' ι ts b = F b := by
  unfold unlent
  rw [if_pos (List.any_eq_true.mpr ⟨k, h, decide_eq_true e⟩)]
theorem unlent_out {F' : Hp} {ts : List Nat} {b : Addr} (h : ∀ k ∈ ts, ι[k]? ≠ some b) : unlent F F' ι ts b = F' b := by
  unfold unlent
  rw [if_neg]
  intro z
  obtain ⟨k, m, e⟩ := List.any_eq_true.mp z
  exact h k m (of_decide_eq_true e)
/-- the call's end: the state of the caller -/
theorem call_sat1 {A : List Addr} {F' H' : Hp} {ks ts : List Nat} {cs : List (List D)} (S : Sat ρ μ σ H F ι) (hts : ∀ k ∈ ts, ∃ c, μ[k]? = some c) (st : Stands ι ks A) (nd : ks.Nodup) (dj : ∀ j ∈ ks, j ∉ ts)
    (e : Ext A (lent F H ι ts) H F' H') (s : Same F' H') (b : Backs H' F' A cs) (nl : cs.all noLists = true) :
    Ext ι F H (unlent F F' ι ts) H' ∧ Sat ρ (wback ks cs μ) σ H' (unlent F F' ι ts) ι ∧ TupSub F' (unlent F F' ι ts) := by
  have Fl : Same F F' := (lent_up S.sub).trans e.fs
  have inH : ∀ {k : Nat} {a : Addr}, k ∈ ts → ι[k]? = some a → ∃ xs, H a = some (.lst xs) ∧ F' a = some (.lst xs) := fun {k a} m q => by
    obtain ⟨c, ec⟩ := hts k m
    obtain ⟨xs, c1, _⟩ := S.cell k a c q ec
    exact ⟨xs, c1, e.fs _ _ ((lent_in m q).trans c1)⟩
  have up : Same F (unlent F F' ι ts) := fun a o h => by
    rcases lent_or (ι := ι) (ts := ts) a with ⟨k, m, q⟩ | z
    · rw [unlent_in m q]
      exact h
    · rw [unlent_out z]
      exact Fl a o h
  have dn : Same (unlent F F' ι ts) F' := fun a o h => by
    rcases lent_or (ι := ι) (ts := ts) a with ⟨k, m, q⟩ | z
    · rw [unlent_in m q] at h
      exact Fl a o h
    · rw [unlent_out z] at h
      exact h
  have ts' : TupSub F' (unlent F F' ι ts) := fun a xs h => by
    rcases lent_or (ι := ι) (ts := ts) a with ⟨k, m, q⟩ | z
    · obtain ⟨ys, _, c2⟩ := inH m q
      rcases h with h | ⟨o, h⟩
      · rw [c2] at h
        cases h
      · rw [c2] at h
        cases h
    · rcases h with h | ⟨o, h⟩
      · exact .inl ((unlent_out z).trans h)
      · exact .inr ⟨o, (unlent_out z).trans h⟩
  refine ⟨⟨up, fun a o h n => e.hs a o h fun m => n (st.sub m), e.ht, fun a o h => ?_⟩, ⟨dn.trans s, by rw [wback_len]; exact S.len, S.nod, fun j a c q g => ?_, S.slen, fun i sv h => ?_⟩, ts'⟩
  · rcases e.new a o (dn a o h) with h' | h' | h'
    · rcases lent_or (ι := ι) (ts := ts) a with ⟨k, m, q⟩ | z
      · exact .inr (.inr (List.mem_of_getElem? q))
      · rw [lent_out z] at h'
        exact .inl h'
    · exact .inr (.inl h')
    · exact .inr (.inr (st.sub h'))
  · by_cases m : j ∈ ks
    · obtain ⟨xs, c0, q1, q2, q3, q4, q5, q6⟩ := wback_mem st nd b m q g
      have out : ∀ i ∈ ts, ι[i]? ≠ some a := fun i y z => dj j m (ix_inj S.nod z q ▸ y)
      obtain ⟨_, _, _, f1, _⟩ := S.cell j a c0 q q1
      refine ⟨xs, q3, DtAll.noL ts' (List.all_eq_true.mp nl _ q6) q5, fun z => ?_, fun _ => (unlent_out out).trans q4⟩
      rw [q2] at z
      have := Fl _ _ (f1 z)
      rw [q4] at this
      cases this
    · rw [wback_other ks cs μ m] at g
      obtain ⟨xs, c1, c2, f1, f2⟩ := S.cell j a c q g
      have nA : a ∉ A := fun y => m (st.back S.nod q y)
      refine ⟨xs, e.hs a _ c1 nA, DtAll.mono up c2, fun z => up _ _ (f1 z), fun z => ?_⟩
      rcases lent_or (ι := ι) (ts := ts) a with ⟨k, y, q'⟩ | y
      · exact (unlent_in y q').trans (f2 z)
      · rw [unlent_out y]
        cases w : F' a with
        | none => rfl
        | some o =>
          rcases e.new a o w with h' | h' | h'
          · rw [lent_out y, f2 z] at h'
            cases h'
          · rw [c1] at h'
            cases h'
          · exact absurd h' nA
  · obtain ⟨v, h1, h2⟩ := S.slot i sv h
    refine ⟨v, h1, ?_⟩
    cases sv with
    | dat d => exact Dt.mono up h2
    | own _ => exact h2
    | fre _ => exact h2
theorem call_sat2 {A : List Addr} {F' H' : Hp} {ks ts : List Nat} {cs : List (List D)} {μ' : List Cell} (S : Sat ρ μ σ H F ι) (st : Stands ι ks A) (nd : ks.Nodup) (dj : ∀ j ∈ ks, j ∉ ts)
    (e : Ext A (lent F H ι ts) H F' H') (s : Same F' H') (b : Backs H' F' A cs) (fz : frozes ts (wback ks cs μ) = some μ') :
    Ext ι F H F' H' ∧ Sat ρ μ' σ H' F' ι := by
  have Fl : Same F F' := (lent_up S.sub).trans e.fs
  obtain ⟨l, z1, z2⟩ := frozes_spec fz
  refine ⟨⟨Fl, fun a o h n => e.hs a o h fun m => n (st.sub m), e.ht, fun a o h => ?_⟩, ⟨s, by rw [l, wback_len]; exact S.len, S.nod, fun j a c q g => ?_, S.slen, fun i sv h => ?_⟩⟩
  · rcases e.new a o h with h' | h' | h'
    · rcases lent_or (ι := ι) (ts := ts) a with ⟨k, m, q⟩ | z
      · exact .inr (.inr (List.mem_of_getElem? q))
      · rw [lent_out z] at h'
        exact .inl h'
    · exact .inr (.inl h')
    · exact .inr (.inr (st.sub h'))
  · by_cases t : j ∈ ts
    · obtain ⟨c1, g1, _, g2⟩ := z1 j t
      rw [g2] at g
      cases g
      have m : j ∉ ks := fun m => dj j m t
      rw [wback_other ks cs μ m] at g1
      obtain ⟨xs, c2, c3, _, _⟩ := S.cell j a c1 q g1
      have nA : a ∉ A := fun y => m (st.back S.nod q y)
      exact ⟨xs, e.hs a _ c2 nA, DtAll.mono Fl c3, fun _ => e.fs _ _ ((lent_in t q).trans c2), fun z => absurd rfl z⟩
    · rw [z2 j t] at g
      have out : ∀ i ∈ ts, ι[i]? ≠ some a := fun i y z => t (ix_inj S.nod z q ▸ y)
      by_cases m : j ∈ ks
      · obtain ⟨xs, c0, q1, q2, q3, q4, q5, q6⟩ := wback_mem st nd b m q g
        obtain ⟨_, _, _, f1, _⟩ := S.cell j a c0 q q1
        refine ⟨xs, q3, q5, fun z => ?_, fun _ => q4⟩
        rw [q2] at z
        have := Fl _ _ (f1 z)
        rw [q4] at this
        cases this
      · rw [wback_other ks cs μ m] at g
        obtain ⟨xs, c1, c2, f1, f2⟩ := S.cell j a c q g
        have nA : a ∉ A := fun y => m (st.back S.nod q y)
        refine ⟨xs, e.hs a _ c1 nA, DtAll.mono Fl c2, fun z => Fl _ _ (f1 z), fun z => ?_⟩
        cases w : F' a with
        | none => rfl
        | some o =>
          rcases e.new a o w with h' | h' | h'
          · rw [lent_out out, f2 z] at h'
            cases h'
          · rw [c1] at h'
            cases h'
          · exact absurd h' nA
  · obtain ⟨v, h1, h2⟩ := S.slot i sv h
    refine ⟨v, h1, ?_⟩
    cases sv with
    | dat d => exact Dt.mono Fl h2
    | own _ => exact h2
    | fre _ => exact h2
end
end DL

set_option maxHeartbeats 1000000
/-! DL11: a call of one's own def as an expression. -/
namespace DL
open PySem PySem.Spec PyProof.Rows L2
theorem run_gfn {X : Cx} {k : Nat} {f : Addr} {fd : FuncData} {ps : List Str} {sp : Sp} {pins : List (Addr × Obj)} {σ : St} {H : Hp} {s : Shared} {Q : VK} {E : XK} {us : List Value} {vs : List V}
    (g : GFn X.prog X.w X.K X.mg X.base k f fd ps sp) (hg : X.A.guards = some []) (hr : Room k X.A) (hb : Binds X.K fd ps []) (hx : PassesAt (L2.CX X.prog X.w) X σ E) (I : Inv X pins σ H s) (r : Vals vs us) (hl : vs.length = ps.length) (h : sp vs H Q E) :
    wpAny (model X.prog X.w) X.A (call (.ref f) us) (EP X pins σ Q) X.xe s := by
  have bound : BindsTo s fd ⟨us, []⟩ (ps.zip us) := by
    have q := hb s us I.kIn (by rw [List.append_nil, ← r.length]; exact hl)
    rwa [List.append_nil] at q
  refine wpAny_call (codeAny_mono (g.run X.A X.stack s H ⟨us, []⟩ us vs Q E hg hr I.env0 bound r h hl) fun z s' hz => ?_)
  match z, hz with
  | .error e, hz => exact hx pins H s e s' I hz
  | .ok (.ret u), hz => exact I.after hz
  | .ok .next, hz => exact hz.elim
  | .ok .brk, hz => exact hz.elim
  | .ok .cont, hz => exact hz.elim
section
variable {ρ : Rho} {μ : List Cell} {σ : St} {H F : Hp} {ι : List Addr}
theorem tmps_in : ∀ {avs : List AV} {as : List Arg}, avArgs μ avs = some as → ∀ k ∈ tmps avs, ∃ c, μ[k]? = some c
  | [], _, _, _, m => by cases m
  | v :: avs, _, e, k, m => by
    unfold avArgs at e
    split at e
    · rename_i d ds e1 e2
      cases v with
      | dat x => exact tmps_in e2 k m
      | own j => exact tmps_in e2 k m
      | tmp j =>
        rcases List.mem_cons.mp m with rfl | m
        · simp only [AV.arg] at e1
          split at e1
          · exact ⟨_, by assumption⟩
          · cases e1
        · exact tmps_in e2 k m
    · cases e
theorem disj_of {as bs : List Nat} (h : disj as bs = true) : ∀ j ∈ as, j ∉ bs := fun j m z => by
  have q := List.all_eq_true.mp h j m
  have : bs.contains j = true := List.contains_iff_mem.mpr z
  rw [this] at q
  cases q
theorem args_len : ∀ {vs : List V} {as : List Arg} {A : List Addr}, ArgsRep H F vs as A → vs.length = as.length
  | _, _, _, .nil => rfl
  | _, _, _, .dat _ t => by rw [List.length_cons, List.length_cons, args_len t]
  | _, _, _, .own _ _ _ _ t => by rw [List.length_cons, List.length_cons, args_len t]
theorem fld_noL {F' : Hp} (e : TupSub F F') : ∀ {fs : List (Str × V)} {gs : List (Str × D)}, noLists (gs.map (·.2)) = true → FldRep F fs gs → FldRep F' fs gs
  | _, [], _, h => by
    cases h
    exact .nil
  | _, g :: gs, n, h => by
    simp only [List.map_cons, noLists, Bool.and_eq_true] at n
    cases h with
    | cons h t => exact .cons ⟨h.1, Dt.noL e n.1 h.2⟩ (fld_noL e n.2 t)
/-- the call's function on data, against the def's promise -/
theorem call_rd {mg : Str → Option Value} {W : WX} {c : Ce} {avs : List AV} {vs : List V} {F0 H0 : Hp} {Q : VK}
    (a : Aft mg W RelE ρ σ ι F0 H0 (callR c avs μ) Q) (S : Sat ρ μ σ H F ι) (e0 : Ext ι F0 H0 F H) (r : Paired (AvRep F ι) vs avs) : spOf mg c.sem vs H Q (WE W σ) ∧ avs.length = c.arity := by
  unfold callR at a
  split at a
  · rename_i cond
    obtain ⟨nd, dj, ar⟩ := cond
    have dj := disj_of dj
    refine ⟨?_, ar⟩
    split at a
    · exact a.elim
    · rename_i as eas
      obtain ⟨A, h1, h2⟩ := args_ok S (ts := tmps avs) r eas nd dj fun _ m => m
      have hts := tmps_in eas
      split at a
      · exact a.elim
      · rename_i rv cs eo
        split at a
        · refine ⟨lent F H ι (tmps avs), as, A, _, lent_sub S.sub, h1, eo, fun v F' H' e s b q => ?_⟩
          split at a
          · rename_i nl
            rw [Bool.and_eq_true] at nl
            obtain ⟨x1, x2, x3⟩ := call_sat1 S hts h2 nd dj e s b nl.2
            refine a v _ H' (e0.trans x1) x2 ?_
            cases rv with
            | dat d => exact ⟨Dt.noL x3 nl.1 q, trivial⟩
            | fre ds =>
              obtain ⟨p, ws, rfl, q1, q2, q3, q4, q5⟩ := q
              refine ⟨⟨p, ws, rfl, q2, ?_, S.notIn q1, DtAll.noL x3 nl.1 q5⟩, fun p' z => ?_⟩
              · cases w : unlent F F' ι (tmps avs) p with
                | none => rfl
                | some o =>
                  rcases x1.new p o w with y | y | y
                  · have := S.sub _ _ y
                    rw [q1] at this
                    cases this
                  · rcases lent_or (ι := ι) (ts := tmps avs) p with ⟨k, m, z⟩ | z
                    · exact absurd (List.mem_of_getElem? z) (S.notIn q1)
                    · rw [unlent_out z, q3] at w
                      cases w
                  · exact absurd y (S.notIn q1)
              · cases z
                exact e0.ht _ q1
          · split at a
            · rename_i μ' fz
              obtain ⟨x1, x2⟩ := call_sat2 S h2 nd dj e s b fz
              refine a v F' H' (e0.trans x1) x2 ?_
              cases rv with
              | dat d => exact ⟨q, trivial⟩
              | fre ds =>
                obtain ⟨p, ws, rfl, q1, q2, q3, q4, q5⟩ := q
                refine ⟨⟨p, ws, rfl, q2, q3, S.notIn q1, q5⟩, fun p' z => ?_⟩
                cases z
                exact e0.ht _ q1
            · exact a.elim
        · exact a.elim
      · rename_i xn cs eo
        split at a
        · refine ⟨lent F H ι (tmps avs), as, A, _, lent_sub S.sub, h1, eo, fun cl d F' H' e s b q => ?_⟩
          split at a
          · rename_i nl
            rw [Bool.and_eq_true] at nl
            obtain ⟨x1, x2, x3⟩ := call_sat1 S hts h2 nd dj e s b nl.2
            refine a cl d _ H' (e0.trans x1) x2 ⟨q.1, ?_⟩
            rcases q.2 with q | ⟨dd, fs, q1, q2, q3, q4⟩
            · exact .inl q
            · exact .inr ⟨dd, fs, q1, q2, q3, fld_noL x3 nl.1 q4⟩
          · split at a
            · rename_i μ' fz
              obtain ⟨x1, x2⟩ := call_sat2 S h2 nd dj e s b fz
              exact a cl d F' H' (e0.trans x1) x2 q
            · exact a.elim
        · exact a.elim
  · exact a.elim
end
section
variable {G : Ge} {N : List Str} {k : Nat} {x y z : IR}
theorem paired_len {α β : Type} {R : α → β → Prop} : ∀ {xs : List α} {ys : List β}, Paired R xs ys → xs.length = ys.length := fun h => Paired.length h
theorem as_ne {sc : Scope} {l : Expr} {ls : List Expr} (h : (mt G N x).as sc (l :: ls) = true) : ∃ a b, x = IR.cons a b := by
  cases x with
  | cons a b => exact ⟨a, b, rfl⟩
  | _ => cases h
theorem se_cal {j : Nat} (hx : SL G N k x) : SE G N k (.cal j x) := by
  refine SE.of rfl rfl (fun {sc X W e} ok tk h => ?_) fun {sc e} h => ?_
  · split at h
    · rename_i n p1 l ls p2
      simp only [Bool.and_eq_true] at h
      obtain ⟨⟨⟨h1, h2⟩, h3⟩, h4⟩ := h
      cases hc : G.ces[j]? with
      | none =>
        rw [hc] at h1
        cases h1
      | some c =>
        rw [hc] at h1
        have h1 := of_decide_eq_true h1
        subst h1
        obtain ⟨f, fd, ps, g, el, hm, hk, hb⟩ := (ok.cal c (List.mem_of_getElem? hc)).ex
        have hstar : ∀ env, starEach (l :: ls) env = (false, eval l env) :: starEach ls env := fun env => by
          have := hx.asl h4 ⟨0, 0, 0, 0⟩ env
          cases l <;> first
            | rfl
            | (exfalso; revert this; simp [starEach, backTo])
        have hno : NoStar ls := fun pos env => by
          have q := hx.asl h4 pos env
          rw [hstar env] at q
          exact q
        have run : PE X (.Call (.Name c.name p1) (l :: ls) [] p2) fun σ H Q => Rd X.mg W RelA (den G x).a σ H fun vs H1 => vs.length = ps.length ∧ spOf X.mg c.sem vs H1 Q (WE W σ) := by
          refine ⟨fun pins s σ H Q I h => ?_⟩
          refine wpAny_Call_Name_kw (ld_glob I (gl_of ok.hsc h2) hm ?_ (okName_of h3).1)
          refine PySem.W.callWith_K (h₀ := X.base) I.ok.mod.kin hk (thn ((hx.aa ok tk h4).run p2 pins s σ H _ I h) fun us s1 ⟨vs, H1, I1, r, q1, q2⟩ => ⟨I1.kIn, ?_⟩) (hstar _) (hno _ _)
          exact run_gfn g ok.grd ok.room hb (passAt tk σ) I1 r q1 q2
        refine (fun q => ⟨q, pt_of q fun _ => rfl⟩) (PE.imp run fun σ H Q ⟨ρ, μ, F, ι, S, a⟩ => ?_)
        simp only [hc] at a
        refine Rd.mono (Aft.step (U := RelA) a S Ext.refl) fun vs H1 ⟨avs, μ1, F1, e1, d1, S1, r1, a2⟩ => ?_
        obtain ⟨q1, q2⟩ := call_rd a2 S1 e1 r1
        exact ⟨by rw [paired_len r1, q2, el], q1⟩
    · cases h
  · split at h
    · exact fun _ _ => rfl
    · cases h
end
end DL

set_option maxHeartbeats 1000000
/-! DL12: what loops run over. -/
namespace DL
open PySem PySem.Spec PyProof.Rows L2
/-- an iterator that gives the items of ds, one by one, whatever else goes on -/
structure WalkD (J : It) (F0 : Hp) (ds : List D) : Prop where
  goes : ∀ F H i d, Same F0 F → Same F H → ds[i]? = some d → J.go i H
  stops : ∀ F H, Same F0 F → Same F H → J.stop ds.length H
  yields : ∀ F H i d x H', Same F0 F → Same F H → ds[i]? = some d → J.yld i H x H' → ∃ F', OpE F H F' H' ∧ Dt F' x d
abbrev RelI : Rel It (List D) := fun _ F' _ _ J ds => WalkD J F' ds
structure SI (G : Ge) (N : List Str) (k : Nat) (ir : IR) : Prop where
  p : ∀ {sc : Scope} {X : Cx} {W : WX} {tg x : Expr}, OkX G N k sc X → Takes X W → (mt G N ir).i sc tg x = true → PI X tg x fun σ H R => Rd X.mg W RelI (den G ir).i σ H R
  fs : ∀ {sc : Scope} {tg x : Expr}, (mt G N ir).i sc tg x = true → ∀ env v, foldedSetIterable x env v = pure v
section
variable {G : Ge} {N : List Str} {k : Nat} {x y z : IR}
theorem WalkD.list {K : PySem.W.Frag} {a : Addr} {xs : List V} {F : Hp} {ds : List D} (h : L2.Rd F a (.lst xs)) (q : DtAll F xs ds) : WalkD (Itl K a) F ds where
  goes := fun F' H i d s1 s2 e => by
    obtain ⟨v, hv, _⟩ := q.get e
    exact ⟨xs, v, .inl (Same.rd s2 (Same.rd s1 h)), hv⟩
  stops := fun F' H s1 s2 => ⟨xs, .inl (Same.rd s2 (Same.rd s1 h)), by rw [q.length]; exact Nat.le_refl _⟩
  yields := fun F' H i d x H' s1 s2 e y => by
    obtain ⟨rfl, y⟩ := y
    obtain ⟨v, hv, t⟩ := q.get e
    have := y xs (.inl (Same.rd s2 (Same.rd s1 h)))
    rw [hv] at this
    cases this
    exact ⟨F', OpE.refl s2, Dt.mono s1 t⟩
theorem WalkD.tup {K : PySem.W.Frag} {a : Addr} {xs : List V} {F : Hp} {ds : List D} (h : L2.Rd F a (.tup xs)) (q : DtAll F xs ds) : WalkD (Itt K a) F ds where
  goes := fun F' H i d s1 s2 e => by
    obtain ⟨v, hv, _⟩ := q.get e
    exact ⟨xs, v, .inl (Same.rd s2 (Same.rd s1 h)), hv⟩
  stops := fun F' H s1 s2 => ⟨xs, .inl (Same.rd s2 (Same.rd s1 h)), by rw [q.length]; exact Nat.le_refl _⟩
  yields := fun F' H i d x H' s1 s2 e y => by
    obtain ⟨rfl, y⟩ := y
    obtain ⟨v, hv, t⟩ := q.get e
    have := y xs (.inl (Same.rd s2 (Same.rd s1 h)))
    rw [hv] at this
    cases this
    exact ⟨F', OpE.refl s2, Dt.mono s1 t⟩
theorem rangeC_len (c : Int) : ∀ (n : Nat) (lo : Int), (rangeC lo c n).length = n
  | 0, _ => rfl
  | n + 1, lo => by simp [rangeC, rangeC_len c n]
theorem rangeC_get (c : Int) : ∀ (n : Nat) (lo : Int) (i : Nat) (d : D), (rangeC lo c n)[i]? = some d → i < n ∧ d = .int (lo + (i : Nat) * c)
  | 0, _, _, _, h => by simp [rangeC] at h
  | n + 1, lo, 0, d, h => by
    simp [rangeC] at h
    exact ⟨by omega, by rw [← h]; simp⟩
  | n + 1, lo, i + 1, d, h => by
    obtain ⟨h1, h2⟩ := rangeC_get c n (lo + c) i d (by simpa [rangeC] using h)
    refine ⟨by omega, ?_⟩
    rw [h2]
    congr 1
    rw [Int.natCast_add, Int.add_mul]
    omega
theorem rangeD_C : ∀ (n : Nat) (lo : Int), rangeD lo n = rangeC lo 1 n
  | 0, _ => rfl
  | n + 1, lo => by simp [rangeC, rangeD, rangeD_C n]
theorem WalkD.range {lo : Int} {n : Nat} {F : Hp} : WalkD (Itr lo n) F (rangeD lo n) where
  goes := fun F' H i d s1 s2 e => by
    rw [rangeD_C] at e
    exact (rangeC_get 1 n lo i d e).1
  stops := fun F' H s1 s2 => by
    rw [rangeD_C, rangeC_len]
    exact Nat.le_refl _
  yields := fun F' H i d x H' s1 s2 e y => by
    obtain ⟨rfl, rfl⟩ := y
    rw [rangeD_C] at e
    obtain ⟨_, rfl⟩ := rangeC_get 1 n lo i d e
    rw [Int.mul_one]
    exact ⟨F', OpE.refl s2, .int _⟩
theorem WalkD.rangeC {lo c : Int} {n : Nat} {F : Hp} : WalkD (Itc lo c n) F (rangeC lo c n) where
  goes := fun F' H i d s1 s2 e => (rangeC_get c n lo i d e).1
  stops := fun F' H s1 s2 => by
    rw [rangeC_len]
    exact Nat.le_refl _
  yields := fun F' H i d x H' s1 s2 e y => by
    obtain ⟨rfl, rfl⟩ := y
    obtain ⟨_, rfl⟩ := rangeC_get c n lo i d e
    exact ⟨F', OpE.refl s2, .int _⟩
theorem OpE.pair {F H : Hp} {T : Addr} {xs : List V} {ds : List D} (s : Same F H) (n : H T = none) (q : DtAll F xs ds) : ∃ F', OpE F H F' (upd H T (.tup xs)) ∧ Dt F' (.ref T) (.tuple ds) := by
  have nF : F T = none := by
    cases e : F T with
    | none => rfl
    | some o => rw [s _ _ e] at n; cases n
  refine ⟨upd F T (.tup xs), ⟨Same.upd nF, Same.upd n, fun b u h => ?_, fun b o h => ?_⟩, .tup (Rd.of upd_same) (DtAll.mono (Same.upd nF) q)⟩
  · by_cases z : b = T
    · subst z
      rw [upd_same] at h ⊢
      exact h
    · rw [upd_ne z] at h ⊢
      exact s _ _ h
  · by_cases z : b = T
    · subst z
      exact .inr n
    · rw [upd_ne z] at h
      exact .inl h
theorem enuD_len : ∀ (ds : List D) (j : Nat), (enuD j ds).length = ds.length
  | [], _ => rfl
  | d :: ds, j => by simp [enuD, enuD_len ds]
theorem enuD_get : ∀ (ds : List D) (j i : Nat) (e : D), (enuD j ds)[i]? = some e → ∃ d, ds[i]? = some d ∧ e = .tuple [.int ((j + i : Nat) : Int), d]
  | [], _, _, _, h => by simp [enuD] at h
  | d :: ds, j, 0, e, h => by
    simp [enuD] at h
    exact ⟨d, rfl, h.symm⟩
  | d :: ds, j, i + 1, e, h => by
    obtain ⟨d', h1, h2⟩ := enuD_get ds (j + 1) i e (by simpa [enuD] using h)
    refine ⟨d', by simpa using h1, ?_⟩
    rw [h2]
    congr 3
    omega
theorem WalkD.enum {K : PySem.W.Frag} {a : Addr} {xs : List V} {F : Hp} {ds : List D} (h : L2.Rd F a (.lst xs)) (q : DtAll F xs ds) : WalkD (Ite K a) F (enuD 0 ds) where
  goes := fun F' H i d s1 s2 e => by
    obtain ⟨d', e', _⟩ := enuD_get ds 0 i d e
    obtain ⟨v, hv, _⟩ := q.get e'
    exact ⟨xs, v, .inl (Same.rd s2 (Same.rd s1 h)), hv⟩
  stops := fun F' H s1 s2 => ⟨xs, .inl (Same.rd s2 (Same.rd s1 h)), by rw [enuD_len, q.length]; exact Nat.le_refl _⟩
  yields := fun F' H i d x H' s1 s2 e y => by
    obtain ⟨T, w, rfl, n, rfl, y⟩ := y
    obtain ⟨d', e', rfl⟩ := enuD_get ds 0 i d e
    obtain ⟨v, hv, t⟩ := q.get e'
    have := y xs (.inl (Same.rd s2 (Same.rd s1 h)))
    rw [hv] at this
    cases this
    refine OpE.pair s2 n (.cons ?_ (.cons (Dt.mono s1 t) .nil))
    rw [Nat.zero_add]
    exact .int _

/-! ### the iterables of a text -/
theorem notSet_of {b : Expr} (h : notSet b = true) : ∀ env v, foldedSetIterable b env v = pure v := fun env v => by
  cases b <;> first
    | rfl
    | cases h
theorem star_of {l : Expr} {ls : List Expr} (h : NoStar (l :: ls)) : (∀ env, starEach (l :: ls) env = (false, eval l env) :: starEach ls env) ∧ NoStar ls := by
  have hstar : ∀ env, starEach (l :: ls) env = (false, eval l env) :: starEach ls env := fun env => by
    have := h ⟨0, 0, 0, 0⟩ env
    cases l <;> first
      | rfl
      | (exfalso; revert this; simp [starEach, backTo])
  refine ⟨hstar, fun pos env => ?_⟩
  have q := h pos env
  rw [hstar env] at q
  exact q
theorem si_seq (hx : SE G N k x) : SI G N k (.iSeq x) where
  fs := fun {sc tg e} h => notSet_of (Bool.and_eq_true_iff.mp h).2
  p := fun {sc X W tg e} ok tk h => by
    obtain ⟨h1, h2⟩ := Bool.and_eq_true_iff.mp h
    have pe := hx.e ok tk h1
    refine ⟨fun pins s σ H Z I ⟨ρ, μ, F, ι, S, a⟩ => ?_⟩
    replace a : Aft X.mg W RelI ρ σ ι F H (((den G x).e ρ μ).bind fun v μ1 => (v.keep μ1).bind fun d μ2 => R.of (itemsD d) μ2) Z := a
    cases e1 : (den G x).e ρ μ with
    | stuck =>
      rw [e1] at a
      exact a.elim
    | exc y μ1 =>
      rw [e1] at a
      refine (pi_list pe).run pins s σ H Z I ⟨ρ, μ, F, ι, S, ?_⟩
      rw [e1]
      exact a
    | ok v μ1 =>
      rw [e1] at a
      replace a : Aft X.mg W RelI ρ σ ι F H ((v.keep μ1).bind fun d μ2 => R.of (itemsD d) μ2) Z := a
      cases e2 : v.keep μ1 with
      | stuck =>
        rw [e2] at a
        exact a.elim
      | exc y μ2 => exact (keep_exc e2).elim
      | ok d μ2 =>
        rw [e2] at a
        cases d with
        | list ds =>
          refine (pi_list pe).run pins s σ H Z I ⟨ρ, μ, F, ι, S, ?_⟩
          rw [e1]
          intro w F1 H1 x1 S1 ⟨r, n⟩
          obtain ⟨F2, x2, sf, S2, q⟩ := S1.keep x1 r n e2
          cases q with
          | lst hs ha => exact ⟨_, rfl, ⟨_, .inl (Same.rd S2.sub hs)⟩, a _ F2 H1 x2 S2 (.list hs ha)⟩
        | tuple ds =>
          refine (pi_tup pe).run pins s σ H Z I ⟨ρ, μ, F, ι, S, ?_⟩
          rw [e1]
          intro w F1 H1 x1 S1 ⟨r, n⟩
          obtain ⟨F2, x2, sf, S2, q⟩ := S1.keep x1 r n e2
          cases q with
          | tup hs ha => exact ⟨_, rfl, ⟨_, .inl (Same.rd S2.sub hs)⟩, a _ F2 H1 x2 S2 (.tup hs ha)⟩
        | _ => exact a.elim
theorem smallI_of {i : Int} (h : smallI i = true) : -(2 ^ 62) ≤ i ∧ i < 2 ^ 62 := dec_and h
/-- how many there are -/
def IR.len : IR → Nat
  | .cons _ y => y.len + 1
  | _ => 0
theorem mt_len {sc : Scope} : ∀ {x : IR} {l : List Expr}, (mt G N x).es sc l = true → x.len = l.length
  | x, l, h => by
    rcases nil_or_cons h with ⟨rfl, rfl⟩ | ⟨a, b, e, r, rfl, rfl⟩
    · rfl
    · have := mt_len (es_cons h).2
      simp [IR.len, this]
theorem den_len {ρ : Rho} : ∀ {x : IR} {μ μ' : List Cell} {vs : List SV}, (den G x).b ρ μ = .ok vs μ' → x.len = vs.length
  | x, μ, μ', vs, h => by
    cases x with
    | nil =>
      cases h
      rfl
    | cons a b =>
      replace h : (((den G a).e ρ μ).bind fun v μ1 => ((den G b).b ρ μ1).bind fun vs μ2 => .ok (v :: vs) μ2) = .ok vs μ' := h
      cases e1 : (den G a).e ρ μ with
      | stuck => rw [e1] at h; cases h
      | exc y μ1 => rw [e1] at h; cases h
      | ok v μ1 =>
        rw [e1] at h
        replace h : ((den G b).b ρ μ1).bind (fun vs μ2 => .ok (v :: vs) μ2) = .ok vs μ' := h
        cases e2 : (den G b).b ρ μ1 with
        | stuck => rw [e2] at h; cases h
        | exc y μ1 => rw [e2] at h; cases h
        | ok ws μ2 =>
          rw [e2] at h
          cases h
          simp [IR.len, den_len e2]
    | _ => cases h
theorem looks_len {μ : List Cell} : ∀ {vs : List SV} {ds : List D}, looks μ vs = some ds → ds.length = vs.length
  | [], _, e => by cases e; rfl
  | s :: ss, _, e => by
    unfold looks at e
    split at e
    · rename_i d ds e1 e2
      cases e
      simp [looks_len e2]
    · cases e
theorem rng_small {xs : List D} {ds : List D} (h : rngD xs = some ds) : (∃ j, xs = [.int j] ∧ -(2 ^ 62) ≤ j ∧ j < 2 ^ 62 ∧ ds = rangeD 0 j.toNat) ∨ (∃ i j, xs = [.int i, .int j] ∧ (-(2 ^ 62) ≤ i ∧ i < 2 ^ 62 ∧ -(2 ^ 62) ≤ j ∧ j < 2 ^ 62) ∧ ds = rangeD i (j - i).toNat) ∨
    ∃ i j, xs = [.int i, .int j, .int (-1)] ∧ RgC i j (-1) (i - j).toNat ∧ ds = rangeC i (-1) (i - j).toNat := by
  unfold rngD at h
  split at h
  · split at h
    · rename_i j q
      cases h
      obtain ⟨h1, h2⟩ := smallI_of q
      exact .inl ⟨j, rfl, h1, h2, rfl⟩
    · cases h
  · split at h
    · rename_i i j q
      cases h
      obtain ⟨q1, q2⟩ := Bool.and_eq_true_iff.mp q
      obtain ⟨h1, h2⟩ := smallI_of q1
      obtain ⟨h3, h4⟩ := smallI_of q2
      exact .inr (.inl ⟨i, j, rfl, ⟨h1, h2, h3, h4⟩, rfl⟩)
    · cases h
  · split at h
    · rename_i i j q
      cases h
      obtain ⟨q1, q2⟩ := Bool.and_eq_true_iff.mp q
      obtain ⟨h1, h2⟩ := smallI_of q1
      obtain ⟨h3, h4⟩ := smallI_of q2
      exact .inr (.inr ⟨i, j, rfl, RgC.neg h1 h2 h3 h4, rfl⟩)
    · cases h
  · cases h
theorem si_rng (hx : SL G N k x) : SI G N k (.iRng x) where
  fs := fun {sc tg e} h env v => by
    dsimp only [mt] at h
    split at h
    · rfl
    · cases h
  p := fun {sc X W tg e} ok tk h => by
    dsimp only [mt] at h
    split at h
    · rename_i n p1 l ls p2
      simp only [Bool.and_eq_true, decide_eq_true_eq] at h
      obtain ⟨⟨⟨rfl, h2⟩, hlen⟩, h3⟩ := h
      have hgl := gl_of ok.hsc h2
      have hm : X.mg "range" = none := ok.blt _ (by decide +kernel)
      have hpa := hx.b ok tk h3
      obtain ⟨st1, ns1⟩ := star_of (hx.sl h3)
      -- what the bounds are
      have core : ∀ (σ : St) (H : Hp) (Z : It → Hp → Prop), Rd X.mg W RelI (den G (.iRng x)).i σ H Z → Rd X.mg W RelL (den G x).b σ H fun vs H1 =>
          (∃ j : Int, x.len = 1 ∧ vs = [.int j] ∧ -(2 ^ 62) ≤ j ∧ j < 2 ^ 62 ∧ Z (Itr 0 j.toNat) H1) ∨ (∃ i j : Int, x.len = 2 ∧ vs = [.int i, .int j] ∧ (-(2 ^ 62) ≤ i ∧ i < 2 ^ 62 ∧ -(2 ^ 62) ≤ j ∧ j < 2 ^ 62) ∧ Z (Itr i (j - i).toNat) H1) ∨
          ∃ i j : Int, x.len = 3 ∧ vs = [.int i, .int j, .int (-1)] ∧ RgC i j (-1) (i - j).toNat ∧ Z (Itc i (-1) (i - j).toNat) H1 := by
        intro σ H Z ⟨ρ, μ, F, ι, S, a⟩
        refine ⟨ρ, μ, F, ι, S, ?_⟩
        replace a : Aft X.mg W RelI ρ σ ι F H (((den G x).b ρ μ).bind fun vs μ1 => (R.of (looks μ1 vs) μ1).bind fun ds μ2 => R.of (rngD ds) μ2) Z := a
        cases e1 : (den G x).b ρ μ with
        | stuck =>
          rw [e1] at a
          exact a.elim
        | exc y μ1 =>
          rw [e1] at a
          exact a
        | ok ss μ1 =>
          rw [e1] at a
          have ln := den_len e1
          replace a : Aft X.mg W RelI ρ σ ι F H ((R.of (looks μ1 ss) μ1).bind fun ds μ2 => R.of (rngD ds) μ2) Z := a
          obtain ⟨ds, e2, a⟩ := a.of
          obtain ⟨out, e3, a⟩ := a.of1
          intro vs F1 H1 x1 S1 r
          have bv := bvs_of S1 r e2
          have ll := looks_len e2
          rw [← ln] at ll
          rcases rng_small e3 with ⟨j, rfl, q1, q2, rfl⟩ | ⟨i, j, rfl, q, rfl⟩ | ⟨i, j, rfl, q, rfl⟩
          · obtain ⟨w, rfl, b1⟩ := bvs1 bv
            rw [bv_int b1]
            exact .inl ⟨j, ll.symm, rfl, q1, q2, a _ F1 H1 x1 S1 .range⟩
          · obtain ⟨w, w', rfl, b1, b2⟩ := bvs2 bv
            rw [bv_int b1, bv_int b2]
            exact .inr (.inl ⟨i, j, ll.symm, rfl, q, a _ F1 H1 x1 S1 .range⟩)
          · cases bv with
            | cons b1 bb =>
              obtain ⟨w, w', rfl, b2, b3⟩ := bvs2 bb
              rw [bv_int b1, bv_int b2, bv_int b3]
              exact .inr (.inr ⟨i, j, ll.symm, rfl, q, a _ F1 H1 x1 S1 .rangeC⟩)
      have ln := mt_len h3
      match ls, hpa, st1, ns1, ln, hlen with
      | [], hpa, st1, ns1, ln, _ =>
        refine ⟨fun pins s σ H R I q => (pi_range1 hgl hm hpa (st1 _)).run pins s σ H R I (Rd.mono (core σ H R q) fun vs H1 z => ?_)⟩
        rcases z with ⟨j, hl, e, z1, z2, z3⟩ | ⟨i, j, hl, _⟩ | ⟨i, j, hl, _⟩
        · exact ⟨j, e, z1, z2, z3⟩
        · rw [ln] at hl; cases hl
        · rw [ln] at hl; cases hl
      | [b], hpa, st1, ns1, ln, _ =>
        obtain ⟨st2, _⟩ := star_of ns1
        refine ⟨fun pins s σ H R I q => (pi_range2 hgl hm hpa (by rw [st1, st2]; rfl) (by rw [st2]; rfl)).run pins s σ H R I (Rd.mono (core σ H R q) fun vs H1 z => ?_)⟩
        rcases z with ⟨j, hl, e, z1, z2, z3⟩ | ⟨i, j, hl, z⟩ | ⟨i, j, hl, _⟩
        · rw [ln] at hl; cases hl
        · exact ⟨i, j, z⟩
        · rw [ln] at hl; cases hl
      | [b, c], hpa, st1, ns1, ln, _ =>
        refine ⟨fun pins s σ H R I q => (pi_range3 hgl hm hpa (st1 _) (ns1 _ _)).run pins s σ H R I (Rd.mono (core σ H R q) fun vs H1 z => ?_)⟩
        rcases z with ⟨j, hl, e, z1, z2, z3⟩ | ⟨i, j, hl, z⟩ | ⟨i, j, hl, z⟩
        · rw [ln] at hl; cases hl
        · rw [ln] at hl; cases hl
        · exact ⟨i, j, _, _, z⟩
      | b :: c :: d :: r, hpa, st1, ns1, ln, hlen => exact absurd hlen (by simp)
    · cases h
theorem PI.imp {X : Cx} {tg e : Expr} {t t' : TI} (h : PI X tg e t) (i : ∀ σ H Q, t' σ H Q → t σ H Q) : PI X tg e t' := ⟨fun pins s σ H Q I q => h.run pins s σ H Q I (i σ H Q q)⟩
theorem si_enu (hx : SE G N k x) : SI G N k (.iEnu x) where
  fs := fun {sc tg e} h env v => by
    dsimp only [mt] at h
    split at h
    · rfl
    · cases h
  p := fun {sc X W tg e} ok tk h => by
    dsimp only [mt] at h
    split at h
    · simp only [Bool.and_eq_true, decide_eq_true_eq] at h
      obtain ⟨⟨rfl, h2⟩, h3⟩ := h
      have hm : X.mg "enumerate" = none := ok.blt _ (by decide +kernel)
      have st := hx.st h3 [] X.env
      refine PI.imp (pi_enum (gl_of ok.hsc h2) hm (pa_cons (hx.e ok tk h3) pa_nil st) st) fun σ H Z ⟨ρ, μ, F, ι, S, a⟩ => ?_
      refine Rd.mono (Aft.step (U := RelE) a S Ext.refl) fun v1 H1 ⟨s1, μ1, F1, e1, d1, S1, ⟨r1, n1⟩, a⟩ => ?_
      obtain ⟨d, μ2, F2, e2, sf, S2, q, a⟩ := a.keep S1 e1 r1 n1 fun _ z => z
      cases d with
      | list ds =>
        cases q with
        | lst hs ha => exact ⟨_, _, rfl, .inl (Same.rd S2.sub hs), a _ F2 H1 e2 S2 (.enum hs ha)⟩
      | _ => exact a.elim
    · cases h
end
end DL

set_option maxHeartbeats 1000000
/-! DL13: zip of two lists or tuples. -/
namespace DL
open PySem PySem.Spec PyProof.Rows L2
inductive Kd where
  | l | t
def Kd.sq (K : PySem.W.Frag) : Kd → Hp → Addr → List V → Prop
  | .l => SqL K
  | .t => SqT K
def Kd.isIt : Kd → Heap → Addr → Addr → Nat → Prop
  | .l => fun h it a i => h.IsListIter it a i
  | .t => fun h it a i => h.IsTupleIter it a i
def Kd.isO : Kd → Heap → Addr → Array Value → Prop
  | .l => fun h a vs => h.IsList a vs
  | .t => fun h a vs => h.IsTuple a vs
def Kd.it0 (a : Addr) : Kd → Obj
  | .l => { cls := .type "list_iterator", data := .fields #[.ref a, .int 0 0] }
  | .t => { cls := .type "tuple_iterator", data := .fields #[.ref a, .int 0 0] }
theorem Kd.draws {P : Program} {w : World} {A : Around} (k : Kd) (hh : A.handled = none) {it a : Addr} (ne : a ≠ it) (its : Array Value) : Draws P w A it [it, a] its.size (fun i v => its[i]? = some v) (fun i h => k.isIt h it a i ∧ k.isO h a its) := by
  cases k with
  | l => exact Draws.list hh it a ne its
  | t => exact Draws.tuple hh it a ne its
theorem Kd.begins (k : Kd) (a : Addr) (its : Array Value) : Begins (.ref a) (k.it0 a) fun h => k.isO h a its := by
  cases k with
  | l => exact begins_list a its
  | t => exact begins_tuple a its
theorem Kd.at {k : Kd} {h h' : Heap} {it a : Addr} {i : Nat} (st : k.isIt h it a i) (q : ∀ o, h.get? it = some o → h'.get? it = some o) : k.isIt h' it a i := by
  cases k with
  | l => exact Heap.IsListIter.at st q
  | t => exact Heap.IsTupleIter.at st q
theorem Kd.obj {k : Kd} {h : Heap} {it a : Addr} {i : Nat} (st : k.isIt h it a i) : ∃ o, h.get? it = some o ∧ ∀ v, o.data ≠ .cell v := by
  cases k with
  | l =>
    obtain ⟨o, e, c, d⟩ := st
    exact ⟨o, e, fun v z => by rw [d] at z; cases z⟩
  | t =>
    obtain ⟨o, e, c, d⟩ := st
    exact ⟨o, e, fun v z => by rw [d] at z; cases z⟩
theorem Kd.start {k : Kd} {h : Heap} {it a : Addr} (e : h.get? it = some (k.it0 a)) : k.isIt h it a 0 := by
  cases k with
  | l => exact ⟨_, e, rfl, rfl⟩
  | t => exact ⟨_, e, rfl, rfl⟩
section
variable {X : Cx} {pins : List (Addr × Obj)} {σ : St} {H : Hp} {s : Shared} {a : Addr} {xs ys : List V}
theorem Kd.inv {k : Kd} (I : Inv X pins σ H s) (h : k.sq X.K H a xs) : ∃ its : List Value, Vals xs its ∧ k.isO s.heap a its.toArray := by
  cases k with
  | l =>
    obtain ⟨its, rv, p, _⟩ := I.list h
    exact ⟨its, rv, p.isList⟩
  | t =>
    obtain ⟨its, rv, p, _⟩ := I.tuple h
    exact ⟨its, rv, p⟩
theorem Kd.inj {k : Kd} (I : Inv X pins σ H s) (h : k.sq X.K H a xs) (g : k.sq X.K H a ys) : xs = ys := by
  cases k with
  | l => exact I.list_inj h g
  | t => exact I.tuple_inj h g
theorem Kd.lt {k : Kd} (I : Inv X pins σ H s) (h : k.sq X.K H a xs) : a < s.heap.objs.size := by
  cases k with
  | l =>
    obtain ⟨its, rv, p, _⟩ := I.list h
    exact p.lt
  | t =>
    obtain ⟨its, rv, p, _⟩ := I.tuple h
    obtain ⟨o, e, _⟩ := id p
    exact Heap.lt_size e
end
def Itzd (K : PySem.W.Frag) (k k' : Kd) (a b : Addr) : It :=
  ⟨fun i H => ∃ (xs ys : List V) (x y : V), k.sq K H a xs ∧ k'.sq K H b ys ∧ xs[i]? = some x ∧ ys[i]? = some y,
    fun i H v H' => ∃ T x y, v = .ref T ∧ H T = none ∧ H' = upd H T (.tup [x, y]) ∧ (∀ xs, k.sq K H a xs → xs[i]? = some x) ∧ ∀ ys, k'.sq K H b ys → ys[i]? = some y,
    fun i H => ∃ xs ys : List V, k.sq K H a xs ∧ k'.sq K H b ys ∧ i = min xs.length ys.length⟩
theorem turn_zipd {P : Program} {w : World} {K : PySem.W.Frag} {k k' : Kd} {elts : List Expr} {kk : Nat} {tpos : Pos} {a b z TI TO i1 i2 : Addr} (S : ZipSep2 z TI TO i1 i2 [i1, a] [i2, b]) (n1 : a ≠ i1) (n2 : b ≠ i2) :
    Turn P w K (.Tuple elts kk tpos) (Itzd K k k' a b) [z, TI, TO, i1, i2] z (fun i h => IsZip h z TI TO .none ∧ IsTupOf2 h TI (.ref i1) (.ref i2) ∧ (∃ x y, IsTupOf2 h TO x y) ∧ k.isIt h i1 a i ∧ k'.isIt h i2 b i) where
  mem := by simp
  obj := fun i h st c hc => by
    obtain ⟨hz, hTI, ⟨x, y, hTO⟩, h1, h2⟩ := st
    have e' : c = z ∨ c = TI ∨ c = TO ∨ c = i1 ∨ c = i2 := by simpa using hc
    rcases e' with q | q | q | q | q
    · rw [q]; exact ⟨_, hz, fun v q => nomatch q⟩
    · rw [q]; exact ⟨_, hTI, fun v q => nomatch q⟩
    · rw [q]; exact ⟨_, hTO, fun v q => nomatch q⟩
    · rw [q]; exact Kd.obj h1
    · rw [q]; exact Kd.obj h2
  keep := fun i h h' st k => by
    obtain ⟨hz, hTI, ⟨x, y, hTO⟩, h1, h2⟩ := st
    exact ⟨k z (by simp) _ hz, k TI (by simp) _ hTI, ⟨x, y, k TO (by simp) _ hTO⟩, Kd.at h1 fun o q => k i1 (by simp) o q, Kd.at h2 fun o q => k i2 (by simp) o q⟩
  item := by
    intro X hP hw hK hc i pins s σ H E I hf st hg
    subst hP hw hK
    obtain ⟨hz, hTI, ⟨x0, y0, hTO⟩, h1, h2⟩ := st
    obtain ⟨xs, ys, x, y, hqx, hqy, hx, hy⟩ := hg
    obtain ⟨its, rv, p⟩ := Kd.inv I hqx
    obtain ⟨its2, rv2, p2⟩ := Kd.inv I hqy
    obtain ⟨u, hu, ru⟩ := rv.get hx
    obtain ⟨u2, hu2, ru2⟩ := rv2.get hy
    have hzl : z < s.heap.objs.size := Heap.lt_size hz
    have hd : X.A.in1.handled = none := I.ok.hd hc
    have l1 : i < its.toArray.size := by
      have := (List.getElem?_eq_some_iff.mp hu).1
      simpa using this
    have l2 : i < its2.toArray.size := by
      have := (List.getElem?_eq_some_iff.mp hu2).1
      simpa using this
    refine wpAny_pyNext_zipD2_item S (k.draws hd n1 its.toArray) (k'.draws hd n2 its2.toArray) hz hTI hTO ⟨h1, p⟩ ⟨h2, p2⟩ l1 l2 fun u' u2' h' tk e1 e2 z' TO' st1' st2' hT hsz hk => ?_
    have e1' : u' = u := by
      have q : its.toArray[i]? = some u' := e1
      have q' : its.toArray[i]? = some u := by simpa using hu
      rw [q'] at q
      exact (Option.some.inj q).symm
    have e2' : u2' = u2 := by
      have q : its2.toArray[i]? = some u2' := e2
      have q' : its2.toArray[i]? = some u2 := by simpa using hu2
      rw [q'] at q
      exact (Option.some.inj q).symm
    subst e1' e2'
    refine ⟨_, rfl, wpAny_letOwnedTupleGo_zip (s := { s with heap := h', toks := tk }) z' fun h'' z'' sb => ?_⟩
    have hT2 : h''.get? s.heap.objs.size = some { cls := .type "tuple", data := .seq #[u', u2'] } := (sb.2 _ (Nat.ne_of_gt hzl)).trans hT
    have new : ObjOk X.prog X.w (upd H s.heap.objs.size (.tup [x, y])) h'' s.heap.objs.size (.tup [x, y]) :=
      ⟨by show 2 ≤ sizeLine; decide, [u', u2'], .cons ru (.cons ru2 .nil), ⟨_, hT2, rfl, _, rfl⟩⟩
    have I1 : Inv X pins σ (upd H s.heap.objs.size (.tup [x, y])) { s with heap := h'', toks := tk } :=
      I.turnedNew (t' := tk) (ch := [z, TI, TO, i1, i2]) (fun c o hb q => (sb.2 c (fun q' => hb (by simp [q']))).trans (hk c o (fun q' => hb (by simp [q'])) (fun q' => hb (by simp [q'])) (fun q' => hb (by simp [q'])) (fun q' => hb (by simp [q'])) q)) hf (Nat.le_refl _) new
    refine ⟨.ref s.heap.objs.size, _, I1, rfl, ⟨_, x, y, rfl, I.hok.fresh (Nat.le_refl _), rfl, fun l hl => by rw [Kd.inj I hl hqx]; exact hx, fun l hl => by rw [Kd.inj I hl hqy]; exact hy⟩, ⟨z'', ?_, ⟨u', u2', ?_⟩, ?_, ?_⟩, fun c hcm => ?_⟩
    · exact (sb.2 _ S.TIz).trans (hk _ _ S.TIz S.TITO S.TIi1 S.TIi2 hTI)
    · exact (sb.2 _ S.TOz).trans TO'
    · exact Kd.at st1'.1 fun o q => (sb.2 _ S.zi1.symm).trans q
    · exact Kd.at st2'.1 fun o q => (sb.2 _ S.zi2.symm).trans q
    · have hlt : c < s.heap.objs.size := by
        have e' : c = z ∨ c = TI ∨ c = TO ∨ c = i1 ∨ c = i2 := by simpa using hcm
        rcases e' with q | q | q | q | q
        · rw [q]; exact hzl
        · rw [q]; exact Heap.lt_size hTI
        · rw [q]; exact Heap.lt_size hTO
        · rw [q]; obtain ⟨_, e1, _⟩ := Kd.obj h1; exact Heap.lt_size e1
        · rw [q]; obtain ⟨_, e2, _⟩ := Kd.obj h2; exact Heap.lt_size e2
      rw [upd_ne (Nat.ne_of_lt hlt)]
      exact (hf c hcm).1
  done := by
    intro X hP hw hK hc i pins s σ H E I hf st hg
    subst hP hw hK
    obtain ⟨hz, hTI, ⟨x0, y0, hTO⟩, h1, h2⟩ := st
    obtain ⟨xs, ys, hqx, hqy, hend⟩ := hg
    obtain ⟨its, rv, p⟩ := Kd.inv I hqx
    obtain ⟨its2, rv2, p2⟩ := Kd.inv I hqy
    have l1 := rv.length
    have l2 := rv2.length
    have hd : X.A.in1.handled = none := I.ok.hd hc
    refine wpAny_pyNext_zipD2_end S (k.draws hd n1 its.toArray) (k'.draws hd n2 its2.toArray) hz hTI hTO ⟨h1, p⟩ ⟨h2, p2⟩ (by simp; omega) (by simp; omega) (by simp; omega) fun h' tk hk => ⟨rfl, I.turnedL (t' := tk) (ch := [z, TI, TO, i1, i2]) (fun c o hb q =>
      hk c o (fun q' => hb (by simp [q'])) (fun q' => hb (by simp [q'])) (fun q' => hb (by simp [q'])) (fun q' => hb (by simp [q'])) q) hf⟩
  self := fun A i s Q E st h => wpAny_pyIter_zip st.1 h
theorem zipD_len : ∀ (ds es : List D), (zipD ds es).length = min ds.length es.length
  | [], _ => by simp [zipD]
  | d :: ds, [] => by simp [zipD]
  | d :: ds, e :: es => by simp [zipD, zipD_len ds es]
theorem zipD_get : ∀ (ds es : List D) (i : Nat) (e : D), (zipD ds es)[i]? = some e → ∃ d d', ds[i]? = some d ∧ es[i]? = some d' ∧ e = .tuple [d, d']
  | [], _, i, e, h => by simp [zipD] at h
  | d :: ds, [], i, e, h => by simp [zipD] at h
  | d :: ds, d' :: es, 0, e, h => by
    simp [zipD] at h
    exact ⟨d, d', rfl, rfl, h.symm⟩
  | d :: ds, d' :: es, i + 1, e, h => by
    obtain ⟨a, b, h1, h2, h3⟩ := zipD_get ds es i e (by simpa [zipD] using h)
    exact ⟨a, b, by simpa using h1, by simpa using h2, h3⟩
def Kd.ho : Kd → List V → HO
  | .l => .lst
  | .t => .tup
theorem Kd.sqOf {K : PySem.W.Frag} {k : Kd} {F : Hp} {a : Addr} {xs : List V} (h : L2.Rd F a (k.ho xs)) : k.sq K F a xs := by
  cases k with
  | l => exact .inl h
  | t => exact .inl h
theorem WalkD.zip {K : PySem.W.Frag} {k k' : Kd} {a b : Addr} {xs ys : List V} {F : Hp} {ds es : List D} (h : L2.Rd F a (k.ho xs)) (q : DtAll F xs ds) (h' : L2.Rd F b (k'.ho ys)) (q' : DtAll F ys es) : WalkD (Itzd K k k' a b) F (zipD ds es) where
  goes := fun F' H i d s1 s2 e => by
    obtain ⟨d1, d2, e1, e2, _⟩ := zipD_get ds es i d e
    obtain ⟨v, hv, _⟩ := q.get e1
    obtain ⟨w, hw, _⟩ := q'.get e2
    exact ⟨xs, ys, v, w, Kd.sqOf (Same.rd s2 (Same.rd s1 h)), Kd.sqOf (Same.rd s2 (Same.rd s1 h')), hv, hw⟩
  stops := fun F' H s1 s2 => ⟨xs, ys, Kd.sqOf (Same.rd s2 (Same.rd s1 h)), Kd.sqOf (Same.rd s2 (Same.rd s1 h')), by rw [zipD_len, q.length, q'.length]⟩
  yields := fun F' H i d x H' s1 s2 e y => by
    obtain ⟨T, v1, v2, rfl, n, rfl, y1, y2⟩ := y
    obtain ⟨d1, d2, e1, e2, rfl⟩ := zipD_get ds es i d e
    obtain ⟨v, hv, t1⟩ := q.get e1
    obtain ⟨w, hw, t2⟩ := q'.get e2
    have z1 := y1 xs (Kd.sqOf (Same.rd s2 (Same.rd s1 h)))
    have z2 := y2 ys (Kd.sqOf (Same.rd s2 (Same.rd s1 h')))
    rw [hv] at z1
    rw [hw] at z2
    cases z1
    cases z2
    exact OpE.pair s2 n (.cons (Dt.mono s1 t1) (.cons (Dt.mono s1 t2) .nil))
def iZipd (K : PySem.W.Frag) (ta : TA) : TI := fun σ H R => ta σ H fun vs H1 => ∃ a b k k' xs ys, vs = [.ref a, .ref b] ∧ Kd.sq K k H1 a xs ∧ Kd.sq K k' H1 b ys ∧ R (Itzd K k k' a b) H1
theorem pi_zipd {X : Cx} {e e2 : Expr} {ta : TA} {p pos tpos : Pos} {elts : List Expr} {kk : Nat} (hg : Gl X "zip") (hm : X.mg "zip" = none) (ha : PA X [e, e2] ta)
    (hs : starEach [e, e2] X.env = (false, eval e X.env) :: starEach [e2] X.env := by rfl) (hpl : (backTo pos (starEach [e2] X.env)).any (·.1) = false := by rfl) :
    PI X (.Tuple elts kk tpos) (.Call (.Name "zip" p) [e, e2] [] pos) (iZipd X.K ta) := by
  refine ⟨fun pins s σ H R I h => ?_⟩
  refine Call_ (ld_blt I hg hm PyProof.Rows.boot_zip (PyProof.Rows.callWith_type1 (thn (ha.run pos pins s σ H _ I h) fun us s1 ⟨vs, H1, I1, r1, q1⟩ => ?_) hs hpl))
  obtain ⟨a, b, k, k', xs, ys, ex, hqx, hqy, q⟩ := q1
  subst ex
  cases r1 with
  | cons r rr =>
    cases rr with
    | cons r' rr =>
      cases rr
      cases r
      cases r'
      obtain ⟨its, rv, p1⟩ := Kd.inv I1 hqx
      obtain ⟨its2, rv2, p2⟩ := Kd.inv I1 hqy
      have la := Kd.lt I1 hqx
      have lb := Kd.lt I1 hqy
      refine zip_begins2 (k.begins a its.toArray) (k'.begins b its2.toArray) p1 p2 fun h' hz hTI hTO h1 h2 hsz hk => wpAny_pyIter_zip hz ?_
      have I2 : Inv X pins σ H1 { s1 with heap := h' } := I1.kept (t' := s1.toks) hk
      refine ⟨s1.heap.objs.size + 4, [s1.heap.objs.size + 4, s1.heap.objs.size + 2, s1.heap.objs.size + 3, s1.heap.objs.size, s1.heap.objs.size + 1], _, _, H1, rfl, I2,
        turn_zipd (zip_sep2 (fp1 := [a]) (fp2 := [b]) (fun c hc => by rw [List.mem_singleton.mp hc]; exact la) fun c hc => by rw [List.mem_singleton.mp hc]; exact lb) (Nat.ne_of_lt la) (Nat.ne_of_lt (Nat.lt_succ_of_lt lb)), ⟨hz, hTI, ⟨_, _, hTO⟩, Kd.start h1, Kd.start h2⟩, fun c hcm => ?_, q⟩
      have e' : c = s1.heap.objs.size + 4 ∨ c = s1.heap.objs.size + 2 ∨ c = s1.heap.objs.size + 3 ∨ c = s1.heap.objs.size ∨ c = s1.heap.objs.size + 1 := by simpa using hcm
      have hle : s1.heap.objs.size ≤ c := by
        rcases e' with z | z | z | z | z
        · rw [z]; exact Nat.le_add_right _ _
        · rw [z]; exact Nat.le_add_right _ _
        · rw [z]; exact Nat.le_add_right _ _
        · rw [z]; exact Nat.le_refl _
        · rw [z]; exact Nat.le_add_right _ _
      exact I1.fpOk hle (I1.hok.fresh hle)
theorem items_rep {F : Hp} {v : V} {d : D} {ds : List D} (q : Dt F v d) (e : itemsD d = some ds) : ∃ k a xs, v = .ref a ∧ L2.Rd F a (Kd.ho k xs) ∧ DtAll F xs ds := by
  cases q with
  | lst hs ha =>
    cases e
    exact ⟨.l, _, _, rfl, hs, ha⟩
  | tup hs ha =>
    cases e
    exact ⟨.t, _, _, rfl, hs, ha⟩
  | _ => cases e
section
variable {G : Ge} {N : List Str} {k : Nat} {x y z : IR}
theorem si_zip {st : Option Bool} (hx : SE G N k x) (hy : SE G N k y) : SI G N k (.iZip st x y) where
  fs := fun {sc tg e} h env v => by
    dsimp only [mt] at h
    split at h
    · rfl
    · cases h
  p := fun {sc X W tg e} ok tk h => by
    dsimp only [mt] at h
    split at h
    · rename_i el kk tp n p1 l r ks p2
      simp only [Bool.and_eq_true, decide_eq_true_eq] at h
      obtain ⟨⟨⟨⟨rfl, h2⟩, h3⟩, h4⟩, h5⟩ := h
      have hm : X.mg "zip" = none := ok.blt _ (by decide +kernel)
      have st1 := hx.st h3 [r] X.env
      have st2 := hy.st h4 [] X.env
      have core : ∀ (σ : St) (H : Hp) (Z : It → Hp → Prop), Rd X.mg W RelI (den G (.iZip st x y)).i σ H Z → Rd X.mg W RelE (den G x).e σ H fun v H1 => Rd X.mg W RelE (den G y).e σ H1 fun w H2 => ∃ a b k k' xs ys, [v, w] = [.ref a, .ref b] ∧ Kd.sq X.K k H2 a xs ∧ Kd.sq X.K k' H2 b ys ∧ Z (Itzd X.K k k' a b) H2 := by
        intro σ H Z ⟨ρ, μ, F, ι, S, a⟩
        refine Rd.mono (Aft.step (U := RelE) a S Ext.refl) fun v1 H1 ⟨s1, μ1, F1, e1, d1, S1, ⟨r1, n1⟩, a⟩ => ?_
        obtain ⟨d, μ2, F2, e2, sf, S2, q, a⟩ := a.keep S1 e1 r1 n1 fun _ z => z
        refine Rd.mono (Aft.step (U := RelE) a S2 e2) fun v2 H3 ⟨s3, μ3, F3, e3, d3, S3, ⟨r3, n3⟩, a⟩ => ?_
        obtain ⟨d', μ4, F4, e4, sf4, S4, q', a⟩ := a.keep S3 e3 r3 n3 e2.ht
        obtain ⟨ds, i1, a⟩ := a.of
        obtain ⟨es, i2, a⟩ := a.of
        obtain ⟨k1, a1, xs1, rfl, t1, t1'⟩ := items_rep (Dt.mono (d3.fs.trans sf4) q) i1
        obtain ⟨k2, a2, xs2, rfl, t2, t2'⟩ := items_rep q' i2
        split at a
        · exact a.elim
        · exact ⟨a1, a2, k1, k2, xs1, xs2, rfl, Kd.sqOf (Same.rd S4.sub t1), Kd.sqOf (Same.rd S4.sub t2), a _ F4 H3 e4 S4 (.zip t1 t1' t2 t2')⟩
      match st, ks, h5 with
      | none, [], _ => exact PI.imp (pi_zipd (gl_of ok.hsc h2) hm (pa_cons (hx.e ok tk h3) (pa_cons (hy.e ok tk h4) pa_nil st2) st1) st1 (by rw [st2]; rfl)) core
    · cases h
end
end DL

set_option maxHeartbeats 1000000
/-! DL14: targets, comprehensions. -/
namespace DL
open PySem PySem.Spec PyProof.Rows L2
section
variable {ρ ρ' : Rho} {μ : List Cell} {σ : St} {F H : Hp} {ι : List Addr} {G : Ge} {N : List Str} {k : Nat}
theorem Sat.setS (S : Sat ρ μ σ H F ι) (i : Nat) {v : V} {sv : SV} (q : SlotOk F ι v sv) : Sat (ρ.set i (some sv)) μ (σ.set i (some v)) H F ι where
  sub := S.sub
  len := S.len
  nod := S.nod
  cell := S.cell
  slen := by simp [S.slen]
  slot := fun j w e => by
    by_cases z : i = j
    · subst z
      have hl : i < ρ.length := by
        have := (List.getElem?_eq_some_iff.mp e).1
        simpa using this
      rw [List.getElem?_set_self hl] at e
      cases e
      exact ⟨v, List.getElem?_set_self (S.slen ▸ hl), q⟩
    · rw [List.getElem?_set_ne z] at e
      obtain ⟨v', h1, h2⟩ := S.slot j w e
      exact ⟨v', by rw [List.getElem?_set_ne z]; exact h1, h2⟩
theorem Sat.wipe1 (S : Sat ρ μ σ H F ι) (i : Nat) : Sat (ρ.set i none) μ (σ.set i none) H F ι where
  sub := S.sub
  len := S.len
  nod := S.nod
  cell := S.cell
  slen := by simp [S.slen]
  slot := fun j w e => by
    by_cases z : i = j
    · subst z
      have hl : i < ρ.length := by
        have := (List.getElem?_eq_some_iff.mp e).1
        simpa using this
      rw [List.getElem?_set_self hl] at e
      cases e
    · rw [List.getElem?_set_ne z] at e
      obtain ⟨v', h1, h2⟩ := S.slot j w e
      exact ⟨v', by rw [List.getElem?_set_ne z]; exact h1, h2⟩
theorem Sat.wipe (S : Sat ρ μ σ H F ι) : ∀ vs : List Nat, Sat (wipeR ρ vs) μ (L2.wipe σ vs) H F ι
  | [] => S
  | v :: vs => (Sat.wipe S vs).wipe1 v
theorem Sat.upd (S : Sat ρ μ σ H F ι) {a : Addr} {o : HO} (n : F a = none) (m : a ∉ ι) : Sat ρ μ σ (upd H a o) F ι where
  sub := fun b u h => by
    rw [upd_ne (ne_of_none h n)]
    exact S.sub b u h
  len := S.len
  nod := S.nod
  cell := fun j b c h1 h2 => by
    obtain ⟨vs, q, r⟩ := S.cell j b c h1 h2
    have ne : b ≠ a := fun z => m (z ▸ List.mem_of_getElem? h1)
    exact ⟨vs, by rw [upd_ne ne]; exact q, r⟩
  slen := S.slen
  slot := S.slot
/-- the slots may go on as they are, in another state -/
theorem Sat.slots {μ' : List Cell} {σ' : St} {F' H' : Hp} (S : Sat ρ μ σ H F ι) (T : Sat ρ' μ' σ' H' F' ι) (s : Same F F') : Sat ρ μ' σ H' F' ι where
  sub := T.sub
  len := T.len
  nod := T.nod
  cell := T.cell
  slen := S.slen
  slot := fun j w e => by
    obtain ⟨v, h1, h2⟩ := S.slot j w e
    refine ⟨v, h1, ?_⟩
    cases w with
    | dat d => exact Dt.mono s h2
    | own j => exact h2
    | fre _ => exact h2

/-! ### targets -/
def Tg.len : Tg → Nat
  | .cons _ b => b.len + 1
  | _ => 0
structure Gt where
  one : TG
  all : TGs
def gOf (K : PySem.W.Frag) : Tg → Gt
  | .nm i => ⟨gName i, fun _ _ _ _ => False⟩
  | .nil => ⟨gTup K 0 gNil, gNil⟩
  | .cons a b => ⟨gTup K (b.len + 1) (gCons (gOf K a).one (gOf K b).all), gCons (gOf K a).one (gOf K b).all⟩
theorem each_of {sc : Scope} : ∀ {t : Tg} {ys : List Expr}, (tgm N t).all sc ys = true → t.len = ys.length ∧ ∀ env, assignEach ys env = ys.map fun y => (false, assign y env)
  | .nm i, ys, h => nomatch h
  | .nil, [], h => ⟨rfl, fun _ => rfl⟩
  | .nil, _ :: _, h => nomatch h
  | .cons a b, [], h => nomatch h
  | .cons a b, y :: ys, h => by
    obtain ⟨h1, h2⟩ := Bool.and_eq_true_iff.mp h
    obtain ⟨q1, q2⟩ := each_of h2
    refine ⟨by simp [Tg.len, q1], fun env => ?_⟩
    rw [List.map_cons, ← q2 env]
    cases a with
    | nm i => cases y <;> first
      | rfl
      | (dsimp only [tgm] at h1; cases h1)
    | nil => cases y <;> first
      | rfl
      | (dsimp only [tgm] at h1; cases h1)
    | cons a c => cases y <;> first
      | rfl
      | (dsimp only [tgm] at h1; cases h1)
theorem each_none (env : Env) : ∀ ys : List Expr, (ys.map fun y => (false, assign y env)).findIdx? (·.1) = none
  | [] => rfl
  | y :: ys => by
    rw [List.map_cons, List.findIdx?_cons, each_none env ys]
    rfl
theorem pgs_tg {sc : Scope} {X : Cx} (ok : OkX G N k sc X) : ∀ t : Tg, (∀ {x : Expr}, (tgm N t).one sc x = true → PG X x (gOf X.K t).one) ∧ ∀ {ys : List Expr}, (tgm N t).all sc ys = true → PGs X ys (gOf X.K t).all
  | .nm i => by
    refine ⟨fun {x} h => ?_, fun h => nomatch h⟩
    dsimp only [tgm] at h
    split at h
    · simp only [Bool.and_eq_true, decide_eq_true_eq] at h
      exact pg_name (by rw [ok.hN]; exact ok.nd) (by rw [ok.hN]; exact h.1) (loc_of ok.hsc h.2) (fn_of' ok h.2)
    · cases h
  | .nil => by
    refine ⟨fun {x} h => ?_, fun {ys} h => ?_⟩
    · dsimp only [tgm] at h
      split at h
      · exact pg_tup ok.calm pgs_nil
      · cases h
    · dsimp only [tgm] at h
      split at h
      · exact pgs_nil
      · cases h
  | .cons a b => by
    have ha := pgs_tg ok a
    have hb := pgs_tg ok b
    have all : ∀ {ys : List Expr}, (tgm N (.cons a b)).all sc ys = true → PGs X ys (gOf X.K (.cons a b)).all := fun {ys} h => by
      have ea := each_of h
      cases ys with
      | nil => cases h
      | cons y ys =>
        obtain ⟨h1, h2⟩ := Bool.and_eq_true_iff.mp h
        refine pgs_cons (ha.1 h1) (hb.2 h2) ?_
        rw [ea.2, (each_of h2).2]
        simp
    refine ⟨fun {x} h => ?_, all⟩
    dsimp only [tgm] at h
    split at h
    · rename_i y ys _ _
      have h' : (tgm N (.cons a b)).all sc (y :: ys) = true := h
      have ea := each_of h'
      exact pg_tup ok.calm (all h') (by rw [ea.2, List.length_map]; exact ea.1.symm) (by rw [ea.2]; exact each_none _ _)
    · cases h
theorem all_len : ∀ (t : Tg) {ρ ρ' : Rho} {ds : List D}, t.f.all ds ρ = some ρ' → ds.length = t.len
  | .nm i, _, _, _, e => nomatch e
  | .nil, _, _, [], _ => rfl
  | .nil, _, _, _ :: _, e => nomatch e
  | .cons a b, _, _, [], e => nomatch e
  | .cons a b, ρ, ρ', x :: ds, e => by
    have e' : (match a.f.one x ρ with
      | some ρ' => b.f.all ds ρ'
      | none => none) = some ρ' := e
    split at e'
    · simp [Tg.len, all_len b e']
    · cases e'
theorem g_ok {K : PySem.W.Frag} : ∀ t : Tg, (∀ {ρ ρ' : Rho} {σ : St} {d : D} {v : V} {Q : St → Hp → Prop}, t.f.one d ρ = some ρ' → Sat ρ μ σ H F ι → Dt F v d →
      (∀ σ', Sat ρ' μ σ' H F ι → (∀ j, j ∉ t.vars → σ'[j]? = σ[j]?) → σ'.length = σ.length → Q σ' H) → (gOf K t).one v σ H Q) ∧
    ∀ {ρ ρ' : Rho} {σ : St} {ds : List D} {vs : List V} {Q : St → Hp → Prop}, t.f.all ds ρ = some ρ' → Sat ρ μ σ H F ι → DtAll F vs ds →
      (∀ σ', Sat ρ' μ σ' H F ι → (∀ j, j ∉ t.vars → σ'[j]? = σ[j]?) → σ'.length = σ.length → Q σ' H) → (gOf K t).all vs σ H Q
  | .nm i => by
    refine ⟨fun {ρ ρ' σ d v Q} e S q c => ?_, fun e => nomatch e⟩
    cases e
    refine c _ (S.setS i (sv := .dat d) q) (fun j hj => ?_) (by simp)
    exact List.getElem?_set_ne fun z => hj (by simp [Tg.vars, z])
  | .nil => by
    refine ⟨fun {ρ ρ' σ d v Q} e S q c => ?_, fun {ρ ρ' σ ds vs Q} e S q c => ?_⟩
    · cases q with
      | tup h w =>
        cases w with
        | nil =>
          cases e
          exact ⟨_, _, rfl, .inl (Same.rd S.sub h), rfl, rfl, c _ S (fun _ _ => rfl) rfl⟩
        | cons _ _ => cases e
      | _ => cases e
    · cases q with
      | nil =>
        cases e
        exact ⟨rfl, c _ S (fun _ _ => rfl) rfl⟩
      | cons _ _ => cases e
  | .cons a b => by
    have ha := g_ok (K := K) a
    have hb := g_ok (K := K) b
    have all : ∀ {ρ ρ' : Rho} {σ : St} {ds : List D} {vs : List V} {Q : St → Hp → Prop}, (Tg.cons a b).f.all ds ρ = some ρ' → Sat ρ μ σ H F ι → DtAll F vs ds →
      (∀ σ', Sat ρ' μ σ' H F ι → (∀ j, j ∉ (Tg.cons a b).vars → σ'[j]? = σ[j]?) → σ'.length = σ.length → Q σ' H) → (gOf K (.cons a b)).all vs σ H Q := fun {ρ ρ' σ ds vs Q} e S q c => by
      cases q with
      | nil => cases e
      | cons q1 q2 =>
        rename_i v vs x ds
        have e' : (match a.f.one x ρ with
          | some ρ' => b.f.all ds ρ'
          | none => none) = some ρ' := e
        split at e'
        · rename_i ρ1 e1
          refine ⟨v, vs, rfl, ha.1 e1 S q1 fun σ1 S1 k1 l1 => hb.2 e' S1 q2 fun σ2 S2 k2 l2 => c σ2 S2 (fun j hj => ?_) (l2.trans l1)⟩
          have hj' : j ∉ a.vars ∧ j ∉ b.vars := by
            constructor
            · intro z
              exact hj (List.mem_append_left _ z)
            · intro z
              exact hj (List.mem_append_right _ z)
          rw [k2 j hj'.2, k1 j hj'.1]
        · cases e'
    refine ⟨fun {ρ ρ' σ d v Q} e S q c => ?_, all⟩
    cases q with
    | tup h w =>
      rename_i p xs ds
      have e2 : (Tg.cons a b).f.all ds ρ = some ρ' := by
        cases ds with
        | nil => cases e
        | cons x ds => exact e
      exact ⟨_, _, rfl, .inl (Same.rd S.sub h), by rw [w.length, all_len _ e2]; rfl, all e2 S w c⟩
    | _ => cases e
theorem wipe_out {τ : St} {j : Nat} : ∀ {ws : List Nat}, j ∉ ws → (L2.wipe τ ws)[j]? = τ[j]?
  | [], _ => rfl
  | w :: ws, z => by
    show ((L2.wipe τ ws).set w none)[j]? = _
    have ne : w ≠ j := fun y => z (by rw [y]; exact List.mem_cons_self ..)
    rw [List.getElem?_set_ne ne]
    exact wipe_out fun y => z (List.mem_cons_of_mem _ y)
theorem wipe_eq {σ σ' : St} : ∀ {vs : List Nat}, σ'.length = σ.length → (∀ j, j ∉ vs → σ'[j]? = σ[j]?) → L2.wipe σ' vs = L2.wipe σ vs := fun {vs} hl h => by
  refine List.ext_getElem? fun j => ?_
  by_cases hj : j ∈ vs
  · have get : ∀ (τ : St) (ws : List Nat), j ∈ ws → (L2.wipe τ ws)[j]? = if j < τ.length then some none else none := fun τ ws => by
      induction ws with
      | nil => intro z; cases z
      | cons w ws ih =>
        intro z
        show ((L2.wipe τ ws).set w none)[j]? = _
        by_cases y : w = j
        · subst y
          by_cases hl : w < τ.length
          · rw [if_pos hl, List.getElem?_set_self (by rw [wipe_length]; exact hl)]
          · rw [if_neg hl]
            exact List.getElem?_eq_none (by simp [wipe_length]; omega)
        · rw [List.getElem?_set_ne y]
          refine ih ?_
          rcases List.mem_cons.mp z with e | e
          · exact absurd e.symm y
          · exact e
    rw [get σ' vs hj, get σ vs hj, hl]
  · have get : ∀ (τ : St) (ws : List Nat), j ∉ ws → (L2.wipe τ ws)[j]? = τ[j]? := fun τ ws => by
      induction ws with
      | nil => intro _; rfl
      | cons w ws ih =>
        intro z
        show ((L2.wipe τ ws).set w none)[j]? = _
        have ne : w ≠ j := fun y => z (by rw [y]; exact List.mem_cons_self ..)
        rw [List.getElem?_set_ne ne]
        exact ih fun y => z (List.mem_cons_of_mem _ y)
    rw [get σ' vs hj, get σ vs hj, h j hj]
end
end DL

set_option maxHeartbeats 1000000
/-! DL15: comprehensions. -/
namespace DL
open PySem PySem.Spec PyProof.Rows L2
abbrev W0 : WX := fun _ _ _ _ => False
section
variable {G : Ge} {N : List Str} {k : Nat} {x y z : IR}
theorem lookup_rel {c : Str → Bool} : ∀ {names : List (Str × NameKind)} {x : Str}, (names.map fun (n, k) => if (k == NameKind.free && c n) then (n, NameKind.cell) else (n, k)).lookup x = (match names.lookup x with
    | some .free => if c x = true then some .cell else some .free
    | o => o)
  | [], x => rfl
  | (n, k) :: r, x => by
    rw [List.map_cons]
    cases hx : x == n with
    | true =>
      have e : x = n := eq_of_beq hx
      subst e
      rw [List.lookup_cons_self]
      by_cases hc : (k == NameKind.free && c x) = true
      · have h2 := Bool.and_eq_true_iff.mp hc
        have e : k = .free := eq_of_beq h2.1
        subst e
        simp [h2.2]
      · cases k <;> first
          | (simp at hc; simp [hc])
          | simp
    | false =>
      have e : List.lookup x ((n, k) :: r) = List.lookup x r := by simp [List.lookup_cons, hx]
      rw [e]
      rw [← lookup_rel (c := c) (names := r) (x := x)]
      show List.lookup x ((if (k == NameKind.free && c n) = true then (n, NameKind.cell) else (n, k)) :: _) = _
      by_cases hc : (k == NameKind.free && c n) = true
      · rw [if_pos hc]
        simp only [List.lookup_cons, hx]
      · rw [if_neg hc]
        simp only [List.lookup_cons, hx]
theorem lookup_relabel {scope : Scope} {env : Env} {x : Str} : (relabel scope env).names.lookup x = (match scope.names.lookup x with
    | some .free => if (env.scope.kind == .function && env.kindOf x == some .cell) = true then some .cell else some .free
    | o => o) := by
  have := lookup_rel (c := fun n => env.scope.kind == .function && env.kindOf n == some .cell) (names := scope.names) (x := x)
  rw [← this]
  unfold relabel
  simp only [Bool.and_assoc]
theorem Sees.blk {scope : Scope} {X : Cx} (s : Shared) (H : Hp) (C : Addr) (cl : List (Str × Addr)) (fp : List Addr) (hk : scope.kind = .function) : Sees scope (X.blk s H scope (compEnvC scope cl C X.env) fp) where
  vis := fun n h => by
    show Vis (relabel scope X.env) n
    unfold Vis
    rw [lookup_relabel]
    unfold visB at h
    split at h
    · rename_i e
      rw [e]
      exact .inl rfl
    · rename_i e
      rw [e]
      exact .inr (.inl rfl)
    · rename_i e
      rw [e]
      by_cases c : (X.env.scope.kind == .function && X.env.kindOf n == some .cell) = true
      · exact .inr (.inl (by simp [c]))
      · exact .inr (.inr (by simp [c]))
    · cases h
  loc := fun n h => by
    show L2.Loc (relabel scope X.env) n ∧ ((scope.names.lookup n == some .cell) = true ∨ (relabel scope X.env).names.lookup n = some .local)
    unfold L2.Loc
    rw [lookup_relabel]
    unfold locB at h
    split at h
    · rename_i e
      rw [e]
      exact ⟨.inl rfl, .inr rfl⟩
    · rename_i e
      rw [e]
      exact ⟨.inr rfl, .inl rfl⟩
    · cases h
  gl := fun n h => by
    show (relabel scope X.env).names.lookup n = some .globalImplicit
    rw [lookup_relabel]
    unfold glB at h
    split at h
    · rename_i e
      rw [e]
    · cases h
  lcl := fun n h => by
    show (relabel scope X.env).names.lookup n = some .local
    rw [lookup_relabel]
    unfold lclB at h
    split at h
    · rename_i e
      rw [e]
    · cases h
  fr := fun n h => by
    show (relabel scope X.env).names.lookup n = some .cell ∨ (relabel scope X.env).names.lookup n = some .free
    rw [lookup_relabel]
    rcases h with h | h
    · rw [h]
      exact .inl rfl
    · rw [h]
      by_cases c : (X.env.scope.kind == .function && X.env.kindOf n == some .cell) = true
      · exact .inl (by simp [c])
      · exact .inr (by simp [c])
  kind := hk
theorem OkX.blk {sc scope : Scope} {X : Cx} (ok : OkX G N k sc X) (hk : scope.kind = .function) (s : Shared) (H : Hp) (C : Addr) (cl : List (Str × Addr)) (fp : List Addr) : OkX G N k scope (X.blk s H scope (compEnvC scope cl C X.env) fp) where
  hN := ok.hN
  nd := ok.nd
  hsc := Sees.blk s H C cl fp hk
  calm := ok.calm
  room := ok.room
  grd := ok.grd
  cal := fun c h => ⟨(ok.cal c h).ex⟩
  con := ok.con
  blt := ok.blt
  exo := fun c h => ⟨(ok.exo c h).ex⟩
  exm := ok.exm
theorem PTs.imp {X : Cx} {e : List Expr} {t t' : TT} (h : PTs X e t) (i : ∀ σ H Q, t' σ H Q → t σ H Q) : PTs X e t' := ⟨fun pins s σ H Q I q => h.run pins s σ H Q I (i σ H Q q)⟩
noncomputable def lcT (G : Ge) (t : IR) : Rho → List Cell → R Bool := fun ρ1 μ2 => match t with
  | .nil => .ok true μ2
  | _ => testR (den G t).e ρ1 μ2
noncomputable def lcE (G : Ge) (e : IR) : Rho → List Cell → R D := fun ρ1 μ2 => ((den G e).e ρ1 μ2).bind fun v μ3 => v.keep μ3
/-- the state of a comprehension's loop -/
structure LcSt (asg : D → Rho → Option Rho) (tt : Rho → List Cell → R Bool) (te : Rho → List Cell → R (List D)) (ρ : Rho) (σ : St) (ι : List Addr) (ds ys : List D) (μ' : List Cell) (F1 H1 : Hp) (D : Addr) (i : Nat) (H : Hp) : Prop where
  ex : ∃ μ acc F vs, H D = some (.lst vs) ∧ F D = none ∧ DtAll F vs acc ∧ acc.length ≤ i ∧ Ext ι F1 H1 F H ∧ Sat ρ μ σ H F ι ∧ ∃ rest, lcR asg tt te ρ (ds.drop i) μ = .ok rest μ' ∧ acc ++ rest = ys
theorem Ext.updNew {ι : List Addr} {F0 H0 F H : Hp} {D : Addr} {o : HO} (e : Ext ι F0 H0 F H) (n : H0 D = none) : Ext ι F0 H0 F (upd H D o) where
  fs := e.fs
  hs := fun b u h m => by
    rw [upd_ne (ne_of_none h n)]
    exact e.hs b u h m
  ht := fun b h => by
    obtain ⟨h1, h2⟩ := upd_none h
    exact e.ht b h2
  new := e.new
theorem noX_ok {α : Type} {r : R α} {a : α} {μ : List Cell} (h : r.noX = .ok a μ) : r = .ok a μ := by
  cases r <;> first
    | exact h
    | cases h
theorem bind_ok {α β : Type} {r : R α} {f : α → List Cell → R β} {b : β} {μ : List Cell} (h : r.bind f = .ok b μ) : ∃ a μ1, r = .ok a μ1 ∧ f a μ1 = .ok b μ := by
  cases r with
  | ok a μ1 => exact ⟨a, μ1, rfl, h⟩
  | exc x μ1 => cases h
  | stuck => cases h
theorem Ext.free {ι : List Addr} {F H F' H' : Hp} {D : Addr} {o : HO} (e : Ext ι F H F' H') (h : H D = some o) (n : F D = none) (m : D ∉ ι) : F' D = none := by
  cases q : F' D with
  | none => rfl
  | some u =>
    rcases e.new D u q with z | z | z
    · rw [n] at z; cases z
    · rw [h] at z; cases z
    · exact absurd z m
/-- behind a turn the slots are forgotten again -/
theorem dropW {ρ ρ' : Rho} {μ μ' : List Cell} {σ σ' : St} {F H F' H' : Hp} {ι : List Addr} (S : Sat ρ μ σ H F ι) (T : Sat ρ' μ' σ' H' F' ι) (s : Same F F') : Sat ρ μ' σ H' F' ι := S.slots T s
theorem lc_read {X : Cx} {W : WX} {vs : List (Str × Nat)} {tg : Tg} {it t e : IR} (hv : ∀ i ∈ tg.vars, i ∈ vs.map (·.2)) {σ : St} {H : Hp} {Q : VK} (h : Rd X.mg W RelE (den G (.lc vs tg it t e)).e σ H Q) :
    tLc (fun σ H R => Rd X.mg W RelI (den G it).i σ H R) (gOf X.K tg).one (Rd X.mg W0 RelB (lcT G t)) (Rd X.mg W0 RelE (den G e).e) (vs.map (·.2)) σ H Q := by
  obtain ⟨ρ, μ, F, ι, S, a⟩ := h
  refine ⟨ρ, μ, F, ι, S, ?_⟩
  replace a : Aft X.mg W RelE ρ σ ι F H (((den G it).i ρ μ).noX.bind fun ds μ1 =>
      if ds.length ≤ 10000000 then
        (lcR tg.f.one (lcT G t) (fun ρ1 μ2 => ((den G e).e ρ1 μ2).bind fun v μ3 => (v.keep μ3).bind fun d μ4 => .ok [d] μ4) (wipeR ρ (vs.map (·.2))) ds μ1).noX.bind fun ys μ2 => .ok (.fre ys) μ2
      else .stuck) Q := a
  cases e1 : (den G it).i ρ μ with
  | stuck =>
    rw [e1] at a
    exact a.elim
  | exc x μ1 =>
    rw [e1] at a
    exact a.elim
  | ok ds μ1 =>
    rw [e1] at a
    replace a : Aft X.mg W RelE ρ σ ι F H (if ds.length ≤ 10000000 then
        (lcR tg.f.one (lcT G t) (fun ρ1 μ2 => ((den G e).e ρ1 μ2).bind fun v μ3 => (v.keep μ3).bind fun d μ4 => .ok [d] μ4) (wipeR ρ (vs.map (·.2))) ds μ1).noX.bind fun ys μ2 => .ok (.fre ys) μ2
      else .stuck) Q := a
    split at a
    case isFalse => exact a.elim
    rename_i hlen
    cases e2 : lcR tg.f.one (lcT G t) (fun ρ1 μ2 => ((den G e).e ρ1 μ2).bind fun v μ3 => (v.keep μ3).bind fun d μ4 => .ok [d] μ4) (wipeR ρ (vs.map (·.2))) ds μ1 with
    | stuck =>
      rw [e2] at a
      exact a.elim
    | exc x μ1 =>
      rw [e2] at a
      exact a.elim
    | ok ys μ2 =>
      rw [e2] at a
      intro J F1 H1 x1 S1 wd Dn hD
      have mD : Dn ∉ ι := S1.notIn hD
      have fD : F1 Dn = none := by
        cases q : F1 Dn with
        | none => rfl
        | some u => rw [S1.sub _ _ q] at hD; cases hD
      have app : ∀ (i : Nat) (m : Nat) (H : Hp), (m = ds.length - i ∧ i ≤ ds.length ∧ LcSt tg.f.one (lcT G t) (fun ρ1 μ2 => ((den G e).e ρ1 μ2).bind fun v μ3 => (v.keep μ3).bind fun d μ4 => .ok [d] μ4) (wipeR ρ (vs.map (·.2))) (L2.wipe σ (vs.map (·.2))) ι ds ys μ2 F1 H1 Dn i H) →
        (J.stop i H ∧ Q (.ref Dn) H) ∨ (J.go i H ∧ ∃ Nx : Hp → Prop, (∀ H', Nx H' → ∃ m', m' < m ∧ (m' = ds.length - (i + 1) ∧ i + 1 ≤ ds.length ∧ LcSt tg.f.one (lcT G t) (fun ρ1 μ2 => ((den G e).e ρ1 μ2).bind fun v μ3 => (v.keep μ3).bind fun d μ4 => .ok [d] μ4) (wipeR ρ (vs.map (·.2))) (L2.wipe σ (vs.map (·.2))) ι ds ys μ2 F1 H1 Dn (i + 1) H')) ∧
          ∀ x H', J.yld i H x H' → (gOf X.K tg).one x (L2.wipe σ (vs.map (·.2))) H' fun σ2 H2 => L2.wipe σ2 (vs.map (·.2)) = L2.wipe σ (vs.map (·.2)) ∧ Rd X.mg W0 RelB (lcT G t) σ2 H2 fun b H3 =>
            if b = true then Rd X.mg W0 RelE (den G e).e σ2 H3 fun y H4 => ∃ acc, H4 Dn = some (.lst acc) ∧ acc.length < sizeLine ∧ Nx (L2.upd H4 Dn (.lst (acc ++ [y]))) else Nx H3) := by
        rintro i m Hi ⟨rfl, hi, ⟨μi, acc, Fi, vsi, g1, g2, g3, g4, g5, g6, rest, g7, g8⟩⟩
        have gs : Same Fi Hi := g6.sub
        have gf : Same F1 Fi := g5.fs
        by_cases hlt : i < ds.length
        · have hd : ds[i]? = some ds[i] := by simp [hlt]
          rw [List.drop_eq_getElem_cons hlt] at g7
          unfold lcR at g7
          split at g7
          case h_1 => cases g7
          rename_i ρ1 ea
          obtain ⟨b, μb, eb, g7⟩ := bind_ok g7
          refine .inr ⟨wd.goes Fi Hi i _ gf gs hd, fun H' => i + 1 ≤ ds.length ∧ LcSt tg.f.one (lcT G t) (fun ρ1 μ2 => ((den G e).e ρ1 μ2).bind fun v μ3 => (v.keep μ3).bind fun d μ4 => .ok [d] μ4) (wipeR ρ (vs.map (·.2))) (L2.wipe σ (vs.map (·.2))) ι ds ys μ2 F1 H1 Dn (i + 1) H', fun H' q => ⟨_, by omega, rfl, q⟩, fun x H' y => ?_⟩
          obtain ⟨F2, op, dx⟩ := wd.yields Fi Hi i _ x H' gf gs hd y
          have S2 := op.sat g6
          refine (g_ok tg).1 ea S2 dx fun σ2 S3 k3 l3 => ?_
          have wq : L2.wipe σ2 (vs.map (·.2)) = L2.wipe σ (vs.map (·.2)) := by
            have h1 : L2.wipe σ2 (vs.map (·.2)) = L2.wipe (L2.wipe σ (vs.map (·.2))) (vs.map (·.2)) := wipe_eq l3 fun j hj => k3 j fun z => hj (hv j z)
            rw [h1]
            exact wipe_eq (wipe_length _ _) fun j hj => wipe_out hj
          refine ⟨wq, ρ1, μi, F2, ι, S3, ?_⟩
          rw [eb]
          intro b' F3 H3 x3 S4 rb
          subst rb
          have opx := op.ext (ι := ι)
          have g1' : H3 Dn = some (.lst vsi) := x3.hs _ _ (op.hs _ _ g1) mD
          have g2' : F3 Dn = none := (opx.trans x3).free g1 g2 mD
          have xx : Ext ι F1 H1 F3 H3 := g5.trans (opx.trans x3)
          cases b' with
          | false =>
            rw [if_neg Bool.false_ne_true]
            exact ⟨by omega, ⟨μb, acc, F3, vsi, g1', g2', DtAll.mono (opx.trans x3).fs g3, by omega, xx, dropW g6 S4 (opx.trans x3).fs, rest, g7, g8⟩⟩
          | true =>
            rw [if_pos rfl]
            obtain ⟨yy, μy, ey, g7⟩ := bind_ok g7
            obtain ⟨v, μv, ev, ey⟩ := bind_ok ey
            obtain ⟨dd, μd, ed, ey⟩ := bind_ok ey
            cases ey
            obtain ⟨rest', μr, er, g7⟩ := bind_ok g7
            cases g7
            refine ⟨ρ1, μb, F3, ι, S4, ?_⟩
            rw [ev]
            intro yv F4 H4 x4 S5 ⟨ry, ny⟩
            obtain ⟨F5, x5, sf, S6, q⟩ := S5.keep x4 ry ny ed
            have g1'' : H4 Dn = some (.lst vsi) := x5.hs _ _ g1' mD
            have g2'' : F5 Dn = none := x5.free g1' g2' mD
            have all := DtAll.mono ((opx.trans x3).trans x5).fs g3
            refine ⟨vsi, g1'', ?_, by omega, ⟨μy, acc ++ [dd], F5, vsi ++ [yv], upd_same, g2'', all.append (.cons q .nil), by simp; omega, (xx.trans x5).updNew hD, (dropW g6 S6 ((opx.trans x3).trans x5).fs).upd g2'' mD, rest', er, ?_⟩⟩
            · have := all.length
              have h2 := size7 (n := acc.length + 1) (by omega)
              omega
            · rw [List.append_assoc]
              exact g8
        · have e : i = ds.length := by omega
          subst e
          rw [List.drop_length] at g7
          cases g7
          rw [List.append_nil] at g8
          subst g8
          refine .inl ⟨wd.stops Fi Hi gf gs, a (.ref Dn) Fi Hi (x1.trans g5) (S.slots g6 (x1.trans g5).fs) ⟨⟨Dn, vsi, rfl, g1, g2, mD, g3⟩, fun p z => ?_⟩⟩
          cases z
          exact x1.ht _ hD
      refine ⟨fun i m H => m = ds.length - i ∧ i ≤ ds.length ∧ LcSt tg.f.one (lcT G t) (fun ρ1 μ2 => ((den G e).e ρ1 μ2).bind fun v μ3 => (v.keep μ3).bind fun d μ4 => .ok [d] μ4) (wipeR ρ (vs.map (·.2))) (L2.wipe σ (vs.map (·.2))) ι ds ys μ2 F1 H1 Dn i H, ⟨_, rfl, Nat.zero_le _, ⟨μ1, [], F1, [], upd_same, fD, .nil, Nat.le_refl _, Ext.refl.updNew hD, (S1.upd fD mD).wipe _, ys, e2, rfl⟩⟩, ?_⟩
      rintro i m H ⟨rfl, hi, q⟩
      rcases app i _ H ⟨rfl, hi, q⟩ with h | ⟨h1, Nx, h2, h3⟩
      · exact .inl h
      · exact .inr ⟨h1, Nx, h2, h3⟩
end
end DL

set_option maxHeartbeats 1000000
/-! DL16: comprehensions as expressions and as what a name is set to. -/
namespace DL
open PySem PySem.Spec PyProof.Rows L2
section
variable {G : Ge} {N : List Str} {k : Nat} {x y z : IR}
theorem blk_of {sc scope : Scope} {X : Cx} {vs : List (Str × Nat)} (ok : OkX G N k sc X) (h : blkC N sc scope vs = true) : BlkOk X.N X.env.scope scope vs := by
  have b := blkOk_by h
  exact ⟨b.kind, b.uniq, by rw [ok.hN]; exact b.ix, fun y hy e => ok.hsc.fr _ (b.free y hy e), by rw [ok.hN]; exact b.own⟩
/-- what a comprehension's text gives -/
structure LcOk (X : Cx) (W : WX) (elt tg iter : Expr) (ifs : List Expr) (scope : Scope) (own : List (Str × Nat)) (G : Ge) (t : Tg) (it tt e : IR) : Prop where
  hi : PI X tg iter fun σ H R => Rd X.mg W RelI (den G it).i σ H R
  ok : BlkOk X.N X.env.scope scope own
  hg : ∀ (s : Shared) (H : Hp) (C : Addr) (cl : List (Str × Addr)) (fp : List Addr), PG (X.blk s H scope (compEnvC scope cl C X.env) fp) tg (gOf X.K t).one
  ht : ∀ (s : Shared) (H : Hp) (C : Addr) (cl : List (Str × Addr)) (fp : List Addr), PTs (X.blk s H scope (compEnvC scope cl C X.env) fp) ifs (Rd X.mg W0 RelB (lcT G tt))
  he : ∀ (s : Shared) (H : Hp) (C : Addr) (cl : List (Str × Addr)) (fp : List Addr), PE (X.blk s H scope (compEnvC scope cl C X.env) fp) elt (Rd X.mg W0 RelE (den G e).e)
  hs : ∀ x, foldedSetIterable iter X.env x = pure x
  hv : ∀ i ∈ t.vars, i ∈ own.map (·.2)
theorem all_in {as bs : List Nat} (h : (as.all fun i => bs.contains i) = true) : ∀ i ∈ as, i ∈ bs := fun i hi => by
  have := List.all_eq_true.mp h i hi
  simpa using this
theorem lc_parts {vs : List (Str × Nat)} {tg : Tg} {it t e : IR} (hit : SI G N k it) (ht : SE G N k t) (he : SE G N k e) {sc : Scope} {X : Cx} {W : WX} {x : Expr} (ok : OkX G N k sc X) (tk : Takes X W) (h : (mt G N (.lc vs tg it t e)).e sc x = true) :
    ∃ elt tg' iter ifs scope pos, x = .ListComp elt [⟨tg', iter, ifs, 0⟩] scope pos ∧ LcOk X W elt tg' iter ifs scope vs G tg it t e := by
  dsimp only [mt, Mt.ofE] at h
  split at h
  · rename_i elt tg' it' ifs' scope pos
    simp only [Bool.and_eq_true] at h
    obtain ⟨⟨⟨⟨⟨h1, h2⟩, h3⟩, h4⟩, h5⟩, h6⟩ := h
    have b := blk_of ok h4
    refine ⟨elt, tg', it', ifs', scope, pos, rfl, hit.p ok tk h2, b, fun s H C cl fp => (pgs_tg (ok.blk b.kind s H C cl fp) tg).1 h1, fun s H C cl fp => ?_, fun s H C cl fp => he.e (ok.blk b.kind s H C cl fp) takes0 h3, hit.fs h2 _, all_in h5⟩
    have okb := ok.blk b.kind s H C cl fp
    cases t with
    | nil =>
      cases ifs' with
      | nil => exact PTs.imp pts_nil fun σ H Q ⟨ρ, μ, F, ι, S, a⟩ => a true F H Ext.refl S rfl
      | cons _ _ => cases h6
    | _ =>
      cases ifs' with
      | nil => cases h6
      | cons c cs =>
        cases cs with
        | nil => exact pts_one (ht.t okb takes0 h6)
        | cons _ _ => cases h6
  · cases h
theorem se_lc {vs : List (Str × Nat)} {tg : Tg} {it t e : IR} (hit : SI G N k it) (ht : SE G N k t) (he : SE G N k e) : SE G N k (.lc vs tg it t e) := by
  refine SE.of rfl rfl (fun {sc X W x} ok tk h => ?_) fun {sc x} h => ?_
  · obtain ⟨elt, tg', iter, ifs, scope, pos, rfl, p⟩ := lc_parts hit ht he ok tk h
    have q : PE X (.ListComp elt [⟨tg', iter, ifs, 0⟩] scope pos) (Rd X.mg W RelE (den G (.lc vs tg it t e)).e) := PE.imp (pe_lc ok.calm (by rw [ok.hN]; exact ok.nd) p.hi p.ok p.hg p.ht p.he p.hs) fun σ H Q a => lc_read p.hv a
    exact ⟨q, pt_of q fun _ => rfl⟩
  · split at h
    · exact fun _ _ => rfl
    · cases h
theorem Sees.name {sc : Scope} {X : Cx} (ok : OkX G N k sc X) {i : Nat} {n : Str} (h1 : N[i]? = some n) : X.N[i]? = some n := by
  rw [ok.hN]
  exact h1
/-- name = expression -/
structure SA (G : Ge) (N : List Str) (k : Nat) (ir : IR) : Prop where
  a : ∀ {sc : Scope} {X : Cx} {W : WX} {x : Expr} {i : Nat} {n : Str} {p spos : Pos}, OkX G N k sc X → Takes X W → (mt G N ir).e sc x = true → N[i]? = some n → locB sc n = true → compSet sc n p x = true → PS X (.Assign [.Name n p] x spos) (tAsg (Rd X.mg W RelE (den G ir).e) (gName i))
theorem sa_lc {vs : List (Str × Nat)} {tg : Tg} {it t e : IR} (hit : SI G N k it) (ht : SE G N k t) (he : SE G N k e) : SA G N k (.lc vs tg it t e) where
  a := fun {sc X W x i n p spos} ok tk h h1 h2 h3 => by
    obtain ⟨elt, tg', iter, ifs, scope, pos, rfl, q⟩ := lc_parts hit ht he ok tk h
    simp only [compSet, Bool.and_eq_true, Bool.not_eq_true'] at h3
    obtain ⟨⟨h3, h4⟩, h5⟩ := h3
    have hl := ok.hsc.lcl n h3
    refine PS.imp (ps_setLc ok.calm (by rw [ok.hN]; exact ok.nd) (Sees.name ok h1) hl (sw_true ok.hsc.kind hl h4 h5) q.hi q.ok q.hg q.ht q.he q.hs) fun D σ H a => lc_read q.hv a
theorem sa_of (hx : SE G N k x) (hl : ∀ vs tg it t e, x ≠ .lc vs tg it t e) (hl2 : ∀ vs vs1 tg it tg' it' e, x ≠ .lc2 vs vs1 tg it tg' it' e) : SA G N k x where
  a := fun {sc X W e i n p spos} ok tk h h1 h2 h3 => by
    have nc : isComp e = false := by
      cases e with
      | ListComp elt gs scope pos =>
        exfalso
        cases x <;> first
          | exact hl _ _ _ _ _ rfl
          | exact hl2 _ _ _ _ _ _ _ rfl
          | exact absurd h (by simp [mt, Mt.ofE, Mt.no])
      | _ => first
        | rfl
        | (simp [compSet, isComp] at h3)
    refine ps_set (by rw [ok.hN]; exact ok.nd) (Sees.name ok h1) (loc_of ok.hsc h2) (hx.e ok tk h) ?_ (fn_of' ok h2)
    cases e <;> first
      | rfl
      | cases nc
end
end DL

set_option maxHeartbeats 1000000
/-! DL17: what stands behind a statement. -/
namespace DL
open PySem PySem.Spec PyProof.Rows L2
def Grow (ι0 ι : List Addr) (H0 : Hp) : Prop := ∃ t, ι = ι0 ++ t ∧ ∀ b ∈ t, H0 b = none
section
variable {mg : Str → Option Value} {W : WX} {ρ : Rho} {μ : List Cell} {σ : St} {F H F0 H0 F1 H1 F2 H2 : Hp} {ι ι0 ι1 ι2 : List Addr} {D : Ends} {α β : Type}
theorem Grow.refl : Grow ι ι H := ⟨[], by simp, by simp⟩
theorem Grow.trans (a : Grow ι0 ι1 H0) (b : Grow ι1 ι2 H1) (h : ∀ b, H1 b = none → H0 b = none) : Grow ι0 ι2 H0 := by
  obtain ⟨t, rfl, p⟩ := a
  obtain ⟨u, rfl, q⟩ := b
  refine ⟨t ++ u, by simp, fun c hc => ?_⟩
  rcases List.mem_append.mp hc with z | z
  · exact p c z
  · exact h c (q c z)
theorem Grow.sub (a : Grow ι0 ι1 H0) {b : Addr} (h : b ∈ ι1) : b ∈ ι0 ∨ H0 b = none := by
  obtain ⟨t, rfl, p⟩ := a
  rcases List.mem_append.mp h with z | z
  · exact .inl z
  · exact .inr (p b z)
theorem Ext.grow (e : Ext ι0 F0 H0 F1 H1) (g : Grow ι0 ι1 H0) (e2 : Ext ι1 F1 H1 F2 H2) : Ext ι0 F0 H0 F2 H2 where
  fs := e.fs.trans e2.fs
  hs := fun b o h n => e2.hs b o (e.hs b o h n) fun z => by
    rcases g.sub z with y | y
    · exact n y
    · rw [h] at y
      cases y
  ht := fun b h => e.ht b (e2.ht b h)
  new := fun b o h => by
    rcases e2.new b o h with z | z | z
    · exact e.new b o z
    · exact .inr (.inl (e.ht b z))
    · rcases g.sub z with y | y
      · exact .inr (.inr y)
      · exact .inr (.inl y)
/-- what is wanted behind a statement that does r -/
def AftS (mg : Str → Option Value) (W : WX) (ι0 : List Addr) (F0 H0 : Hp) (D : Ends) : RS → Prop
  | .nx ρ μ => ∀ σ ι F H, Ext ι0 F0 H0 F H → Grow ι0 ι H0 → Sat ρ μ σ H F ι → D.nx σ H
  | .bk ρ μ => ∀ σ ι F H, Ext ι0 F0 H0 F H → Grow ι0 ι H0 → Sat ρ μ σ H F ι → D.bk σ H
  | .ct ρ μ => ∀ σ ι F H, Ext ι0 F0 H0 F H → Grow ι0 ι H0 → Sat ρ μ σ H F ι → D.ct σ H
  | .rt v μ => ∀ x ρ σ ι F H, Ext ι0 F0 H0 F H → Grow ι0 ι H0 → Sat ρ μ σ H F ι → VRep F H ι x v → NewV H0 x v → D.rt x H
  | .exc e ρ μ => ∀ c d σ ι F H, Ext ι0 F0 H0 F H → Grow ι0 ι H0 → Sat ρ μ σ H F ι → ExRep mg F H e c d → W c d σ H
  | .stuck => False
def RdS (mg : Str → Option Value) (W : WX) (m : Rho → List Cell → RS) : TS := fun D σ H => ∃ ρ μ F ι, Sat ρ μ σ H F ι ∧ AftS mg W ι F H D (m ρ μ)
theorem AftS.rebase {r : RS} (a : AftS mg W ι0 F0 H0 D r) (e : Ext ι0 F0 H0 F1 H1) (g : Grow ι0 ι1 H0) : AftS mg W ι1 F1 H1 D r := by
  cases r with
  | nx ρ μ => exact fun σ ι F H e2 g2 S => a σ ι F H (e.grow g e2) (g.trans g2 e.ht) S
  | bk ρ μ => exact fun σ ι F H e2 g2 S => a σ ι F H (e.grow g e2) (g.trans g2 e.ht) S
  | ct ρ μ => exact fun σ ι F H e2 g2 S => a σ ι F H (e.grow g e2) (g.trans g2 e.ht) S
  | rt v μ => exact fun x ρ σ ι F H e2 g2 S r n => a x ρ σ ι F H (e.grow g e2) (g.trans g2 e.ht) S r (n.back e.ht)
  | exc x ρ μ => exact fun c d σ ι F H e2 g2 S r => a c d σ ι F H (e.grow g e2) (g.trans g2 e.ht) S r
  | stuck => exact a
/-- other ends -/
theorem AftS.ends {r : RS} {D' : Ends} {W' : WX} (a : AftS mg W ι0 F0 H0 D r) (h1 : ∀ σ H, D.nx σ H → D'.nx σ H) (h2 : ∀ x H, D.rt x H → D'.rt x H) (h3 : ∀ σ H, D.bk σ H → D'.bk σ H) (h4 : ∀ σ H, D.ct σ H → D'.ct σ H) (h5 : ∀ c d σ H, W c d σ H → W' c d σ H) : AftS mg W' ι0 F0 H0 D' r := by
  cases r with
  | nx ρ μ => exact fun σ ι F H e2 g2 S => h1 _ _ (a σ ι F H e2 g2 S)
  | bk ρ μ => exact fun σ ι F H e2 g2 S => h3 _ _ (a σ ι F H e2 g2 S)
  | ct ρ μ => exact fun σ ι F H e2 g2 S => h4 _ _ (a σ ι F H e2 g2 S)
  | rt v μ => exact fun x ρ σ ι F H e2 g2 S r n => h2 _ _ (a x ρ σ ι F H e2 g2 S r n)
  | exc x ρ μ => exact fun c d σ ι F H e2 g2 S r => h5 _ _ _ _ (a c d σ ι F H e2 g2 S r)
  | stuck => exact a
/-- an expression within a statement -/
theorem AftS.step {U : Rel β α} {m : Rho → List Cell → R α} {f : α → List Cell → RS} {ρ' : Rho} (a : AftS mg W ι F H D ((m ρ μ).st ρ f)) (S : Sat ρ μ σ H F ι) :
    Rd mg W U m σ H fun x H1 => ∃ a1 μ1 F1, Ext ι F H F1 H1 ∧ Sat ρ μ1 σ H1 F1 ι ∧ U H F1 H1 ι x a1 ∧ AftS mg W ι F H D (f a1 μ1) := by
  refine ⟨ρ, μ, F, ι, S, ?_⟩
  cases h : m ρ μ with
  | ok a1 μ1 =>
    rw [h] at a
    exact fun x F1 H1 e1 S1 t => ⟨a1, μ1, F1, e1, S1, t, a⟩
  | exc x μ1 =>
    rw [h] at a
    exact fun c d F1 H1 e1 S1 t => a c d σ ι F1 H1 e1 Grow.refl S1 t
  | stuck =>
    rw [h] at a
    exact a.elim
/-- a list of one's own comes to stand -/
theorem Sat.grow {p : Addr} {vs : List V} {ds : List DL.D} (S : Sat ρ μ σ H F ι) (h : H p = some (.lst vs)) (n : F p = none) (m : p ∉ ι) (q : DtAll F vs ds) : Sat ρ (μ ++ [⟨.live, ds⟩]) σ H F (ι ++ [p]) where
  sub := S.sub
  len := by simp [S.len]
  nod := by
    refine List.nodup_append.mpr ⟨S.nod, by simp, fun a ha b hb => ?_⟩
    have : b = p := by simpa using hb
    subst this
    exact fun e => m (e ▸ ha)
  cell := fun k a c h1 h2 => by
    by_cases z : k < ι.length
    · rw [List.getElem?_append_left z] at h1
      rw [List.getElem?_append_left (S.len ▸ z)] at h2
      exact S.cell k a c h1 h2
    · have z' : ¬k < μ.length := by rw [← S.len]; exact z
      rw [List.getElem?_append_right (by omega)] at h1 h2
      have e : k - ι.length = 0 := by
        have := (List.getElem?_eq_some_iff.mp h1).1
        simp at this
        omega
      have e' : k - μ.length = 0 := by
        rw [← S.len]
        exact e
      rw [e] at h1
      rw [e'] at h2
      cases h1
      cases h2
      exact ⟨vs, h, q, (fun z => nomatch z), fun _ => n⟩
  slen := S.slen
  slot := fun i sv e => by
    obtain ⟨v, h1, h2⟩ := S.slot i sv e
    refine ⟨v, h1, ?_⟩
    cases sv with
    | dat d => exact h2
    | own k =>
      obtain ⟨a, h3, h4⟩ := h2
      exact ⟨a, by rw [List.getElem?_append_left (List.getElem?_eq_some_iff.mp h3).1]; exact h3, h4⟩
    | fre _ => exact h2
/-- a list of one's own is changed -/
theorem Sat.setCell {k : Nat} {a : Addr} {c : Cell} {ys : List V} {es : List DL.D} (S : Sat ρ μ σ H F ι) (hk : ι[k]? = some a) (hc : μ[k]? = some c) (st : c.st ≠ .froz) (q : DtAll F ys es) :
    Sat ρ (μ.set k ⟨c.st, es⟩) σ (L2.upd H a (.lst ys)) F ι ∧ Ext ι F H F (L2.upd H a (.lst ys)) := by
  obtain ⟨vs, h, al, f1, f2⟩ := S.cell k a c hk hc
  have n : F a = none := f2 st
  have ma : a ∈ ι := List.mem_of_getElem? hk
  refine ⟨⟨fun b u e => ?_, by simp [S.len], S.nod, fun j b d h1 h2 => ?_, S.slen, S.slot⟩, ⟨Same.refl F, fun b u e m => ?_, fun b e => (upd_none e).2, fun b u e => .inl e⟩⟩
  · rw [upd_ne (ne_of_none e n)]
    exact S.sub b u e
  · by_cases z : k = j
    · subst z
      rw [hk] at h1
      cases h1
      rw [List.getElem?_set_self (List.getElem?_eq_some_iff.mp hc).1] at h2
      cases h2
      exact ⟨ys, upd_same, q, fun y => absurd y st, fun _ => n⟩
    · rw [List.getElem?_set_ne z] at h2
      obtain ⟨ws, g1, g2⟩ := S.cell j b d h1 h2
      have ne : b ≠ a := fun y => z (ix_inj S.nod hk (y ▸ h1))
      exact ⟨ws, by rw [upd_ne ne]; exact g1, g2⟩
  · have ne : b ≠ a := fun y => m (y ▸ ma)
    rw [upd_ne ne]
    exact e
end
/-- where one stands in a def's body -/
structure OkS (G : Ge) (N : List Str) (k : Nat) (sc : Scope) (X : Cx) : Prop extends OkX G N k sc X where
  scp : X.env.scope = sc
  pas : PassesOwn (model X.prog X.w) X.A X.env X.xe
  stk : X.stack = X.env :: X.outer
  frm : X.env.frame = some X.env.locals
structure OkH (N : List Str) (sc : Scope) (X : Cx) : Prop where
  hN : X.N = N
  nd : N.Nodup
  hsc : Sees sc X
structure SS (G : Ge) (N : List Str) (k : Nat) (ir : IR) : Prop where
  s : ∀ {sc : Scope} {X : Cx} {W : WX} {x : Stmt}, OkS G N k sc X → Takes X W → (mt G N ir).s sc x = true → PS X x (RdS X.mg W (den G ir).s)
  ss : ∀ {sc : Scope} {X : Cx} {W : WX} {x : List Stmt}, OkS G N k sc X → Takes X W → (mt G N ir).ss sc x = true → PSs X x (RdS X.mg W (den G ir).s)
section
variable {G : Ge} {N : List Str} {k : Nat} {x y z : IR}
theorem SS.of (h2 : ∀ sc l, (mt G N x).ss sc l = false) (h : ∀ {sc : Scope} {X : Cx} {W : WX} {e : Stmt}, OkS G N k sc X → Takes X W → (mt G N x).s sc e = true → PS X e (RdS X.mg W (den G x).s)) : SS G N k x :=
  ⟨h, fun _ _ q => by rw [h2] at q; cases q⟩
theorem ss_nil : SS G N k .nil where
  s := fun _ _ h => nomatch h
  ss := fun {sc X W l} ok tk h => by
    cases l with
    | nil => exact PSs.imp pss_nil fun D σ H ⟨ρ, μ, F, ι, S, a⟩ => a σ ι F H Ext.refl Grow.refl S
    | cons _ _ => cases h
theorem seq_read {X : Cx} {W : WX} {m n : Rho → List Cell → RS} {D : Ends} {σ : St} {H : Hp} (h : RdS X.mg W (fun ρ μ => (m ρ μ).seq n) D σ H) : tSeq (RdS X.mg W m) (RdS X.mg W n) D σ H := by
  obtain ⟨ρ, μ, F, ι, S, a⟩ := h
  refine ⟨ρ, μ, F, ι, S, ?_⟩
  cases e : m ρ μ with
  | nx ρ1 μ1 =>
    replace a : AftS X.mg W ι F H D ((m ρ μ).seq n) := a
    rw [e] at a
    exact fun σ1 ι1 F1 H1 e1 g1 S1 => ⟨ρ1, μ1, F1, ι1, S1, AftS.rebase a e1 g1⟩
  | _ =>
    replace a : AftS X.mg W ι F H D ((m ρ μ).seq n) := a
    rw [e] at a
    exact a
theorem ss_cons (hx : SS G N k x) (hy : SS G N k y) : SS G N k (.cons x y) where
  s := fun _ _ h => nomatch h
  ss := fun {sc X W l} ok tk h => by
    cases l with
    | nil => cases h
    | cons e l =>
      obtain ⟨h1, h2⟩ := Bool.and_eq_true_iff.mp h
      exact PSs.imp (pss_cons (hx.s ok tk h1) (hy.ss ok tk h2)) fun D σ H q => seq_read q
theorem ss_pass : SS G N k .pass := SS.of (fun _ _ => rfl) fun {sc X W e} ok tk h => by
  have go : ∀ {D : Ends} {σ : St} {H : Hp}, RdS X.mg W (den G .pass).s D σ H → tNext D σ H := fun {D σ H} ⟨ρ, μ, F, ι, S, a⟩ => a σ ι F H Ext.refl Grow.refl S
  dsimp only [mt] at h
  split at h
  · exact PS.imp ps_pass fun D σ H q => go q
  · exact PS.imp ps_doc fun D σ H q => go q
  · cases h
theorem ss_brk : SS G N k .brk := SS.of (fun _ _ => rfl) fun {sc X W e} ok tk h => by
  dsimp only [mt] at h
  split at h
  · exact PS.imp ps_break fun D σ H ⟨ρ, μ, F, ι, S, a⟩ => a σ ι F H Ext.refl Grow.refl S
  · cases h
theorem ss_ctn : SS G N k .ctn := SS.of (fun _ _ => rfl) fun {sc X W e} ok tk h => by
  dsimp only [mt] at h
  split at h
  · exact PS.imp ps_continue fun D σ H ⟨ρ, μ, F, ι, S, a⟩ => a σ ι F H Ext.refl Grow.refl S
  · cases h
theorem ret_read {X : Cx} {W : WX} {m : Rho → List Cell → R SV} {D : Ends} {σ : St} {H : Hp} (h : RdS X.mg W (fun ρ μ => (m ρ μ).st ρ fun v μ1 => .rt v μ1) D σ H) : tRet (Rd X.mg W RelE m) D σ H := by
  obtain ⟨ρ, μ, F, ι, S, a⟩ := h
  exact Rd.mono (AftS.step (U := RelE) (ρ' := ρ) a S) fun v H1 ⟨s1, μ1, F1, e1, S1, ⟨r1, n1⟩, a⟩ => a v ρ σ ι F1 H1 e1 Grow.refl S1 r1 n1
theorem ss_ret (hx : SE G N k x) : SS G N k (.ret x) := SS.of (fun _ _ => rfl) fun {sc X W e} ok tk h => by
  dsimp only [mt] at h
  split at h
  · exact PS.imp (ps_ret (hx.e ok.toOkX tk h)) fun D σ H q => ret_read q
  · cases h
theorem ss_retN : SS G N k .retN := SS.of (fun _ _ => rfl) fun {sc X W e} ok tk h => by
  dsimp only [mt] at h
  split at h
  · exact PS.imp ps_retN fun D σ H ⟨ρ, μ, F, ι, S, a⟩ => a .non ρ σ ι F H Ext.refl Grow.refl S .non trivial
  · cases h
theorem notComp_of {e : Expr} (h : isComp e = false) : ∀ t l env, swapsWith e t l env = pure false := fun t l env => by
  cases e <;> first
    | rfl
    | cases h
theorem ss_xpr (hx : SE G N k x) : SS G N k (.xpr x) := SS.of (fun _ _ => rfl) fun {sc X W e} ok tk h => by
  dsimp only [mt] at h
  split at h
  · simp only [Bool.and_eq_true, Bool.not_eq_true'] at h
    refine PS.imp (ps_expr (hx.e ok.toOkX tk h.1) (notComp_of h.2 _ _ _)) fun D σ H ⟨ρ, μ, F, ι, S, a⟩ => ?_
    exact Rd.mono (AftS.step (U := RelE) (ρ' := ρ) a S) fun v H1 ⟨s1, μ1, F1, e1, S1, ⟨r1, n1⟩, a⟩ => a σ ι F1 H1 e1 Grow.refl S1
  · cases h
theorem set_read {X : Cx} {W : WX} {m : Rho → List Cell → R SV} {D : Ends} {σ : St} {H : Hp} {i : Nat} (h : RdS X.mg W (fun ρ μ => (m ρ μ).st ρ fun v μ1 => .nx (ρ.set i (some (keepA v))) μ1) D σ H) : tAsg (Rd X.mg W RelE m) (gName i) D σ H := by
  obtain ⟨ρ, μ, F, ι, S, a⟩ := h
  refine Rd.mono (AftS.step (U := RelE) (ρ' := ρ) a S) fun v H1 ⟨s1, μ1, F1, e1, S1, ⟨r1, n1⟩, a⟩ => ?_
  cases s1 with
  | dat d => exact a _ ι F1 H1 e1 Grow.refl (S1.setS i (sv := .dat d) r1)
  | own j => exact a _ ι F1 H1 e1 Grow.refl (S1.setS i (sv := .own j) r1)
  | fre ds =>
    obtain ⟨F2, e2, _, S2, q⟩ := S1.keep e1 r1 n1 (d := .list ds) (μ' := μ1) rfl
    exact a _ ι F2 H1 e2 Grow.refl (S2.setS i (sv := .dat (.list ds)) q)
theorem ss_set {i : Nat} (hx : SA G N k x) : SS G N k (.set i x) := SS.of (fun _ _ => rfl) fun {sc X W e} ok tk h => by
  dsimp only [mt] at h
  split at h
  · simp only [Bool.and_eq_true, decide_eq_true_eq] at h
    obtain ⟨⟨⟨h1, h2⟩, h3⟩, h4⟩ := h
    exact PS.imp (hx.a ok.toOkX tk h3 h1 h2 h4) fun D σ H q => set_read q
  · cases h
theorem toName_own {v w : SV} {μ μ' : List Cell} (h : toName true v μ = .ok w μ') : ∃ ds, v = .fre ds ∧ w = .own μ.length ∧ μ' = μ ++ [⟨.live, ds⟩] := by
  cases v with
  | fre ds =>
    cases h
    exact ⟨ds, rfl, rfl, rfl⟩
  | _ => cases h
theorem toName_exc {b : Bool} {v : SV} {x : Exn} {μ μ' : List Cell} (h : toName b v μ = .exc x μ') : False := by
  cases b <;> cases v <;> cases h
theorem ss_setO {i : Nat} (hx : SA G N k x) : SS G N k (.setO i x) := SS.of (fun _ _ => rfl) fun {sc X W e} ok tk h => by
  dsimp only [mt] at h
  split at h
  · simp only [Bool.and_eq_true, decide_eq_true_eq] at h
    obtain ⟨⟨⟨h1, h2⟩, h3⟩, h4⟩ := h
    refine PS.imp (hx.a ok.toOkX tk h3 h1 h2 h4) fun D σ H ⟨ρ, μ, F, ι, S, a⟩ => ?_
    replace a : AftS X.mg W ι F H D ((((den G x).e ρ μ).bind (toName true)).st ρ fun v μ1 => .nx (ρ.set i (some v)) μ1) := a
    have a' : AftS X.mg W ι F H D (((den G x).e ρ μ).st ρ fun v μ1 => (toName true v μ1).st ρ fun v μ1 => .nx (ρ.set i (some v)) μ1) := by
      cases q : (den G x).e ρ μ <;> (rw [q] at a; exact a)
    refine Rd.mono (AftS.step (U := RelE) (ρ' := ρ) a' S) fun v H1 ⟨s1, μ1, F1, e1, S1, ⟨r1, n1⟩, a⟩ => ?_
    cases s1 with
    | fre ds =>
      obtain ⟨p, vs, rfl, h5, h6, h7, h8⟩ := r1
      have S2 := S1.grow h5 h6 h7 h8
      refine a _ (ι ++ [p]) F1 H1 e1 ⟨[p], rfl, fun b hb => ?_⟩ (S2.setS i (sv := .own μ1.length) ⟨p, ?_, rfl⟩)
      · have e : b = p := by simpa using hb
        subst e
        exact n1 _ rfl
      · rw [← S1.len]
        simp
    | _ => exact a.elim
  · cases h
theorem ss_ifs (hx : SE G N k x) (hy : SS G N k y) (hz : SS G N k z) : SS G N k (.ifs x y z) := SS.of (fun _ _ => rfl) fun {sc X W e} ok tk h => by
  dsimp only [mt] at h
  split at h
  · simp only [Bool.and_eq_true] at h
    refine PS.imp (ps_if (hx.t ok.toOkX tk h.1.1) (hy.ss ok tk h.1.2) (hz.ss ok tk h.2)) fun D σ H ⟨ρ, μ, F, ι, S, a⟩ => ?_
    refine Rd.mono (AftS.step (U := RelB) (ρ' := ρ) a S) fun b H1 ⟨s1, μ1, F1, e1, S1, r1, a⟩ => ?_
    subst r1
    cases b with
    | true =>
      rw [if_pos rfl]
      exact ⟨ρ, μ1, F1, ι, S1, AftS.rebase a e1 Grow.refl⟩
    | false =>
      rw [if_neg Bool.false_ne_true]
      exact ⟨ρ, μ1, F1, ι, S1, AftS.rebase a e1 Grow.refl⟩
  · cases h
end
end DL

set_option maxHeartbeats 1000000
/-! DL18: lists changed, loops, errors. -/
namespace DL
open PySem PySem.Spec PyProof.Rows L2
section
variable {G : Ge} {N : List Str} {k : Nat} {x y z : IR}
theorem AftS.flat {α : Type} {mg : Str → Option Value} {W : WX} {ρ : Rho} {F H : Hp} {ι : List Addr} {D : Ends} {β : Type} {r : R β} {g : β → List Cell → R α} {f : α → List Cell → RS} (a : AftS mg W ι F H D ((r.bind g).st ρ f)) : AftS mg W ι F H D (r.st ρ fun v μ1 => (g v μ1).st ρ f) := by
  cases r <;> exact a
theorem AftS.keep {mg : Str → Option Value} {W : WX} {ρ : Rho} {μ : List Cell} {σ : St} {F H F1 H1 G0 : Hp} {ι : List Addr} {D : Ends} {v : SV} {x : V} {f : DL.D → List Cell → RS} (a : AftS mg W ι F H D ((v.keep μ).st ρ f)) (S : Sat ρ μ σ H1 F1 ι) (e : Ext ι F H F1 H1) (r : VRep F1 H1 ι x v) (n : NewV H x v) :
    ∃ d μ' F', Ext ι F H F' H1 ∧ Same F1 F' ∧ Sat ρ μ' σ H1 F' ι ∧ Dt F' x d ∧ AftS mg W ι F H D (f d μ') := by
  cases h : v.keep μ with
  | ok d μ' =>
    rw [h] at a
    obtain ⟨F', e', sf, S', q⟩ := S.keep e r n h
    exact ⟨d, μ', F', e', sf, S', q, a⟩
  | exc x μ' => exact (keep_exc h).elim
  | stuck =>
    rw [h] at a
    exact a.elim
theorem AftS.ofO {α : Type} {mg : Str → Option Value} {W : WX} {ρ : Rho} {μ : List Cell} {F H : Hp} {ι : List Addr} {D : Ends} {o : Option α} {f : α → List Cell → RS} (a : AftS mg W ι F H D ((R.of o μ).st ρ f)) : ∃ x, o = some x ∧ AftS mg W ι F H D (f x μ) := by
  cases o with
  | none => exact a.elim
  | some x => exact ⟨x, rfl, a⟩
theorem slot_own {ρ : Rho} {μ : List Cell} {σ : St} {F H : Hp} {ι : List Addr} {i k : Nat} (S : Sat ρ μ σ H F ι) (e : ρ[i]? = some (some (.own k))) : ∃ a c vs, ι[k]? = some a ∧ μ[k]? = some c ∧ σ[i]? = some (some (.ref a)) ∧ H a = some (.lst vs) ∧ DtAll F vs c.ds := by
  obtain ⟨v, h1, a, h2, rfl⟩ := S.slot i _ e
  have hk : k < μ.length := by
    rw [← S.len]
    exact (List.getElem?_eq_some_iff.mp h2).1
  obtain ⟨vs, h3, h4, _⟩ := S.cell k a μ[k] h2 (by simp [hk])
  exact ⟨a, μ[k], vs, h2, by simp [hk], h1, h3, h4⟩
theorem appR_of {k : Nat} {d : DL.D} {μ μ' : List Cell} (h : appR k d μ = some μ') : ∃ c, μ[k]? = some c ∧ c.st ≠ .froz ∧ c.ds.length < 10000000 ∧ μ' = μ.set k ⟨c.st, c.ds ++ [d]⟩ := by
  unfold appR at h
  split at h
  · rename_i c e
    split at h
    · cases h
    · rename_i nf
      split at h
      · rename_i hl
        cases h
        exact ⟨c, e, nf, hl, rfl⟩
      · cases h
  · cases h
theorem stiR_of {k : Nat} {n : Int} {d : DL.D} {μ μ' : List Cell} (h : stiR k n d μ = some μ') : ∃ c j, μ[k]? = some c ∧ c.st ≠ .froz ∧ ixN c.ds.length n = some j ∧ μ' = μ.set k ⟨c.st, c.ds.set j d⟩ := by
  unfold stiR at h
  split at h
  · rename_i c e
    split at h
    · cases h
    · rename_i nf
      split at h
      · rename_i j hl
        cases h
        exact ⟨c, j, e, nf, hl, rfl⟩
      · cases h
  · cases h
theorem AftS.asI {mg : Str → Option Value} {W : WX} {ρ : Rho} {μ : List Cell} {F H : Hp} {ι : List Addr} {D : Ends} {v : SV} {f : Int → List Cell → RS} (a : AftS mg W ι F H D ((DL.asI v μ).st ρ f)) : ∃ n, v = .dat (.int n) ∧ AftS mg W ι F H D (f n μ) := by
  unfold DL.asI at a
  split at a
  · exact ⟨_, rfl, a⟩
  · exact a.elim
theorem AftS.stiV {mg : Str → Option Value} {W : WX} {ρ : Rho} {μ : List Cell} {F H : Hp} {ι : List Addr} {D : Ends} {v : SV} {n : Int} {d : DL.D} {f : List Cell → List Cell → RS} (a : AftS mg W ι F H D ((DL.stiV n d v μ).st ρ f)) :
    ∃ k c j, v = .own k ∧ μ[k]? = some c ∧ c.st ≠ .froz ∧ ixN c.ds.length n = some j ∧ AftS mg W ι F H D (f (μ.set k ⟨c.st, c.ds.set j d⟩) μ) := by
  unfold DL.stiV at a
  split at a
  · rename_i k
    obtain ⟨μ', e, a⟩ := a.ofO
    obtain ⟨c, j, h1, h2, h3, rfl⟩ := stiR_of e
    exact ⟨k, c, j, rfl, h1, h2, h3, a⟩
  · exact a.elim
theorem ss_app {i : Nat} (hx : SE G N k x) : SS G N k (.app i x) := SS.of (fun _ _ => rfl) fun {sc X W e} ok tk h => by
  dsimp only [mt] at h
  split at h
  · simp only [Bool.and_eq_true, decide_eq_true_eq] at h
    obtain ⟨⟨⟨⟨⟨h1, h2⟩, h3⟩, rfl⟩, h4⟩, h5⟩ := h
    have st := hx.st h4 [] X.env
    refine PS.imp (ps_expr (pe_bm F.plainAttrs_list F.slot_list_append F.type_list_append mt_append (pe_slot (W := W) ok.toOkX h1 h2 h3) (pa_cons (hx.e ok.toOkX tk h4) pa_nil st) rfl ?_ h5 st rfl) rfl) fun D σ H ⟨ρ, μ, F, ι, S, a⟩ => ?_
    · rw [st]
      rfl
    replace a : AftS X.mg W ι F H D (match ownS ρ i with
      | some k => (((den G x).e ρ μ).bind fun v μ1 => (v.keep μ1).bind fun d μ2 => R.of (appR k d μ2) μ2).st ρ fun r _ => .nx ρ r
      | none => .stuck) := a
    unfold ownS at a
    split at a
    case h_2 => exact a.elim
    rename_i kk eo
    split at eo
    case h_2 => cases eo
    rename_i kk' es
    cases eo
    obtain ⟨p, c, vs, k1, k2, k3, k4, k5⟩ := slot_own S es
    refine ⟨ρ, μ, F, ι, S, ?_⟩
    have eS : slot ρ i μ = .ok (.own kk) μ := by
      unfold slot
      rw [es]
    show Aft X.mg W RelE ρ σ ι F H (slot ρ i μ) _
    rw [eS]
    intro w F0 H0 e0 S0 ⟨r0, _⟩
    obtain ⟨p', q1, rfl⟩ := r0
    rw [k1] at q1
    cases q1
    obtain ⟨p2, c2, vs2, q1, q2, q3, q4, q5⟩ := slot_own S0 es
    rw [k1] at q1
    cases q1
    refine ⟨.inl ⟨rfl, _, .inl (L2.Rd.of q4)⟩, ?_⟩
    refine Rd.mono (AftS.step (U := RelE) (ρ' := ρ) ((AftS.flat a).rebase e0 Grow.refl) S0) fun v H1 ⟨s1, μ1, F1, e1, S1, ⟨r1, n1⟩, a⟩ => ?_
    obtain ⟨d, μ2, F2, e2, sf, S2, q, a⟩ := a.flat.keep (G0 := H0) S1 e1 r1 n1
    obtain ⟨μ3, eA, a⟩ := a.ofO
    obtain ⟨c3, ec, nf, hl, rfl⟩ := appR_of eA
    obtain ⟨vs3, t1, t2, _⟩ := S2.cell _ p c3 k1 ec
    obtain ⟨S3, e3⟩ := S2.setCell k1 ec nf (t2.append (.cons q .nil))
    refine ⟨p, vs3, v, rfl, rfl, t1, ?_, a σ ι F2 _ (e2.trans e3) Grow.refl S3⟩
    have := t2.length
    have h7 := size7 (n := c3.ds.length + 1) (by omega)
    omega
  · cases h
theorem sole_of {t e : Expr} {l : Nat} {env : Env} (h : isComp e = false) : swapsWithSole [t] e l env = pure false := notComp_of h _ _ _
theorem ss_sti {i : Nat} (hx : SE G N k x) (hy : SE G N k y) : SS G N k (.sti i x y) := SS.of (fun _ _ => rfl) fun {sc X W e} ok tk h => by
  dsimp only [mt] at h
  split at h
  · simp only [Bool.and_eq_true, decide_eq_true_eq, Bool.not_eq_true'] at h
    obtain ⟨⟨⟨⟨⟨⟨h1, h2⟩, h3⟩, h4⟩, h5⟩, h6⟩, h7⟩ := h
    have pl := plainIx_of h5
    refine PS.imp (ps_asg (hy.e ok.toOkX tk h6) (pg_sub (pe_slot (W := W) ok.toOkX h1 h2 h3) (hx.e ok.toOkX tk h4) set_list ?_) (sole_of h7) rfl rfl) fun D σ H ⟨ρ, μ, F, ι, S, a⟩ => ?_
    · intro v
      clear h4 pl h1 h2 h3 h6 h7
      rename_i n1 p1 sl p2 vv p3
      cases sl <;> first
        | rfl
        | cases h5
    replace a : AftS X.mg W ι F H D ((((den G y).e ρ μ).bind fun v μ1 => (v.keep μ1).bind fun d μ2 => (slot ρ i μ2).bind fun w μ3 => ((den G x).e ρ μ3).bind fun u μ4 => (asI u μ4).bind fun n μ5 => stiV n d w μ5).st ρ fun r _ => .nx ρ r) := a
    refine Rd.mono (AftS.step (U := RelE) (ρ' := ρ) a.flat S) fun v H1 ⟨s1, μ1, F1, e1, S1, ⟨r1, n1⟩, a⟩ => ?_
    obtain ⟨d, μ2, F2, e2, sf, S2, q, a⟩ := a.flat.keep (G0 := H) S1 e1 r1 n1
    have a := a.flat
    refine Rd.mono (AftS.step (U := RelE) (ρ' := ρ) (m := fun ρ μ => slot ρ i μ) (a.rebase e2 Grow.refl) S2) fun w H3 ⟨s3, μ3, F3, e3, S3, ⟨r3, n3⟩, a⟩ => ?_
    refine Rd.mono (AftS.step (U := RelE) (ρ' := ρ) (a.flat.rebase e3 Grow.refl) S3) fun u H4 ⟨s4, μ4, F4, e4, S4, ⟨r4, n4⟩, a⟩ => ?_
    obtain ⟨nn, rfl, a⟩ := a.flat.asI
    cases r4
    obtain ⟨kk, c3, j, rfl, ec, nf, ej, a⟩ := a.stiV
    obtain ⟨p, k1, rfl⟩ := r3
    obtain ⟨vs3, t1, t2, _⟩ := S4.cell kk p c3 k1 ec
    obtain ⟨S5, e5⟩ := S4.setCell k1 ec nf (t2.set (Dt.mono (e3.fs.trans e4.fs) q) j)
    exact ⟨p, vs3, nn, j, rfl, rfl, t1, by rw [t2.length]; exact ej, a σ ι F4 _ (e4.trans e5) Grow.refl S5⟩
  · cases h
end
end DL

set_option maxHeartbeats 1000000
/-! DL19: loops, errors, several names at once. -/
namespace DL
open PySem PySem.Spec PyProof.Rows L2
section
variable {G : Ge} {N : List Str} {k : Nat} {x y z : IR}
theorem ss_fo {tg : Tg} (hx : SI G N k x) (hy : SS G N k y) : SS G N k (.fo tg x y) := SS.of (fun _ _ => rfl) fun {sc X W e} ok tk h => by
  dsimp only [mt] at h
  split at h
  · simp only [Bool.and_eq_true] at h
    obtain ⟨⟨h1, h2⟩, h3⟩ := h
    refine PS.imp (ps_for ok.pas ok.calm (hx.p ok.toOkX tk h2) ((pgs_tg ok.toOkX tg).1 h1) (hy.ss ok tk h3) (hx.fs h2 _)) fun D σ H ⟨ρ, μ, F, ι, S, a⟩ => ?_
    refine Rd.mono (AftS.step (U := RelI) (ρ' := ρ) a S) fun J H1 ⟨ds, μ1, F1, e1, S1, wd, a⟩ => ?_
    replace a := AftS.rebase a e1 Grow.refl
    refine ⟨fun i m σ H => m = ds.length - i ∧ i ≤ ds.length ∧ ∃ ρ μ F ι', Ext ι F1 H1 F H ∧ Grow ι ι' H1 ∧ Sat ρ μ σ H F ι' ∧ AftS X.mg W ι F1 H1 D (forR tg.f.one (den G y).s (ds.drop i) ρ μ), ⟨_, rfl, Nat.zero_le _, ρ, μ1, F1, ι, Ext.refl, Grow.refl, S1, a⟩, ?_⟩
    rintro i m σi Hi ⟨rfl, hi, ρi, μi, Fi, ιi, ei, gi, Si, ai⟩
    by_cases hlt : i < ds.length
    · have hd : ds[i]? = some ds[i] := by simp [hlt]
      rw [List.drop_eq_getElem_cons hlt] at ai
      unfold forR at ai
      split at ai
      case h_1 => exact ai.elim
      rename_i ρ1 ea
      refine .inr ⟨wd.goes Fi Hi i _ ei.fs Si.sub hd, fun σ' H' => i + 1 ≤ ds.length ∧ ∃ ρ μ F ι', Ext ι F1 H1 F H' ∧ Grow ι ι' H1 ∧ Sat ρ μ σ' H' F ι' ∧ AftS X.mg W ι F1 H1 D (forR tg.f.one (den G y).s (ds.drop (i + 1)) ρ μ), fun σ' H' q => ⟨_, by omega, rfl, q⟩, fun v H' yl => ?_⟩
      obtain ⟨F2, op, dx⟩ := wd.yields Fi Hi i _ v H' ei.fs Si.sub hd yl
      have S2 := op.sat Si
      have e2 : Ext ι F1 H1 F2 H' := ei.grow gi op.ext
      refine (g_ok tg).1 ea S2 dx fun σ2 S3 k3 l3 => ⟨ρ1, μi, F2, ιi, S3, ?_⟩
      cases eb : (den G y).s ρ1 μi with
      | nx ρ2 μ2 =>
        rw [eb] at ai
        exact fun σ3 ι3 F3 H3 e3 g3 S3 => ⟨hlt, ρ2, μ2, F3, ι3, e2.grow gi e3, gi.trans g3 e2.ht, S3, ai⟩
      | ct ρ2 μ2 =>
        rw [eb] at ai
        exact fun σ3 ι3 F3 H3 e3 g3 S3 => ⟨hlt, ρ2, μ2, F3, ι3, e2.grow gi e3, gi.trans g3 e2.ht, S3, ai⟩
      | bk ρ2 μ2 =>
        rw [eb] at ai
        exact fun σ3 ι3 F3 H3 e3 g3 S3 => ai σ3 ι3 F3 H3 (e2.grow gi e3) (gi.trans g3 e2.ht) S3
      | rt v μ2 =>
        rw [eb] at ai
        exact AftS.rebase ai e2 gi
      | exc ex ρ2 μ2 =>
        rw [eb] at ai
        exact AftS.rebase ai e2 gi
      | stuck =>
        rw [eb] at ai
        exact ai.elim
    · have e : i = ds.length := by omega
      subst e
      rw [List.drop_length] at ai
      exact .inl ⟨wd.stops Fi Hi ei.fs Si.sub, ai σi ιi Fi Hi ei gi Si⟩
  · cases h
theorem ss_whl (hx : SE G N k x) (hy : SS G N k y) : SS G N k (.whl x y) := SS.of (fun _ _ => rfl) fun {sc X W e} ok tk h => by
  dsimp only [mt] at h
  split at h
  · obtain ⟨h1, h2⟩ := Bool.and_eq_true_iff.mp h
    refine PS.imp (ps_while ok.pas (hx.t ok.toOkX tk h1) (hy.ss ok tk h2)) fun D σ H ⟨ρ, μ, F, ι, S, a⟩ => ?_
    replace a : AftS X.mg W ι F H D (whileR (testR (den G x).e) (den G y).s ρ μ) := a
    unfold whileR at a
    split at a
    case isFalse => exact a.elim
    rename_i ex
    refine ⟨fun m σ' H' => ∃ ρ μ F' ι', Sat ρ μ σ' H' F' ι' ∧ AftS X.mg W ι' F' H' D (whileN (testR (den G x).e) (den G y).s m ρ μ), ⟨_, ρ, μ, F, ι, S, a⟩, ?_⟩
    rintro m σi Hi ⟨ρi, μi, Fi, ιi, Si, ai⟩
    cases m with
    | zero => exact ai.elim
    | succ m =>
      unfold whileN at ai
      refine Rd.mono (AftS.step (U := RelB) (ρ' := ρi) ai Si) fun b H1 ⟨s1, μ1, F1, e1, S1, r1, ai⟩ => ?_
      subst r1
      replace ai := AftS.rebase ai e1 Grow.refl
      cases b with
      | false =>
        rw [if_neg Bool.false_ne_true]
        exact ai σi ιi F1 H1 Ext.refl Grow.refl S1
      | true =>
        rw [if_pos rfl]
        refine ⟨fun σ' H' => ∃ ρ μ F' ι', Sat ρ μ σ' H' F' ι' ∧ AftS X.mg W ι' F' H' D (whileN (testR (den G x).e) (den G y).s m ρ μ), fun σ' H' q => ⟨m, Nat.lt_succ_self m, q⟩, ρi, μ1, F1, ιi, S1, ?_⟩
        replace ai : AftS X.mg W ιi F1 H1 D (match (den G y).s ρi μ1 with
          | .nx ρ2 μ2 => whileN (testR (den G x).e) (den G y).s m ρ2 μ2
          | .ct ρ2 μ2 => whileN (testR (den G x).e) (den G y).s m ρ2 μ2
          | .bk ρ2 μ2 => .nx ρ2 μ2
          | r => r) := ai
        cases eb : (den G y).s ρi μ1 with
        | nx ρ2 μ2 =>
          rw [eb] at ai
          exact fun σ3 ι3 F3 H3 e3 g3 S3 => ⟨ρ2, μ2, F3, ι3, S3, AftS.rebase ai e3 g3⟩
        | ct ρ2 μ2 =>
          rw [eb] at ai
          exact fun σ3 ι3 F3 H3 e3 g3 S3 => ⟨ρ2, μ2, F3, ι3, S3, AftS.rebase ai e3 g3⟩
        | bk ρ2 μ2 =>
          rw [eb] at ai
          exact fun σ3 ι3 F3 H3 e3 g3 S3 => ai σ3 ι3 F3 H3 e3 g3 S3
        | rt v μ2 =>
          rw [eb] at ai
          exact ai
        | exc ex ρ2 μ2 =>
          rw [eb] at ai
          exact ai
        | stuck =>
          rw [eb] at ai
          exact ai.elim
  · cases h
theorem ss_rai {c m : Str} : SS G N k (.rai c m) := SS.of (fun _ _ => rfl) fun {sc X W e} ok tk h => by
  dsimp only [mt] at h
  split at h
  · simp only [Bool.and_eq_true, decide_eq_true_eq] at h
    obtain ⟨⟨⟨⟨rfl, h2⟩, h3⟩, h4⟩, rfl⟩ := h
    obtain ⟨C, q1, q2, q3, q4, q5⟩ := (ok.exo _ h2).ex
    exact PS.imp (ps_raise ok.calm tk (pmk_own PySem.F.excBase_ValueError q2 q1 q3 (raises_own q4 q5) (gl_of ok.hsc h3) (okName_of h4).1)) fun D σ H ⟨ρ, μ, F, ι, S, a⟩ => a _ _ σ ι F H Ext.refl Grow.refl S ⟨q1, .inl ⟨rfl, rfl⟩⟩
  · cases h

/-! ### except suites -/
structure SH (G : Ge) (N : List Str) (ir : IR) : Prop where
  e : ∀ {sc : Scope} {X : Cx} {x : Expr}, OkH N sc X → ir.hot = true → (mt G N ir).e sc x = true → PE X x (Rd X.mg W0 RelE (den G ir).e)
  s : ∀ {sc : Scope} {X : Cx} {x : Stmt}, OkH N sc X → ir.hot = true → (mt G N ir).s sc x = true → PS X x (RdS X.mg W0 (den G ir).s)
  ss : ∀ {sc : Scope} {X : Cx} {x : List Stmt}, OkH N sc X → ir.hot = true → (mt G N ir).ss sc x = true → PSs X x (RdS X.mg W0 (den G ir).s)
theorem hot_slot {sc : Scope} {X : Cx} {n : Str} {p : Pos} {i : Nat} (ok : OkH N sc X) (h1 : N[i]? = some n) (h2 : visB sc n = true) (h3 : okName n = true) : PE X (.Name n p) (Rd X.mg W0 RelE fun ρ μ => slot ρ i μ) := by
  obtain ⟨n1, n2, _⟩ := okName_of h3
  refine PE.imp (pe_var (i := i) (by rw [ok.hN]; exact h1) (ok.hsc.vis _ h2) n1 n2) fun σ H Q ⟨ρ, μ, F, ι, S, a⟩ => ?_
  replace a : Aft X.mg W0 RelE ρ σ ι F H (slot ρ i μ) Q := a
  unfold slot at a
  split at a
  · rename_i v e
    obtain ⟨w, e1, q⟩ := S.slot i v e
    refine ⟨w, e1, a w F H Ext.refl S ⟨?_, ?_⟩⟩
    · cases v with
      | dat d => exact q
      | own j => exact q
      | fre ds => exact q.elim
    · cases v with
      | fre ds => exact q.elim
      | _ => trivial
  · exact a.elim
theorem sh_all : ∀ ir : IR, SH G N ir := fun ir => by
  induction ir with
  | nil =>
    refine ⟨(fun _ _ h => nomatch h), (fun _ _ h => nomatch h), fun {sc X l} ok _ h => ?_⟩
    cases l with
    | nil => exact PSs.imp pss_nil fun D σ H ⟨ρ, μ, F, ι, S, a⟩ => a σ ι F H Ext.refl Grow.refl S
    | cons _ _ => cases h
  | cons x y hx hy =>
    refine ⟨(fun _ _ h => nomatch h), (fun _ _ h => nomatch h), fun {sc X l} ok hh h => ?_⟩
    cases l with
    | nil => cases h
    | cons e l =>
      obtain ⟨h1, h2⟩ := Bool.and_eq_true_iff.mp h
      obtain ⟨g1, g2⟩ := Bool.and_eq_true_iff.mp hh
      exact PSs.imp (pss_cons (hx.s ok g1 h1) (hy.ss ok g2 h2)) fun D σ H q => seq_read q
  | var i =>
    refine ⟨fun {sc X e} ok _ h => ?_, (fun _ _ h => nomatch h), (fun _ _ h => nomatch h)⟩
    dsimp only [mt, Mt.ofE] at h
    split at h
    · simp only [Bool.and_eq_true, decide_eq_true_eq] at h
      exact hot_slot ok h.1.1 h.1.2 h.2
    · cases h
  | lit d =>
    refine ⟨fun {sc X e} ok _ h => ?_, (fun _ _ h => nomatch h), (fun _ _ h => nomatch h)⟩
    dsimp only [mt, Mt.ofE] at h
    split at h
    · exact pe_lit h
    · cases h
  | pass =>
    refine ⟨(fun _ _ h => nomatch h), fun {sc X e} ok _ h => ?_, (fun _ _ h => nomatch h)⟩
    have go : ∀ {D : Ends} {σ : St} {H : Hp}, RdS X.mg W0 (den G .pass).s D σ H → tNext D σ H := fun {D σ H} ⟨ρ, μ, F, ι, S, a⟩ => a σ ι F H Ext.refl Grow.refl S
    dsimp only [mt] at h
    split at h
    · exact PS.imp ps_pass fun D σ H q => go q
    · exact PS.imp ps_doc fun D σ H q => go q
    · cases h
  | ret x hx =>
    refine ⟨(fun _ _ h => nomatch h), fun {sc X e} ok hh h => ?_, (fun _ _ h => nomatch h)⟩
    dsimp only [mt] at h
    split at h
    · exact PS.imp (ps_ret (hx.e ok hh h)) fun D σ H q => ret_read q
    · cases h
  | retN =>
    refine ⟨(fun _ _ h => nomatch h), fun {sc X e} ok hh h => ?_, (fun _ _ h => nomatch h)⟩
    dsimp only [mt] at h
    split at h
    · exact PS.imp ps_retN fun D σ H ⟨ρ, μ, F, ι, S, a⟩ => a .non ρ σ ι F H Ext.refl Grow.refl S .non trivial
    · cases h
  | set i x hx =>
    refine ⟨(fun _ _ h => nomatch h), fun {sc X e} ok hh h => ?_, (fun _ _ h => nomatch h)⟩
    dsimp only [mt] at h
    split at h
    · simp only [Bool.and_eq_true, decide_eq_true_eq] at h
      obtain ⟨⟨⟨h1, h2⟩, h3⟩, h4⟩ := h
      rename_i n p v pos
      have nc : isComp v = false := by
        have hx' : x.hot = true := hh
        cases v <;> first
          | rfl
          | (exfalso; clear hx hh h4; cases x <;> first
              | (revert hx'; simp [IR.hot]; done)
              | (revert h3; simp [mt, Mt.ofE, Mt.no]; done))
      exact PS.imp (ps_set (by rw [ok.hN]; exact ok.nd) (by rw [ok.hN]; exact h1) (ok.hsc.loc _ h2).1 (hx.e ok hh h3) (notComp_of nc _ _ _) (ok.hsc.loc _ h2).2) fun D σ H q => set_read q
    · cases h
  | brk =>
    refine ⟨(fun _ _ h => nomatch h), fun {sc X e} ok hh h => ?_, (fun _ _ h => nomatch h)⟩
    dsimp only [mt] at h
    split at h
    · exact PS.imp ps_break fun D σ H ⟨ρ, μ, F, ι, S, a⟩ => a σ ι F H Ext.refl Grow.refl S
    · cases h
  | ctn =>
    refine ⟨(fun _ _ h => nomatch h), fun {sc X e} ok hh h => ?_, (fun _ _ h => nomatch h)⟩
    dsimp only [mt] at h
    split at h
    · exact PS.imp ps_continue fun D σ H ⟨ρ, μ, F, ι, S, a⟩ => a σ ι F H Ext.refl Grow.refl S
    · cases h
  | _ => exact ⟨(fun _ h _ => nomatch h), (fun _ h _ => nomatch h), (fun _ h _ => nomatch h)⟩
/-- except clauses -/
def HdsD (X : Cx) (G : Ge) : List (Str × (Rho → List Cell → RS)) → List (Value × (Addr → Value → Option Addr → TS)) → Prop
  | [], [] => True
  | (c, m) :: r, (v, ts) :: l => X.mg c = some v ∧ c ∈ G.exc ∧ (ts = fun _ _ _ => RdS X.mg W0 m) ∧ HdsD X G r l
  | _, _ => False
theorem hds_one {c : Str} {b : IR} {sc : Scope} {X : Cx} {l : List ExceptHandler} (ok : OkS G N k sc X) (h : (mt G N (.hdl c b)).hs sc l = true) {hds : List ExceptHandler} {r : List (Str × (Rho → List Cell → RS))} {ll : List (Value × (Addr → Value → Option Addr → TS))} (hk : HdsOk X hds ll) (hd : HdsD X G r ll) :
    ∃ ll', HdsOk X (l ++ hds) ll' ∧ HdsD X G ((den G (.hdl c b)).h ++ r) ll' := by
  dsimp only [mt] at h
  split at h
  · simp only [Bool.and_eq_true, decide_eq_true_eq] at h
    obtain ⟨⟨⟨⟨⟨rfl, h2⟩, h3⟩, h4⟩, h5⟩, h6⟩ := h
    obtain ⟨C, q1, _⟩ := (ok.exo _ h2).ex
    refine ⟨(.ref C, fun _ _ _ => RdS X.mg W0 (den G b).s) :: ll, .cons ⟨gl_of ok.hsc h3, (okName_of h4).1, .inl q1⟩ (fun a oe cls d pn _ _ => ?_) hk, q1, h2, rfl, hd⟩
    exact (sh_all (G := G) b).ss (X := X.suite a ((a, oe) :: pn)) ⟨ok.hN, ok.nd, ⟨ok.hsc.vis, ok.hsc.loc, ok.hsc.gl, ok.hsc.lcl, ok.hsc.fr, ok.hsc.kind⟩⟩ h5 h6
  · cases h
theorem hds_all {sc : Scope} {X : Cx} (ok : OkS G N k sc X) : ∀ {ir : IR} {l : List ExceptHandler}, (mt G N ir).hs sc l = true → ∀ {hds : List ExceptHandler} {r : List (Str × (Rho → List Cell → RS))} {ll : List (Value × (Addr → Value → Option Addr → TS))}, HdsOk X hds ll → HdsD X G r ll →
    ∃ ll', HdsOk X (l ++ hds) ll' ∧ HdsD X G ((den G ir).h ++ r) ll' := fun {ir} => by
  induction ir with
  | nil =>
    intro l h hds r ll h1 h2
    cases l with
    | nil => exact ⟨ll, h1, h2⟩
    | cons _ _ => cases h
  | cons x y hx hy =>
    intro l h hds r ll g1 g2
    cases l with
    | nil => cases h
    | cons e l =>
      obtain ⟨h1, h2⟩ := Bool.and_eq_true_iff.mp h
      obtain ⟨l1, q1, q2⟩ := hy h2 g1 g2
      obtain ⟨l2, q3, q4⟩ := hx h1 q1 q2
      refine ⟨l2, q3, ?_⟩
      show HdsD X G (((den G x).h ++ (den G y).h) ++ r) l2
      rw [List.append_assoc]
      exact q4
  | hdl x b _ =>
    intro l h hds r ll g1 g2
    exact hds_one ok h g1 g2
  | _ =>
    intro l h
    cases h
theorem wMany_of {X : Cx} {sc : Scope} (ok : OkS G N k sc X) {W : WX} {D : Ends} {c : Value} {d : Option Addr} {σ : St} {H : Hp} {e : Exn} (he : e.cls ∈ G.exc) (hm : X.mg e.cls = some c) : ∀ {r : List (Str × (Rho → List Cell → RS))} {l : List (Value × (Addr → Value → Option Addr → TS))}, HdsD X G r l →
    (match hdlPick G.sub e.cls r with
      | some m => RdS X.mg W0 m D σ H
      | none => W c d σ H) → wMany X.K W D l c d σ H
  | [], [], _, q => q
  | [], _ :: _, h, _ => h.elim
  | _ :: _, [], h, _ => h.elim
  | (x, m) :: r, (v, ts) :: l, ⟨h1, h2, h3, h4⟩, q => by
    refine ⟨G.sub e.cls x, ok.exm _ _ _ _ he h2 hm h1, fun z a _ => ?_, fun z => wMany_of ok he hm h4 ?_⟩
    · rw [h3]
      unfold hdlPick at q
      rw [if_pos z] at q
      exact q
    · unfold hdlPick at q
      rw [if_neg (by rw [z]; exact Bool.false_ne_true)] at q
      exact q
theorem ss_try (hx : SS G N k x) : SS G N k (.tryM x y) := SS.of (fun _ _ => rfl) fun {sc X W e} ok tk h => by
  dsimp only [mt] at h
  split at h
  · obtain ⟨h1, h2⟩ := Bool.and_eq_true_iff.mp h
    obtain ⟨ll, q1, q2⟩ := hds_all ok h2 .nil (r := []) trivial
    rw [List.append_nil] at q1 q2
    refine PS.imp (ps_try_many ok.stk ok.frm tk (tb := fun W => RdS X.mg W (den G x).s) (fun W' pn xe tk' ps' => hx.ss (X := X.tr pn xe) ?_ tk' h1) q1) fun D σ H ⟨ρ, μ, F, ι, S, a⟩ => ?_
    · exact { hN := ok.hN, nd := ok.nd, hsc := ⟨ok.hsc.vis, ok.hsc.loc, ok.hsc.gl, ok.hsc.lcl, ok.hsc.fr, ok.hsc.kind⟩, calm := ok.calm, room := ok.room, grd := ok.grd, cal := fun c h => ⟨(ok.cal c h).ex⟩, con := ok.con, blt := ok.blt, exo := fun c h => ⟨(ok.exo c h).ex⟩, exm := ok.exm, scp := ok.scp, pas := ps', stk := ok.stk, frm := ok.frm }
    · refine ⟨ρ, μ, F, ι, S, ?_⟩
      replace a : AftS X.mg W ι F H D (match (den G x).s ρ μ with
        | .exc x ρ1 μ1 => if G.exc.contains x.cls = true then (match hdlPick G.sub x.cls (den G y).h with
          | some h => (h ρ1 μ1).noX
          | none => .exc x ρ1 μ1) else .stuck
        | r => r) := a
      cases e : (den G x).s ρ μ with
      | exc ex ρ1 μ1 =>
        rw [e] at a
        replace a : AftS X.mg W ι F H D (if G.exc.contains ex.cls = true then (match hdlPick G.sub ex.cls (den G y).h with
          | some h => (h ρ1 μ1).noX
          | none => .exc ex ρ1 μ1) else .stuck) := a
        split at a
        case isFalse => exact a.elim
        rename_i hin
        have hin : ex.cls ∈ G.exc := by simpa using hin
        intro c d σ1 ι1 F1 H1 e1 g1 S1 xr
        refine wMany_of ok hin xr.1 q2 ?_
        split at a
        · rename_i m em
          refine ⟨ρ1, μ1, F1, ι1, S1, ?_⟩
          replace a := AftS.rebase a e1 g1
          cases em : m ρ1 μ1 <;> (rw [em] at a; first | exact a | exact a.elim)
        · rename_i em
          exact a c d σ1 ι1 F1 H1 e1 g1 S1 xr
      | _ =>
        rw [e] at a
        exact a
  · cases h
end
end DL

set_option maxHeartbeats 1000000
/-! DL20: several names at once. -/
namespace DL
open PySem PySem.Spec PyProof.Rows L2
section
variable {G : Ge} {N : List Str} {k : Nat} {x y z : IR}
theorem ss_unp {tg : Tg} (hx : SE G N k x) : SS G N k (.unp tg x) := SS.of (fun _ _ => rfl) fun {sc X W e} ok tk h => by
  dsimp only [mt] at h
  split at h
  · rename_i t v pos
    simp only [Bool.and_eq_true] at h
    obtain ⟨⟨h1, h2⟩, h3⟩ := h
    have nc : isComp v = false ∧ swapsWithSole [t] v pos.line X.env = pure false ∧ swappedStores [t] v X.env = pure none ∧ (assignEach [t] X.env).map (·.2) = [assign t X.env] := by
      cases t <;> first
        | (exfalso; revert h3; simp; done)
        | (cases v <;> first
          | exact ⟨rfl, rfl, rfl, rfl⟩
          | (exfalso; revert h3; simp [isComp]; done))
    refine PS.imp (ps_asg (hx.e ok.toOkX tk h2) ((pgs_tg ok.toOkX tg).1 h1) nc.2.1 nc.2.2.1 nc.2.2.2) fun D σ H ⟨ρ, μ, F, ι, S, a⟩ => ?_
    replace a : AftS X.mg W ι F H D ((((den G x).e ρ μ).bind fun v μ1 => v.keep μ1).st ρ fun d μ1 => match tg.f.one d ρ with
      | some ρ' => .nx ρ' μ1
      | none => .stuck) := a
    refine Rd.mono (AftS.step (U := RelE) (ρ' := ρ) a.flat S) fun v H1 ⟨s1, μ1, F1, e1, S1, ⟨r1, n1⟩, a⟩ => ?_
    obtain ⟨d, μ2, F2, e2, sf, S2, q, a⟩ := a.keep (G0 := H) S1 e1 r1 n1
    split at a
    · rename_i ρ' er
      exact (g_ok tg).1 er S2 q fun σ' S' _ _ => a σ' ι F2 H1 e2 Grow.refl S'
    · exact a.elim
  · cases h

/-! ### names and values together -/
def fresP : List V → List SV → List Addr
  | .ref p :: vs, .fre _ :: ss => p :: fresP vs ss
  | _ :: vs, _ :: ss => fresP vs ss
  | _, _ => []
abbrev RelN : Rel (List V) (List SV) := fun H0 F' H' ι vs ss => Paired (VRep F' H' ι) vs ss ∧ Paired (NewV H0) vs ss ∧ (fresP vs ss).Nodup
structure SN (G : Ge) (N : List Str) (k : Nat) (ir : IR) : Prop where
  b : ∀ {sc : Scope} {X : Cx} {W : WX} {l : List Expr}, OkX G N k sc X → Takes X W → (mt G N ir).es sc l = true → PA X l fun σ H Q => Rd X.mg W RelN (den G ir).b σ H fun vs H1 => vs.length = l.length → Q vs H1
  sl : ∀ {sc : Scope} {l : List Expr}, (mt G N ir).es sc l = true → NoStar l
theorem sn_nil : SN G N k .nil where
  b := fun {sc X W l} ok tk h => by
    cases l with
    | nil => exact PA.imp pa_nil fun σ H Q ⟨ρ, μ, F, ι, S, a⟩ => a [] F H Ext.refl S ⟨.nil, .nil, .nil⟩ rfl
    | cons _ _ => cases h
  sl := sl_nil (k := k).sl
theorem fresP_new {H : Hp} : ∀ {vs : List V} {ss : List SV} {p : Addr}, Paired (NewV H) vs ss → p ∈ fresP vs ss → H p = none
  | [], _, p, _, h => by cases h
  | v :: vs, _, p, q, h => by
    cases q with
    | cons q1 q2 =>
      rename_i s ss
      cases s with
      | fre ds =>
        cases v with
        | ref a =>
          rcases List.mem_cons.mp h with e | e
          · subst e
            exact q1 _ rfl
          · exact fresP_new q2 e
        | _ => exact fresP_new q2 h
      | _ => cases v <;> exact fresP_new q2 h
theorem paired_imp {α β : Type} {R R' : α → β → Prop} (h : ∀ a b, R a b → R' a b) : ∀ {xs : List α} {ys : List β}, Paired R xs ys → Paired R' xs ys
  | _, _, .nil => .nil
  | _, _, .cons p q => .cons (h _ _ p) (paired_imp h q)
theorem sn_cons (hx : SE G N k x) (hy : SN G N k y) : SN G N k (.cons x y) where
  b := fun {sc X W l} ok tk h => by
    cases l with
    | nil => cases h
    | cons e l =>
      obtain ⟨h1, h2⟩ := es_cons h
      refine PA.imp (pa_cons (hx.e ok tk h1) (hy.b ok tk h2) (hx.st h1 _ _)) fun σ H Q ⟨ρ, μ, F, ι, S, a⟩ => ?_
      refine Rd.mono (Aft.step (U := RelE) a S Ext.refl) fun v1 H1 ⟨s1, μ1, F1, e1, d1, S1, ⟨r1, n1⟩, a⟩ => ?_
      refine Rd.mono (Aft.step (U := RelN) a S1 e1) fun vs H2 ⟨ss, μ2, F2, e2, d2, S2, ⟨r2, n2, n3⟩, a⟩ hl => ?_
      refine a _ F2 H2 e2 S2 ⟨.cons (r1.mono S1 d2) r2, .cons n1 (paired_imp (fun _ _ n => NewV.back n e1.ht) n2), ?_⟩ (by simp [hl])
      cases s1 with
      | fre ds =>
        obtain ⟨p, ws, rfl, hp, _⟩ := r1
        refine List.nodup_cons.mpr ⟨fun m => ?_, n3⟩
        have := fresP_new n2 m
        rw [hp] at this
        cases this
      | dat d => cases v1 <;> exact n3
      | own d => cases v1 <;> exact n3
  sl := fun {sc l} h => by
    cases l with
    | nil => cases h
    | cons e l =>
      obtain ⟨h1, h2⟩ := es_cons h
      exact nostar_cons (hx.st h1) (hy.sl h2)
end
end DL

set_option maxHeartbeats 1000000
/-! DL21: several names at once. -/
namespace DL
open PySem PySem.Spec PyProof.Rows L2
section
variable {G : Ge} {N : List Str} {k : Nat} {x y z : IR} {α : Type}
def SetTo (is : List Nat) (vs : List α) (σ σ' : List (Option α)) : Prop := σ'.length = σ.length ∧ (∀ j, j ∉ is → σ'[j]? = σ[j]?) ∧ ∀ (m i : Nat) (v : α), is[m]? = some i → vs[m]? = some v → i < σ.length → σ'[i]? = some (some v)
def setsV : List Nat → List α → List (Option α) → List (Option α)
  | i :: is, v :: vs, σ => setsV is vs (σ.set i (some v))
  | _, _, σ => σ
theorem setTo_of : ∀ {is : List Nat} {vs : List α} {σ : List (Option α)}, is.Nodup → is.length = vs.length → SetTo is vs σ (setsV is vs σ)
  | [], vs, σ, _, _ => ⟨by cases vs <;> rfl, fun j _ => by cases vs <;> rfl, fun m i v h => by simp at h⟩
  | i :: is, [], σ, _, h => by simp at h
  | i :: is, v :: vs, σ, n, h => by
    obtain ⟨n1, n2⟩ := List.nodup_cons.mp n
    obtain ⟨h1, h2, h3⟩ := setTo_of (σ := σ.set i (some v)) n2 (Nat.succ.inj h)
    refine ⟨by rw [show setsV (i :: is) (v :: vs) σ = setsV is vs (σ.set i (some v)) from rfl, h1, List.length_set], fun j hj => ?_, fun m i' v' e1 e2 hl => ?_⟩
    · rw [show setsV (i :: is) (v :: vs) σ = setsV is vs (σ.set i (some v)) from rfl, h2 j fun z => hj (List.mem_cons_of_mem _ z)]
      have ne : i ≠ j := fun z => hj (by rw [z]; exact List.mem_cons_self ..)
      exact List.getElem?_set_ne ne
    · show (setsV is vs (σ.set i (some v)))[i']? = _
      cases m with
      | zero =>
        cases e1
        cases e2
        rw [h2 _ n1, List.getElem?_set_self hl]
      | succ m => exact h3 m i' v' (by simpa using e1) (by simpa using e2) (by simpa using hl)
theorem sets_eq : ∀ {is : List Nat} {ws : List SV} {ρ ρ' : Rho}, sets is ws ρ = some ρ' → is.length = ws.length ∧ ρ' = setsV is ws ρ
  | [], [], ρ, ρ', h => by
    cases h
    exact ⟨rfl, rfl⟩
  | [], _ :: _, _, _, h => nomatch h
  | _ :: _, [], _, _, h => nomatch h
  | i :: is, w :: ws, ρ, ρ', h => by
    obtain ⟨h1, h2⟩ := sets_eq (is := is) (ws := ws) (ρ := ρ.set i (some w)) h
    exact ⟨by simp [h1], h2⟩
theorem SetTo.rev {is : List Nat} {vs : List α} {σ σ' : List (Option α)} (l : is.length = vs.length) (h : SetTo is.reverse vs.reverse σ σ') : SetTo is vs σ σ' := by
  obtain ⟨h1, h2, h3⟩ := h
  refine ⟨h1, fun j hj => h2 j (by simpa using hj), fun m i v e1 e2 hl => ?_⟩
  have hm := (List.getElem?_eq_some_iff.mp e1).1
  refine h3 (is.length - 1 - m) i v ?_ ?_ hl
  · rw [List.getElem?_reverse (by omega), ← e1]
    congr 1
    omega
  · rw [List.getElem?_reverse (by omega), ← e2]
    congr 1
    omega
theorem paired_get {β γ : Type} {R : β → γ → Prop} : ∀ {xs : List β} {ys : List γ} {m : Nat} {a : β} {b : γ}, Paired R xs ys → xs[m]? = some a → ys[m]? = some b → R a b
  | _, _, m, a, b, .nil, h, _ => by simp at h
  | _, _, 0, a, b, .cons p q, h, g => by
    simp at h g
    subst h g
    exact p
  | _, _, m + 1, a, b, .cons p q, h, g => paired_get (m := m) q (by simpa using h) (by simpa using g)
theorem Sat.setTo {ρ ρ' : Rho} {μ : List Cell} {σ σ' : St} {F H : Hp} {ι : List Addr} {is : List Nat} {ws : List SV} {vs : List V} (S : Sat ρ μ σ H F ι) (h : SetTo is ws ρ ρ') (g : SetTo is vs σ σ') (p : Paired (SlotOk F ι) vs ws) (l : is.length = ws.length) : Sat ρ' μ σ' H F ι where
  sub := S.sub
  len := S.len
  nod := S.nod
  cell := S.cell
  slen := by rw [h.1, g.1, S.slen]
  slot := fun j sv e => by
    by_cases hj : j ∈ is
    · obtain ⟨m, hm, em⟩ := List.getElem_of_mem hj
      have e1 : is[m]? = some j := by simp [hm, em]
      have hw : m < ws.length := by omega
      have lv := Paired.length p
      have hv : m < vs.length := by omega
      have hl : j < ρ.length := by
        rw [← h.1]
        exact (List.getElem?_eq_some_iff.mp e).1
      have e2 := h.2.2 m j ws[m] e1 (by simp [hw]) hl
      rw [e] at e2
      cases e2
      exact ⟨vs[m], g.2.2 m j vs[m] e1 (by simp [hv]) (S.slen ▸ hl), paired_get p (m := m) (by simp [hv]) (by simp [hw])⟩
    · rw [h.2.1 j hj] at e
      obtain ⟨v, h1, h2⟩ := S.slot j sv e
      exact ⟨v, by rw [g.2.1 j hj]; exact h1, h2⟩
/-- the values come to stand -/
theorem held_upd {F H : Hp} {ι : List Addr} {p : Addr} {xs : List V} (n : F p = none) : ∀ {vs : List V} {ss : List SV}, Paired (VRep F H ι) vs ss → p ∉ fresP vs ss → Paired (VRep (upd F p (.lst xs)) H ι) vs ss
  | _, _, .nil, _ => .nil
  | v :: vs, s :: ss, .cons q1 q2, h => by
    cases s with
    | dat d => exact .cons (Dt.mono (Same.upd n) q1) (held_upd n q2 (by cases v <;> exact h))
    | own d => exact .cons q1 (held_upd n q2 (by cases v <;> exact h))
    | fre ds =>
      obtain ⟨a, ws, rfl, h1, h2, h3, h4⟩ := q1
      have hh : p ≠ a ∧ p ∉ fresP vs ss := by simpa [fresP] using h
      exact .cons ⟨a, ws, rfl, h1, by rw [upd_ne (Ne.symm hh.1)]; exact h2, h3, DtAll.mono (Same.upd n) h4⟩ (held_upd n q2 hh.2)
theorem held_grow {F H : Hp} {ι : List Addr} {p : Addr} : ∀ {vs : List V} {ss : List SV}, Paired (VRep F H ι) vs ss → p ∉ fresP vs ss → Paired (VRep F H (ι ++ [p])) vs ss
  | _, _, .nil, _ => .nil
  | v :: vs, s :: ss, .cons q1 q2, h => by
    cases s with
    | dat d => exact .cons q1 (held_grow q2 (by cases v <;> exact h))
    | own d =>
      obtain ⟨a, h1, h2⟩ := q1
      exact .cons ⟨a, by rw [List.getElem?_append_left (List.getElem?_eq_some_iff.mp h1).1]; exact h1, h2⟩ (held_grow q2 (by cases v <;> exact h))
    | fre ds =>
      obtain ⟨a, ws, rfl, h1, h2, h3, h4⟩ := q1
      have hh : p ≠ a ∧ p ∉ fresP vs ss := by simpa [fresP] using h
      refine .cons ⟨a, ws, rfl, h1, h2, fun m => ?_, h4⟩ (held_grow q2 hh.2)
      rcases List.mem_append.mp m with z | z
      · exact h3 z
      · exact hh.1 (by simpa using z : a = p).symm
theorem slot_mono {F F' : Hp} {ι ι' : List Addr} {v : V} {s : SV} (f : Same F F') (g : ∃ t, ι' = ι ++ t) (h : SlotOk F ι v s) : SlotOk F' ι' v s := by
  cases s with
  | dat d => exact Dt.mono f h
  | own k =>
    obtain ⟨t, rfl⟩ := g
    obtain ⟨a, h1, h2⟩ := h
    exact ⟨a, by rw [List.getElem?_append_left (List.getElem?_eq_some_iff.mp h1).1]; exact h1, h2⟩
  | fre _ => exact h
theorem par_ok {mg : Str → Option Value} {W : WX} {ρ : Rho} {σ : St} {H F0 H0 : Hp} {ι0 : List Addr} {D : Ends} : ∀ {ts : List Bool} {ss : List SV} {vs : List V} {μ : List Cell} {F : Hp} {ι : List Addr} {c : List SV → List Cell → RS}, Sat ρ μ σ H F ι → Ext ι0 F0 H0 F H → Grow ι0 ι H0 →
    Paired (VRep F H ι) vs ss → Paired (NewV H0) vs ss → (fresP vs ss).Nodup → AftS mg W ι0 F0 H0 D (parN ts ss μ ρ c) →
    ∃ ws μ2 F2 ι2, Ext ι0 F0 H0 F2 H ∧ Grow ι0 ι2 H0 ∧ Sat ρ μ2 σ H F2 ι2 ∧ Paired (SlotOk F2 ι2) vs ws ∧ Same F F2 ∧ (∃ t, ι2 = ι ++ t) ∧ AftS mg W ι0 F0 H0 D (c ws μ2)
  | [], [], _, μ, F, ι, c, S, e, g, p, _, _, a => by
    cases p
    exact ⟨[], μ, F, ι, e, g, S, .nil, Same.refl F, ⟨[], by simp⟩, a⟩
  | [], _ :: _, _, _, _, _, _, _, _, _, _, _, _, a => a.elim
  | _ :: _, [], _, _, _, _, _, _, _, _, _, _, _, a => a.elim
  | t :: ts, s :: ss, _, μ, F, ι, c, S, e, g, .cons (a := v) q1 q2, .cons n1 n2, nd, a => by
    rename_i vs
    replace a : AftS mg W ι0 F0 H0 D ((toName t s μ).st ρ fun w μ1 => parN ts ss μ1 ρ fun ws μ2 => c (w :: ws) μ2) := a
    cases s with
    | fre ds =>
      obtain ⟨p, ws, rfl, h1, h2, h3, h4⟩ := q1
      obtain ⟨m1, m2⟩ := List.nodup_cons.mp (show (p :: fresP vs ss).Nodup from nd)
      cases t with
      | true =>
        have S2 := S.grow h1 h2 h3 h4
        obtain ⟨ws', μ2, F2, ι2, r1, r2, r3, r4, r5, ⟨t, r6⟩, r7⟩ := par_ok (c := fun ws μ2 => c (.own μ.length :: ws) μ2) S2 e (g.trans ⟨[p], rfl, fun b hb => by rw [List.mem_singleton.mp hb]; exact n1 _ rfl⟩ fun _ z => z) (held_grow q2 m1) n2 m2 a
        refine ⟨.own μ.length :: ws', μ2, F2, ι2, r1, r2, r3, .cons ⟨p, ?_, rfl⟩ r4, r5, ⟨[p] ++ t, by rw [r6, List.append_assoc]⟩, r7⟩
        rw [r6, ← S.len]
        simp
      | false =>
        have sf : Same F (L2.upd F p (.lst ws)) := Same.upd h2
        have e1 : Ext ι0 F0 H0 (L2.upd F p (.lst ws)) H := ⟨e.fs.trans sf, e.hs, e.ht, fun b o z => by
          by_cases y : b = p
          · subst y
            exact .inr (.inl (n1 _ rfl))
          · rw [upd_ne y] at z
            exact e.new b o z⟩
        obtain ⟨ws', μ2, F2, ι2, r1, r2, r3, r4, r5, r6, r7⟩ := par_ok (c := fun ws μ2 => c (.dat (.list ds) :: ws) μ2) (S.freezeNew h1 h2 h3) e1 g (held_upd h2 q2 m1) n2 m2 a
        exact ⟨.dat (.list ds) :: ws', μ2, F2, ι2, r1, r2, r3, .cons (Dt.mono r5 (.lst (L2.Rd.of upd_same) (DtAll.mono sf h4))) r4, sf.trans r5, r6, r7⟩
    | dat d =>
      have nd' : (fresP vs ss).Nodup := by cases v <;> exact nd
      cases t with
      | true => exact a.elim
      | false =>
        obtain ⟨ws, μ2, F2, ι2, r1, r2, r3, r4, r5, r6, r7⟩ := par_ok (c := fun ws μ2 => c (.dat d :: ws) μ2) S e g q2 n2 nd' a
        exact ⟨.dat d :: ws, μ2, F2, ι2, r1, r2, r3, .cons (Dt.mono r5 q1) r4, r5, r6, r7⟩
    | own d =>
      have nd' : (fresP vs ss).Nodup := by cases v <;> exact nd
      cases t with
      | true => exact a.elim
      | false =>
        obtain ⟨ws, μ2, F2, ι2, r1, r2, r3, r4, r5, r6, r7⟩ := par_ok (c := fun ws μ2 => c (.own d :: ws) μ2) S e g q2 n2 nd' a
        exact ⟨.own d :: ws, μ2, F2, ι2, r1, r2, r3, .cons (slot_mono (s := .own d) r5 r6 q1) r4, r5, r6, r7⟩
/-! ### the stores -/
def NameAt (X : Cx) (n : Str) (i : Nat) : Prop := X.N[i]? = some n ∧ L2.Loc X.env.scope n ∧ (X.fn n = true ∨ X.env.scope.names.lookup n = some .local)
theorem store_list {X : Cx} {pins : List (Addr × Obj)} {H : Hp} {M : Model} {A : Around} {E : Value → Shared → Prop} (hN : X.N.Nodup) {Q : Unit → Shared → Prop} : ∀ {names : List Str} {is : List Nat} {vs : List V} {us : List Value} {σ : St} {s : Shared}, Inv X pins σ H s → Paired (NameAt X) names is → Vals vs us → is.length = vs.length →
    (∀ s', Inv X pins (setsV is vs σ) H s' → Q () s') → wpAny M A (assignInOrder (names.map fun n => bindName X.env n) us) Q E s
  | [], _, _, _, σ, s, I, .nil, .nil, _, h => assignInOrder_nil (h s I)
  | [], _, _, _, σ, s, I, .nil, .cons _ _, l, h => by simp at l
  | n :: ns, _, _, _, σ, s, I, .cons p q, .nil, l, h => by simp at l
  | n :: ns, _, _, _, σ, s, I, .cons p q, .cons r rr, l, h =>
    assignInOrder_cons (wpAny_bindName (store_ok I hN p.1 p.2.1 r (fun s2 I2 => store_list hN I2 q rr (Nat.succ.inj l) h) p.2.2))
def tParS (is : List Nat) (ta : TA) : TS := fun D σ H => ta σ H fun vs H1 => is.length = vs.length ∧ vs.length ≤ sizeLine ∧ ∀ σ', SetTo is vs σ σ' → D.nx σ' H1
theorem paired_rev {β γ : Type} {R : β → γ → Prop} {xs : List β} {ys : List γ} (h : Paired R xs ys) : Paired R xs.reverse ys.reverse := by
  induction h with
  | nil => exact .nil
  | cons p q ih =>
    rw [List.reverse_cons, List.reverse_cons]
    have app : ∀ {as cs : List β} {bs ds : List γ}, Paired R as bs → Paired R cs ds → Paired R (as ++ cs) (bs ++ ds) := fun {as cs bs ds} h1 h2 => by
      induction h1 with
      | nil => exact h2
      | cons p q ih => exact .cons p ih
    exact app ih (.cons p .nil)
theorem ps_swp {X : Cx} {l r : List Expr} {names : List Str} {is : List Nat} {ta : TA} {kt k2 : Nat} {pt pt2 pos : Pos} (hc : X.calm = true) (hN : X.N.Nodup) (hn : Paired (NameAt X) names is) (nd : is.Nodup) (ha : PA X r ta)
    (hw : swappedStores [.Tuple l kt pt] (.Tuple r k2 pt2) X.env = pure (some names)) : PS X (.Assign [.Tuple l kt pt] (.Tuple r k2 pt2) pos) (tParS is ta) := by
  refine ⟨fun pins s σ H D I h => ?_⟩
  rw [exec_Assign_arm]
  refine wpAny_bind (wpAny_standAt ?_)
  rw [show swapsWithSole [.Tuple l kt pt] (.Tuple r k2 pt2) pos.line X.env = pure false from rfl]
  refine wpAny_bind (wpAny_pure ?_)
  rw [if_neg (by decide)]
  refine wpAny_bind (Tuple_ (thn (ha.run _ pins s σ H _ I h) fun us s1 ⟨vs, H1, I1, r1, q1⟩ => ?_))
  obtain ⟨l1, l2, q1⟩ := q1
  have lu := r1.length
  refine wpAny_newObj_type ?_ (by show us.length ≤ sizeLine; rw [← lu]; exact l2)
  have I2 : Inv X pins σ H1 { s1 with heap := s1.heap.push { cls := .type "tuple", data := .seq us.toArray } } := I1.kept (t' := s1.toks) fun b o e => Heap.get?_push_of_some _ e
  rw [hw]
  refine wpAny_bind (wpAny_pure ?_)
  have ln : names.length = us.toArray.size := by
    rw [Paired.length hn, l1, lu]
    simp
  show wpAny (model X.prog X.w) X.A (do rule "assign.swapped-stores"; let items ← unpackItems (.ref s1.heap.objs.size) names.length none; assignInOrder (names.reverse.map fun n => bindName X.env n) items.reverse; pure Flow.next) _ _ _
  rw [ln]
  refine wpAny_bind (wpAny_rule (wpAny_bind (unpackItems_tuple (items := us.toArray) (I.ok.hd hc) (IsTup.new s1.heap _) fun h' hx' => ?_)))
  have I3 := I2.kept (h' := h') (t' := s1.toks) fun b o e => hx' b o (Nat.ne_of_lt (Heap.lt_size e)) e
  refine wpAny_bind (store_list hN I3 (paired_rev hn) (by simpa using paired_rev r1) (by simp [l1]) fun s' I4 => wpAny_pure ?_)
  exact ⟨_, H1, I4, q1 _ (SetTo.rev l1 (setTo_of (List.pairwise_reverse.mpr (nd.imp fun h => Ne.symm h)) (by simp [l1])))⟩
/-- plain stores, one after the other -/
def gNs : List Nat → TGs
  | [] => gNil
  | i :: is => gCons (gName i) (gNs is)
theorem gNs_ok {Q : St → Hp → Prop} {H : Hp} : ∀ {is : List Nat} {vs : List V} {σ : St}, is.length = vs.length → Q (setsV is vs σ) H → gNs is vs σ H Q
  | [], [], σ, _, q => ⟨rfl, q⟩
  | [], _ :: _, _, l, _ => by simp at l
  | _ :: _, [], _, l, _ => by simp at l
  | i :: is, v :: vs, σ, l, q => ⟨v, vs, rfl, gNs_ok (is := is) (vs := vs) (Nat.succ.inj l) q⟩
theorem names_at {sc : Scope} {X : Cx} (ok : OkX G N k sc X) : ∀ {is : List Nat} {l : List Expr}, parT N sc is l = true → ∃ names, Paired (NameAt X) names is ∧ (∀ env, (assignEach l env) = l.map fun y => (false, assign y env)) ∧ PGs X l (gNs is) ∧ l.length = is.length ∧ (∃ ps : List (Str × Pos), l = ps.map (fun p => .Name p.1 p.2) ∧ names = ps.map (·.1))
  | [], [], _ => ⟨[], .nil, fun _ => rfl, pgs_nil, rfl, [], rfl, rfl⟩
  | [], _ :: _, h => nomatch h
  | _ :: _, [], h => nomatch h
  | i :: is, e :: l, h => by
    cases e with
    | Name n p =>
      simp only [parT, Bool.and_eq_true, decide_eq_true_eq] at h
      obtain ⟨⟨h1, h2⟩, h3⟩ := h
      obtain ⟨ns, q1, q2, q3, q4, ps, q5, q6⟩ := names_at ok h3
      have at1 : NameAt X n i := ⟨Sees.name ok h1, (ok.hsc.loc _ h2).1, (ok.hsc.loc _ h2).2⟩
      exact ⟨n :: ns, .cons at1 q1, fun env => by rw [List.map_cons, ← q2 env]; rfl, pgs_cons (pg_name (by rw [ok.hN]; exact ok.nd) at1.1 at1.2.1 at1.2.2) q3 rfl, by simp [q4], (n, p) :: ps, by rw [q5]; rfl, by rw [q6]; rfl⟩
    | _ => cases h
theorem swp_eq {X : Cx} {sc : Scope} (e : X.env.scope = sc) (hk : X.env.blockKind = .function) {l r : List Expr} {kt k2 : Nat} {pt pt2 : Pos} {o : Option (List Str)} (h : swpO sc l r = some o) : swappedStores [.Tuple l kt pt] (.Tuple r k2 pt2) X.env = pure o := by
  subst e
  unfold swpO at h
  unfold swappedStores
  dsimp only
  rw [hk]
  have b1 : (ScopeKind.function != ScopeKind.function) = false := by decide
  rw [b1, Bool.or_false]
  by_cases c1 : (!(l.length == 2 || l.length == 3) || r.length != l.length) = true
  · rw [if_pos c1] at h
    cases h
    rw [if_pos c1]
  · rw [if_neg c1] at h
    rw [if_neg c1]
    split at h
    · rename_i c2
      cases h
      exact if_pos c2
    · rename_i c2
      refine (if_neg c2).trans ?_
      dsimp only at h
      split at h
      · rename_i c3
        cases h
        exact if_pos c3
      · rename_i c3
        refine (if_neg c3).trans ?_
        split at h
        · rename_i c4
          cases h
          exact if_pos c4
        · rename_i c4
          refine (if_neg c4).trans ?_
          split at h
          · cases h
          · rename_i c5
            cases h
            exact if_neg c5
theorem fm_names {f : Str → Pos → Bool} : ∀ {ps : List (Str × Pos)}, ((ps.map fun p => (Expr.Name p.1 p.2)).filterMap fun
    | .Name id pos => if f id pos = true then some id else none
    | _ => none).length = ps.length → ((ps.map fun p => (Expr.Name p.1 p.2)).filterMap fun
    | .Name id pos => if f id pos = true then some id else none
    | _ => none) = ps.map (·.1)
  | [], _ => rfl
  | p :: ps, h => by
    rw [List.map_cons, List.filterMap_cons] at h ⊢
    dsimp only at h ⊢
    by_cases c : f p.1 p.2 = true
    · rw [if_pos c] at h ⊢
      dsimp only at h ⊢
      rw [fm_names (ps := ps) (by simpa using h)]
      rfl
    · rw [if_neg c] at h
      dsimp only at h
      have := List.length_filterMap_le (fun
        | .Name id pos => if f id pos = true then some id else none
        | _ => none : Expr → Option Str) (ps.map fun p => (Expr.Name p.1 p.2))
      rw [List.length_map] at this
      simp only [List.length_cons] at h
      omega
theorem swp_names {sc : Scope} {ps : List (Str × Pos)} {r : List Expr} {names : List Str} (h : swpO sc (ps.map fun p => (Expr.Name p.1 p.2)) r = some (some names)) : names = ps.map (·.1) := by
  unfold swpO at h
  split at h
  · cases h
  · dsimp only at h
    split at h
    · cases h
    · split at h
      · cases h
      · rename_i c3
        split at h
        · cases h
        · split at h
          · cases h
          · cases h
            refine fm_names (f := fun id pos => sc.names.lookup id == some .local && pos.line == _) ?_
            simp only [Bool.or_eq_true, not_or, bne_iff_ne, ne_eq, Decidable.not_not] at c3
            have := c3.1
            rw [List.length_map] at this
            exact this
theorem ss_par {ts : List (Nat × Bool)} (hx : SN G N k x) : SS G N k (.par ts x) := SS.of (fun _ _ => rfl) fun {sc X W e} ok tk h => by
  dsimp only [mt] at h
  split at h
  · rename_i l kt pt r k2 pt2 pos
    simp only [Bool.and_eq_true, decide_eq_true_eq] at h
    obtain ⟨⟨⟨⟨⟨h1, h2⟩, h3⟩, h4⟩, h5⟩, h6⟩ := h
    obtain ⟨names, q1, q2, q3, q4, ps, q5, q6⟩ := names_at ok.toOkX h1
    have pa := hx.b ok.toOkX tk h2
    have hN : X.N.Nodup := by rw [ok.hN]; exact ok.nd
    have hbk : X.env.blockKind = .function := by
      unfold Env.blockKind
      rw [ok.hsc.kind]
      rfl
    have core : ∀ (D : Ends) (σ : St) (H : Hp), RdS X.mg W (den G (.par ts x)).s D σ H → (Rd X.mg W RelN (den G x).b σ H fun vs H1 => ∃ ρ ρ' μ2 F2 ι2 ws, Ext ι2 F2 H1 F2 H1 ∧ Sat ρ μ2 σ H1 F2 ι2 ∧ Paired (SlotOk F2 ι2) vs ws ∧ (ts.map (·.1)).length = ws.length ∧ SetTo (ts.map (·.1)) ws ρ ρ' ∧ AftS X.mg W ι2 F2 H1 D (.nx ρ' μ2)) := by
      intro D σ H ⟨ρ, μ, F, ι, S, a⟩
      refine Rd.mono (AftS.step (U := RelN) (ρ' := ρ) a S) fun vs H1 ⟨ss, μ1, F1, e1, S1, ⟨r1, n1, n2⟩, a⟩ => ?_
      obtain ⟨ws, μ2, F2, ι2, x1, x2, S2, x3, x4, x5, a⟩ := par_ok S1 e1 Grow.refl r1 n1 n2 a
      split at a
      · rename_i ρ' es
        obtain ⟨y1, y2⟩ := sets_eq es
        exact ⟨ρ, ρ', μ2, F2, ι2, ws, Ext.refl, S2, x3, y1, y2 ▸ setTo_of h5 y1, AftS.rebase a x1 x2⟩
      · exact a.elim
    cases es : swpO sc l r with
    | none =>
      rw [es] at h6
      cases h6
    | some o =>
      have hw := swp_eq (kt := kt) (k2 := k2) (pt := pt) (pt2 := pt2) ok.scp hbk es
      cases o with
      | none =>
        refine PS.imp (ps_asg (pe_tup pa) (pg_tup ok.calm q3 rfl (by rw [q2]; exact each_none _ _)) rfl hw rfl) fun D σ H q => ?_
        refine Rd.mono (core D σ H q) fun vs H1 ⟨ρ, ρ', μ2, F2, ι2, ws, _, S2, x3, y1, y2, a⟩ hl => ⟨by rw [hl]; exact size7 (by omega), fun p n => ?_⟩
        have nF : F2 p = none := by
          cases z : F2 p with
          | none => rfl
          | some u => rw [S2.sub _ _ z] at n; cases n
        have lv := Paired.length x3
        refine ⟨p, vs, rfl, .inl (L2.Rd.of upd_same), by rw [hl, q2]; simp [h3], gNs_ok (by rw [y1, lv]) ?_⟩
        exact a _ ι2 F2 _ (Ext.refl.updNew n) Grow.refl ((S2.upd nF (S2.notIn n)).setTo y2 (setTo_of h5 (by rw [y1, lv])) x3 y1)
      | some nm =>
        have en : nm = names := by
          rw [q5] at es
          rw [swp_names es, q6]
        subst en
        refine PS.imp (ps_swp ok.calm hN q1 h5 pa hw) fun D σ H q => ?_
        refine Rd.mono (core D σ H q) fun vs H1 ⟨ρ, ρ', μ2, F2, ι2, ws, _, S2, x3, y1, y2, a⟩ hl => ?_
        have lv := Paired.length x3
        exact ⟨by rw [y1, lv], by rw [hl]; exact size7 (by omega), fun σ' hs => a _ ι2 F2 _ Ext.refl Grow.refl (S2.setTo y2 hs x3 y1)⟩
  · cases h
end
end DL

set_option maxHeartbeats 1000000
/-! DL22: every text does what its function says. -/
namespace DL
open PySem PySem.Spec PyProof.Rows L2
section
variable {G : Ge} {N : List Str} {k : Nat} {x y z : IR}
structure OkIR (G : Ge) (N : List Str) (k : Nat) (ir : IR) : Prop where
  se : SE G N k ir
  sl : SL G N k ir
  si : SI G N k ir
  sa : SA G N k ir
  ss : SS G N k ir
  sn : SN G N k ir
theorem SI.none (h : ∀ sc t l, (mt G N x).i sc t l = false) : SI G N k x :=
  ⟨(fun _ _ q => absurd q (by rw [h]; exact Bool.false_ne_true)), fun q => absurd q (by rw [h]; exact Bool.false_ne_true)⟩
theorem SS.none (h : ∀ sc l, (mt G N x).s sc l = false) (h2 : ∀ sc l, (mt G N x).ss sc l = false) : SS G N k x :=
  ⟨(fun _ _ q => absurd q (by rw [h]; exact Bool.false_ne_true)), fun _ _ q => absurd q (by rw [h2]; exact Bool.false_ne_true)⟩
theorem SN.none (h : ∀ sc l, (mt G N x).es sc l = false) : SN G N k x :=
  ⟨(fun _ _ q => absurd q (by rw [h]; exact Bool.false_ne_true)), fun q => absurd q (by rw [h]; exact Bool.false_ne_true)⟩
theorem SA.none (h : ∀ sc l, (mt G N x).e sc l = false) : SA G N k x :=
  ⟨fun _ _ q => absurd q (by rw [h]; exact Bool.false_ne_true)⟩
theorem se_nil : SE G N k .nil where
  e := fun _ _ h => nomatch h
  t := fun _ _ h => nomatch h
  st := fun h => nomatch h
  a := fun _ _ h => nomatch h
  ast := fun h => nomatch h
  o := fun {sc X W e} ok tk h => by
    cases e with
    | none => exact PO.imp po_none fun σ H Q ⟨ρ, μ, F, ι, S, a⟩ => a none F H Ext.refl S rfl
    | some _ => cases h
/-- an expression's text -/
theorem OkIR.ofE (h : SE G N k x) (sa : SA G N k x) (sl : SL G N k x) (h1 : ∀ sc t l, (mt G N x).i sc t l = false) (h2 : ∀ sc l, (mt G N x).s sc l = false) (h3 : ∀ sc l, (mt G N x).ss sc l = false) (h4 : ∀ sc l, (mt G N x).es sc l = false) : OkIR G N k x :=
  ⟨h, sl, SI.none h1, sa, SS.none h2 h3, SN.none h4⟩
theorem OkIR.ofE' (h : SE G N k x) (h1 : ∀ sc t l, (mt G N x).i sc t l = false) (h2 : ∀ sc l, (mt G N x).s sc l = false) (h3 : ∀ sc l, (mt G N x).ss sc l = false) (h4 : ∀ sc l, (mt G N x).es sc l = false) (h5 : ∀ sc l, (mt G N x).as sc l = false) (hl : ∀ vs tg it t e, x ≠ .lc vs tg it t e) (hl2 : ∀ vs vs1 tg it tg' it' e, x ≠ .lc2 vs vs1 tg it tg' it' e) : OkIR G N k x :=
  OkIR.ofE h (sa_of h hl hl2) (SL.none h4 h5) h1 h2 h3 h4
theorem OkIR.ofS (h : SS G N k x) (h1 : ∀ sc t l, (mt G N x).i sc t l = false) (h2 : ∀ sc l, (mt G N x).e sc l = false) (h3 : ∀ sc l, (mt G N x).a sc l = false) (h4 : ∀ sc l, (mt G N x).es sc l = false) (h5 : ∀ sc l, (mt G N x).as sc l = false) (h6 : ∀ sc l, (mt G N x).o sc l = false) : OkIR G N k x :=
  ⟨SE.none h2 h3 h6, SL.none h4 h5, SI.none h1, SA.none h2, h, SN.none h4⟩
theorem OkIR.ofI (h : SI G N k x) (h1 : ∀ sc l, (mt G N x).s sc l = false) (h7 : ∀ sc l, (mt G N x).ss sc l = false) (h2 : ∀ sc l, (mt G N x).e sc l = false) (h3 : ∀ sc l, (mt G N x).a sc l = false) (h4 : ∀ sc l, (mt G N x).es sc l = false) (h5 : ∀ sc l, (mt G N x).as sc l = false) (h6 : ∀ sc l, (mt G N x).o sc l = false) : OkIR G N k x :=
  ⟨SE.none h2 h3 h6, SL.none h4 h5, h, SA.none h2, SS.none h1 h7, SN.none h4⟩
theorem OkIR.no (h0 : mt G N x = Mt.no) : OkIR G N k x := OkIR.ofI (SI.none (by rw [h0]; exact fun _ _ _ => rfl)) (by rw [h0]; exact fun _ _ => rfl) (by rw [h0]; exact fun _ _ => rfl) (by rw [h0]; exact fun _ _ => rfl) (by rw [h0]; exact fun _ _ => rfl) (by rw [h0]; exact fun _ _ => rfl) (by rw [h0]; exact fun _ _ => rfl) (by rw [h0]; exact fun _ _ => rfl)
theorem ok_ir : ∀ ir : IR, OkIR G N k ir := fun ir => by
  have r1 : ∀ (_ : Scope) (_ : List Expr), false = false := fun _ _ => rfl
  induction ir with
  | nil => exact ⟨se_nil, sl_nil, SI.none (fun _ _ _ => rfl), SA.none (fun _ _ => rfl), ss_nil, sn_nil⟩
  | cons x y hx hy => exact ⟨SE.none (fun _ _ => rfl) (fun _ _ => rfl) (fun _ _ => rfl), sl_cons hx.se hy.sl, SI.none (fun _ _ _ => rfl), SA.none (fun _ _ => rfl), ss_cons hx.ss hy.ss, sn_cons hx.se hy.sn⟩
  | var i => exact OkIR.ofE' se_var (fun _ _ _ => rfl) (fun _ _ => rfl) (fun _ _ => rfl) (fun _ _ => rfl) (fun _ _ => rfl) (by intros; simp) (by intros; simp)
  | lend i => exact OkIR.ofE' se_lend (fun _ _ _ => rfl) (fun _ _ => rfl) (fun _ _ => rfl) (fun _ _ => rfl) (fun _ _ => rfl) (by intros; simp) (by intros; simp)
  | lit d => exact OkIR.ofE' se_lit (fun _ _ _ => rfl) (fun _ _ => rfl) (fun _ _ => rfl) (fun _ _ => rfl) (fun _ _ => rfl) (by intros; simp) (by intros; simp)
  | dct => exact OkIR.ofE' se_dct (fun _ _ _ => rfl) (fun _ _ => rfl) (fun _ _ => rfl) (fun _ _ => rfl) (fun _ _ => rfl) (by intros; simp) (by intros; simp)
  | glb x d => exact OkIR.ofE' se_glb (fun _ _ _ => rfl) (fun _ _ => rfl) (fun _ _ => rfl) (fun _ _ => rfl) (fun _ _ => rfl) (by intros; simp) (by intros; simp)
  | bin o a b ha hb => exact OkIR.ofE' (se_bin ha.se hb.se) (fun _ _ _ => rfl) (fun _ _ => rfl) (fun _ _ => rfl) (fun _ _ => rfl) (fun _ _ => rfl) (by intros; simp) (by intros; simp)
  | neg a ha => exact OkIR.ofE' (se_neg ha.se) (fun _ _ _ => rfl) (fun _ _ => rfl) (fun _ _ => rfl) (fun _ _ => rfl) (fun _ _ => rfl) (by intros; simp) (by intros; simp)
  | nt a ha => exact OkIR.ofE' (se_nt ha.se) (fun _ _ _ => rfl) (fun _ _ => rfl) (fun _ _ => rfl) (fun _ _ => rfl) (fun _ _ => rfl) (by intros; simp) (by intros; simp)
  | cmp o a b ha hb => exact OkIR.ofE' (se_cmp ha.se hb.se) (fun _ _ _ => rfl) (fun _ _ => rfl) (fun _ _ => rfl) (fun _ _ => rfl) (fun _ _ => rfl) (by intros; simp) (by intros; simp)
  | chn o o' a b c ha hb hc => exact OkIR.ofE' (se_chn ha.se hb.se hc.se) (fun _ _ _ => rfl) (fun _ _ => rfl) (fun _ _ => rfl) (fun _ _ => rfl) (fun _ _ => rfl) (by intros; simp) (by intros; simp)
  | bop o es h => exact OkIR.ofE' (se_bop h.sl) (fun _ _ _ => rfl) (fun _ _ => rfl) (fun _ _ => rfl) (fun _ _ => rfl) (fun _ _ => rfl) (by intros; simp) (by intros; simp)
  | ife c a b hc ha hb => exact OkIR.ofE' (se_ife hc.se ha.se hb.se) (fun _ _ _ => rfl) (fun _ _ => rfl) (fun _ _ => rfl) (fun _ _ => rfl) (fun _ _ => rfl) (by intros; simp) (by intros; simp)
  | tup es h => exact OkIR.ofE' (se_tup h.sl) (fun _ _ _ => rfl) (fun _ _ => rfl) (fun _ _ => rfl) (fun _ _ => rfl) (fun _ _ => rfl) (by intros; simp) (by intros; simp)
  | lst es h => exact OkIR.ofE' (se_lst h.sl) (fun _ _ _ => rfl) (fun _ _ => rfl) (fun _ _ => rfl) (fun _ _ => rfl) (fun _ _ => rfl) (by intros; simp) (by intros; simp)
  | idx a b ha hb => exact OkIR.ofE' (se_idx ha.se hb.se) (fun _ _ _ => rfl) (fun _ _ => rfl) (fun _ _ => rfl) (fun _ _ => rfl) (fun _ _ => rfl) (by intros; simp) (by intros; simp)
  | sli a b c ha hb hc => exact OkIR.ofE' (se_sli ha.se hb.se hc.se) (fun _ _ _ => rfl) (fun _ _ => rfl) (fun _ _ => rfl) (fun _ _ => rfl) (fun _ _ => rfl) (by intros; simp) (by intros; simp)
  | cal j es h => exact OkIR.ofE' (se_cal h.sl) (fun _ _ _ => rfl) (fun _ _ => rfl) (fun _ _ => rfl) (fun _ _ => rfl) (fun _ _ => rfl) (by intros; simp) (by intros; simp)
  | blt b es h => exact OkIR.ofE' (se_blt h.sl) (fun _ _ _ => rfl) (fun _ _ => rfl) (fun _ _ => rfl) (fun _ _ => rfl) (fun _ _ => rfl) (by intros; simp) (by intros; simp)
  | isi a ts h => exact OkIR.ofE' (se_isi h.se) (fun _ _ _ => rfl) (fun _ _ => rfl) (fun _ _ => rfl) (fun _ _ => rfl) (fun _ _ => rfl) (by intros; simp) (by intros; simp)
  | lc vs tg it t e h1 h2 h3 => exact OkIR.ofE (se_lc h1.si h2.se h3.se) (sa_lc h1.si h2.se h3.se) (SL.none (fun _ _ => rfl) (fun _ _ => rfl)) (fun _ _ _ => rfl) (fun _ _ => rfl) (fun _ _ => rfl) (fun _ _ => rfl)
  | lc2 vs vs1 tg it tg' it' e h1 h2 h3 => exact OkIR.no rfl
  | iSeq e h => exact OkIR.ofI (si_seq h.se) (fun _ _ => rfl) (fun _ _ => rfl) (fun _ _ => rfl) (fun _ _ => rfl) (fun _ _ => rfl) (fun _ _ => rfl) (fun _ _ => rfl)
  | iRng e h => exact OkIR.ofI (si_rng h.sl) (fun _ _ => rfl) (fun _ _ => rfl) (fun _ _ => rfl) (fun _ _ => rfl) (fun _ _ => rfl) (fun _ _ => rfl) (fun _ _ => rfl)
  | iEnu e h => exact OkIR.ofI (si_enu h.se) (fun _ _ => rfl) (fun _ _ => rfl) (fun _ _ => rfl) (fun _ _ => rfl) (fun _ _ => rfl) (fun _ _ => rfl) (fun _ _ => rfl)
  | iZip st a b ha hb => exact OkIR.ofI (si_zip ha.se hb.se) (fun _ _ => rfl) (fun _ _ => rfl) (fun _ _ => rfl) (fun _ _ => rfl) (fun _ _ => rfl) (fun _ _ => rfl) (fun _ _ => rfl)
  | pass => exact OkIR.ofS ss_pass (fun _ _ _ => rfl) (fun _ _ => rfl) (fun _ _ => rfl) (fun _ _ => rfl) (fun _ _ => rfl) (fun _ _ => rfl)
  | ret e h => exact OkIR.ofS (ss_ret h.se) (fun _ _ _ => rfl) (fun _ _ => rfl) (fun _ _ => rfl) (fun _ _ => rfl) (fun _ _ => rfl) (fun _ _ => rfl)
  | retN => exact OkIR.ofS ss_retN (fun _ _ _ => rfl) (fun _ _ => rfl) (fun _ _ => rfl) (fun _ _ => rfl) (fun _ _ => rfl) (fun _ _ => rfl)
  | xpr e h => exact OkIR.ofS (ss_xpr h.se) (fun _ _ _ => rfl) (fun _ _ => rfl) (fun _ _ => rfl) (fun _ _ => rfl) (fun _ _ => rfl) (fun _ _ => rfl)
  | set i e h => exact OkIR.ofS (ss_set h.sa) (fun _ _ _ => rfl) (fun _ _ => rfl) (fun _ _ => rfl) (fun _ _ => rfl) (fun _ _ => rfl) (fun _ _ => rfl)
  | setO i e h => exact OkIR.ofS (ss_setO h.sa) (fun _ _ _ => rfl) (fun _ _ => rfl) (fun _ _ => rfl) (fun _ _ => rfl) (fun _ _ => rfl) (fun _ _ => rfl)
  | par ts es h => exact OkIR.ofS (ss_par h.sn) (fun _ _ _ => rfl) (fun _ _ => rfl) (fun _ _ => rfl) (fun _ _ => rfl) (fun _ _ => rfl) (fun _ _ => rfl)
  | unp tg e h => exact OkIR.ofS (ss_unp h.se) (fun _ _ _ => rfl) (fun _ _ => rfl) (fun _ _ => rfl) (fun _ _ => rfl) (fun _ _ => rfl) (fun _ _ => rfl)
  | aug i o e h => exact OkIR.no rfl
  | sti i a e ha he => exact OkIR.ofS (ss_sti ha.se he.se) (fun _ _ _ => rfl) (fun _ _ => rfl) (fun _ _ => rfl) (fun _ _ => rfl) (fun _ _ => rfl) (fun _ _ => rfl)
  | app i e h => exact OkIR.ofS (ss_app h.se) (fun _ _ _ => rfl) (fun _ _ => rfl) (fun _ _ => rfl) (fun _ _ => rfl) (fun _ _ => rfl) (fun _ _ => rfl)
  | ifs c a b hc ha hb => exact OkIR.ofS (ss_ifs hc.se ha.ss hb.ss) (fun _ _ _ => rfl) (fun _ _ => rfl) (fun _ _ => rfl) (fun _ _ => rfl) (fun _ _ => rfl) (fun _ _ => rfl)
  | fo tg it b hi hb => exact OkIR.ofS (ss_fo hi.si hb.ss) (fun _ _ _ => rfl) (fun _ _ => rfl) (fun _ _ => rfl) (fun _ _ => rfl) (fun _ _ => rfl) (fun _ _ => rfl)
  | whl c b hc hb => exact OkIR.ofS (ss_whl hc.se hb.ss) (fun _ _ _ => rfl) (fun _ _ => rfl) (fun _ _ => rfl) (fun _ _ => rfl) (fun _ _ => rfl) (fun _ _ => rfl)
  | brk => exact OkIR.ofS ss_brk (fun _ _ _ => rfl) (fun _ _ => rfl) (fun _ _ => rfl) (fun _ _ => rfl) (fun _ _ => rfl) (fun _ _ => rfl)
  | ctn => exact OkIR.ofS ss_ctn (fun _ _ _ => rfl) (fun _ _ => rfl) (fun _ _ => rfl) (fun _ _ => rfl) (fun _ _ => rfl) (fun _ _ => rfl)
  | rai c m => exact OkIR.ofS ss_rai (fun _ _ _ => rfl) (fun _ _ => rfl) (fun _ _ => rfl) (fun _ _ => rfl) (fun _ _ => rfl) (fun _ _ => rfl)
  | tryM b hs h1 h2 => exact OkIR.ofS (ss_try h1.ss) (fun _ _ _ => rfl) (fun _ _ => rfl) (fun _ _ => rfl) (fun _ _ => rfl) (fun _ _ => rfl) (fun _ _ => rfl)
  | hdl c b h => exact OkIR.ofS (SS.none (fun _ _ => rfl) (fun _ _ => rfl)) (fun _ _ _ => rfl) (fun _ _ => rfl) (fun _ _ => rfl) (fun _ _ => rfl) (fun _ _ => rfl) (fun _ _ => rfl)
end
end DL

set_option maxHeartbeats 1000000
/-! DL23: a def keeps its promise. -/
namespace DL
open PySem PySem.Spec PyProof.Rows L2
/-- what a module offers to a def's body -/
structure ModOk (G : Ge) (k : Nat) (P : Program) (w : World) (K : PySem.W.Frag) (mg : Str → Option Value) (base : Heap) : Prop where
  cal : ∀ c ∈ G.ces, ∃ (f : Addr) (fd : FuncData) (ps : List Str), GFn P w K mg base k f fd ps (spOf mg c.sem) ∧ ps.length = c.arity ∧ mg c.name = some (.ref f) ∧ PySem.W.keepIn K (.ref f) = true ∧ Binds K fd ps []
  con : ∀ x i, (x, i) ∈ G.con → ∃ t, mg x = some (.int i t)
  blt : ∀ x ∈ bltNames, mg x = none
  exo : ∀ c ∈ G.exc, ∃ C : Addr, mg c = some (.ref C) ∧ PySem.W.excIn K C [.type "ValueError", .type "Exception", .type "BaseException", .type "object"] "ValueError.__new__" = true ∧ PySem.W.keepIn K (.ref C) = true ∧
    PySem.W.subIn K (.ref C) (.type "BaseException") = some true ∧ PySem.W.typeIn K (.ref C) = some (.type "type")
  exm : ∀ x c vx vc, x ∈ G.exc → c ∈ G.exc → mg x = some vx → mg c = some vc → PySem.W.exmOne K vx vc = some (G.sub x c)
section
variable {P : Program} {w : World} {K : PySem.W.Frag} {mg : Str → Option Value} {base : Heap} {G : Ge} {k : Nat} {N ps : List Str} {scope : Scope}
theorem okS_of (M : ModOk G k P w K mg base) (S : FnScope N ps scope) {qual : Str} {f : Addr} {cdv : Value} {A : Around} {outer : List Env} {s : Shared} {H : Hp} {E : XK} (hg : A.guards = some []) (hr : Room k (A.deeper (envOfC qual scope s.heap.objs.size f cdv))) :
    OkS G N k scope (cxOf (L2.CX P w) P w K mg base N qual scope f cdv A outer s H E) where
  hN := rfl
  nd := S.nd
  hsc := Sees.of rfl S.kind fun _ _ => rfl
  calm := rfl
  room := hr
  grd := hg
  cal := fun c h => ⟨M.cal c h⟩
  con := M.con
  blt := M.blt
  exo := fun c h => ⟨M.exo c h⟩
  exm := M.exm
  scp := rfl
  pas := passes_of (K := fun e s'' => L2.CX P w outer H s E e s'') (E₁ := fun e s'' => L2.CX P w outer H s E e s'') rfl
  stk := rfl
  frm := rfl
theorem takes_cx {qual : Str} {f : Addr} {cdv : Value} {A : Around} {outer : List Env} {s : Shared} {H : Hp} {E : XK} : Takes (cxOf (L2.CX P w) P w K mg base N qual scope f cdv A outer s H E) fun c d _ H => E c d H :=
  takes_of rfl rfl rfl (E₁ := fun e s'' => L2.CX P w outer H s E e s'') rfl

/-! ### the slots at the start -/
theorem args_start {H F : Hp} : ∀ {vs : List V} {as : List Arg} {A : List Addr} (pre : List Addr), ArgsRep H F vs as A →
    (∀ (i : Nat) (sv : SV), (stR as pre.length)[i]? = some (some sv) → ∃ v, vs[i]? = some v ∧ SlotOk F (pre ++ A) v sv)
  | _, _, _, pre, .nil, i, sv, e => by simp [stR] at e
  | _, _, _, pre, .dat q r, 0, sv, e => by
    simp [stR] at e
    subst e
    exact ⟨_, rfl, q⟩
  | _, _, _, pre, .dat q r, i + 1, sv, e => args_start pre r i sv (by simpa [stR] using e)
  | _, _, _, pre, .own (a := a) h1 h2 h3 h4 r, 0, sv, e => by
    simp [stR] at e
    subst e
    exact ⟨_, rfl, a, by simp, rfl⟩
  | _, _, _, pre, .own (a := a) (A := A) h1 h2 h3 h4 r, i + 1, sv, e => by
    obtain ⟨v, q1, q2⟩ := args_start (pre ++ [a]) r i sv (by simpa [stR] using e)
    refine ⟨v, by simpa using q1, ?_⟩
    rw [List.append_assoc] at q2
    exact q2
theorem args_cells {H F : Hp} : ∀ {vs : List V} {as : List Arg} {A : List Addr}, ArgsRep H F vs as A → A.length = (stC as).length ∧ A.Nodup ∧ (stR as 0).length = vs.length ∧ as.length = vs.length ∧ ∀ (k : Nat) (a : Addr) (c : Cell), A[k]? = some a → (stC as)[k]? = some c → c.st = .arg ∧ CellOk H F a c
  | _, _, _, .nil => ⟨rfl, .nil, rfl, rfl, fun k a c h => by simp at h⟩
  | _, _, _, .dat q r => by
    obtain ⟨h1, h2, h3, h4, h5⟩ := args_cells r
    exact ⟨h1, h2, by simp [stR, h3], by simp [h4], h5⟩
  | _, _, _, .own (as := as) g1 g2 g3 g4 r => by
    obtain ⟨h1, h2, h3, h4, h5⟩ := args_cells r
    have sl : ∀ (as : List Arg) (n m : Nat), (stR as n).length = (stR as m).length := fun as => by
      induction as with
      | nil => intro n m; rfl
      | cons x xs ih =>
        intro n m
        cases x with
        | dat d => simp [stR, ih n m]
        | own d => simp [stR, ih (n + 1) (m + 1)]
    refine ⟨by simp [stC, h1], List.nodup_cons.mpr ⟨g4, h2⟩, ?_, by simp [h4], fun k a c e1 e2 => ?_⟩
    · show (stR as 1).length + 1 = _
      rw [sl as 1 0, h3]
      simp
    · cases k with
      | zero =>
        cases e1
        cases e2
        exact ⟨rfl, _, g1, g3, (fun z => nomatch z), fun _ => g2⟩
      | succ k => exact h5 k a c (by simpa using e1) (by simpa [stC] using e2)
theorem sat_start {H F : Hp} {vs : List V} {as : List Arg} {A : List Addr} {n : Nat} (s : Same F H) (r : ArgsRep H F vs as A) (hn : N.length = n) : Sat (stR as 0 ++ List.replicate (n - as.length) none) (stC as) (L2.start N vs) H F A where
  sub := s
  len := (args_cells r).1
  nod := (args_cells r).2.1
  cell := fun k a c h1 h2 => ((args_cells r).2.2.2.2 k a c h1 h2).2
  slen := by
    obtain ⟨_, _, h3, h4, _⟩ := args_cells r
    unfold L2.start
    simp [h3, h4, hn]
  slot := fun i sv e => by
    obtain ⟨_, _, h3, h4, _⟩ := args_cells r
    by_cases hi : i < (stR as 0).length
    · rw [List.getElem?_append_left hi] at e
      obtain ⟨v, q1, q2⟩ := args_start [] r i sv e
      refine ⟨v, ?_, q2⟩
      unfold L2.start
      rw [List.getElem?_append_left (by rw [List.length_map, ← h3]; exact hi), List.getElem?_map, q1]
      rfl
    · rw [List.getElem?_append_right (by omega)] at e
      have := List.mem_of_getElem? e
      have := List.eq_of_mem_replicate this
      cases this
/-! ### the end of a def -/
theorem backs_of {H F : Hp} : ∀ {A : List Addr} {μ : List Cell}, A.length = μ.length → (∀ (k : Nat) (a : Addr) (c : Cell), A[k]? = some a → μ[k]? = some c → c.st ≠ .froz ∧ CellOk H F a c) → Backs H F A (μ.map (·.ds))
  | [], [], _, _ => .nil
  | [], _ :: _, l, _ => by simp at l
  | _ :: _, [], l, _ => by simp at l
  | a :: A, c :: μ, l, h => by
    obtain ⟨st, vs, h1, h2, h3, h4⟩ := h 0 a c rfl rfl
    exact .cons h1 (h4 st) h2 (backs_of (Nat.succ.inj l) fun k a' c' e1 e2 => h (k + 1) a' c' (by simpa using e1) (by simpa using e2))
theorem backs_end {ρ : Rho} {μ : List Cell} {σ : St} {H F H0 : Hp} {ι A : List Addr} {n : Nat} (S : Sat ρ μ σ H F ι) (g : Grow A ι H0) (hn : A.length = n) (st : argsSt n μ = true) : Backs H F A (outC n μ) := by
  obtain ⟨t, rfl, _⟩ := g
  have hl : n ≤ μ.length := by
    rw [← S.len, List.length_append]
    omega
  refine backs_of (by rw [List.length_take]; omega) fun k a c e1 e2 => ?_
  have hk : k < A.length := (List.getElem?_eq_some_iff.mp e1).1
  have e2' : μ[k]? = some c := by
    rw [List.getElem?_take] at e2
    rw [if_pos (by omega)] at e2
    exact e2
  refine ⟨of_decide_eq_true (List.all_eq_true.mp st c (List.mem_of_getElem? e2)), S.cell k a c (by rw [List.getElem?_append_left hk]; exact e1) e2'⟩
theorem retV_own {n k : Nat} {μ : List Cell} {rv : Rv} (h : retV n μ (.own k) = some rv) : ¬k < n ∧ ∃ c, μ[k]? = some c ∧ ((c.st = .live ∧ rv = .fre c.ds) ∨ (c.st = .froz ∧ rv = .dat (.list c.ds))) := by
  replace h : (if k < n then none else match μ[k]? with
    | some c => (match c.st with
      | .live => some (Rv.fre c.ds)
      | .froz => some (Rv.dat (.list c.ds))
      | .arg => none)
    | none => none) = some rv := h
  by_cases hk : k < n
  · rw [if_pos hk] at h
    cases h
  · rw [if_neg hk] at h
    refine ⟨hk, ?_⟩
    cases e : μ[k]? with
    | none =>
      rw [e] at h
      cases h
    | some c =>
      rw [e] at h
      obtain ⟨st, ds⟩ := c
      cases st with
      | live =>
        cases h
        exact ⟨_, rfl, .inl ⟨rfl, rfl⟩⟩
      | froz =>
        cases h
        exact ⟨_, rfl, .inr ⟨rfl, rfl⟩⟩
      | arg => cases h
theorem out_after {mg : Str → Option Value} {F H : Hp} {A : List Addr} {o : Out} {Q : VK} {E : XK} {n : Nat} {r : RS} (post : OutPost mg F H A o Q E) (hA : ∀ a ∈ A, ∃ vs, H a = some (.lst vs)) (hn : A.length = n) (e : outOf n r = some o) :
    AftS mg (fun c d _ H => E c d H) A F H { nx := fun _ H' => Q .non H', rt := Q } r := by
  cases r with
  | nx ρ μ =>
    replace e : (if argsSt n μ = true then some (Out.ret (.dat .none) (outC n μ)) else none) = some o := e
    split at e
    · rename_i st
      cases e
      exact fun σ ι F1 H1 x1 g1 S1 => post .non F1 H1 x1 S1.sub (backs_end S1 g1 hn st) .non
    · cases e
  | exc x ρ μ =>
    replace e : (if argsSt n μ = true then some (Out.exc x (outC n μ)) else none) = some o := e
    split at e
    · rename_i st
      cases e
      exact fun c d σ ι F1 H1 x1 g1 S1 xr => post c d F1 H1 x1 S1.sub (backs_end S1 g1 hn st) xr
    · cases e
  | rt v μ =>
    replace e : (if argsSt n μ = true then (retV n μ v).map (fun r => Out.ret r (outC n μ)) else none) = some o := e
    split at e
    · rename_i st
      intro x ρ σ ι F1 H1 x1 g1 S1 vr nv
      have bk := backs_end S1 g1 hn st
      cases v with
      | dat d =>
        cases e
        exact post x F1 H1 x1 S1.sub bk vr
      | fre ds =>
        cases e
        obtain ⟨p, vs, rfl, h1, h2, h3, h4⟩ := vr
        obtain ⟨t, rfl, _⟩ := g1
        exact post _ F1 H1 x1 S1.sub bk ⟨p, vs, rfl, nv _ rfl, h1, h2, fun m => h3 (List.mem_append_left _ m), h4⟩
      | own k =>
        obtain ⟨a, h1, rfl⟩ := vr
        cases er : retV n μ (.own k) with
        | none =>
          rw [er] at e
          cases e
        | some rv =>
          rw [er] at e
          cases e
          obtain ⟨hk, c, ec, he⟩ := retV_own er
          obtain ⟨t, rfl, gt⟩ := g1
          rw [List.getElem?_append_right (by omega)] at h1
          have nA : H a = none := gt a (List.mem_of_getElem? h1)
          have nm : a ∉ A := fun m => by
            obtain ⟨vs, q⟩ := hA a m
            rw [nA] at q
            cases q
          obtain ⟨vs, q1, q2, q3, q4⟩ := S1.cell k a c (by rw [List.getElem?_append_right (by omega)]; exact h1) ec
          rcases he with ⟨es, rfl⟩ | ⟨es, rfl⟩
          · exact post _ F1 H1 x1 S1.sub bk ⟨a, vs, rfl, nA, q1, q4 (by rw [es]; exact fun z => nomatch z), nm, q2⟩
          · exact post _ F1 H1 x1 S1.sub bk (.lst (L2.Rd.of (q3 es)) q2)
    · cases e
  | _ => cases e
/-- THE RULE: a def by its text -/
theorem gfn_of {f : Addr} {name qual : Str} {params : Arguments} {body : List Stmt} {dV kV doc pm cdv ct oc : Value} {an od : Option Addr} {osl : Array (Option Value)} {b : IR}
    (lk : K.lookup f = some ⟨oc, od, .func (PySem.W.fnOf name qual params body scope dV kV doc pm an cdv ct), osl⟩) (hcd : PySem.W.codeIn K cdv qual = true) (S : FnScope N ps scope) (M : ModOk G k P w K mg base) (hm : (mt G N b).ss scope body = true) {n : Nat} (hn : N.length = n) :
    GFn P w K mg base (k + 1) f (PySem.W.fnOf name qual params body scope dV kV doc pm an cdv ct) ps (spOf mg (semOf G b n)) := by
  refine ⟨fun A outer s H args us vs Q E hg hr e0 hb r hsp hl => ?_⟩
  have hK : K.In s.heap := e0.mod.kin.keeps fun a o z => (e0.bs a o z).1
  have hkinds : ∀ y ∈ ps.zip us, scope.names.lookup y.1 = some .local ∨ (scope.names.lookup y.1 = some .cell ∧ ((cellsFrom (s.heap.objs.size + 1) scope.names []).lookup y.1).isSome = true) := by
    rintro ⟨a, b⟩ hy
    exact (S.par a (List.of_mem_zip hy).1).imp id fun z => ⟨z, PySem.W.cellsFrom_some _ _ _ (.inl z)⟩
  refine codeAny_call_function hr.depth (hK _ _ lk) rfl S.co S.gen rfl (PySem.W.codeRec_of hK hcd) (hb _ _ _ _ (wpAny_newFunctionEnv_cells S.kind hkinds fun env he s1 x => ?_))
  subst he
  refine ⟨(e0.mod.nolimit.keeps fun a o z => (e0.bs a o z).1).keeps x.toInCall.keep, codeAny_func ?_⟩
  obtain ⟨F, as, Ad, o, sF, ar, eo, post⟩ := hsp
  have st : Inv (cxOf (L2.CX P w) P w K mg base N qual scope f cdv A outer s H E) [] (L2.start N vs) H s1 := inv_start S hr.hd e0 hl r x
  have ok := okS_of M S (qual := qual) (f := f) (cdv := cdv) (outer := outer) (s := s) (H := H) (E := E) hg (hr.deeper _)
  have hA : ∀ a ∈ Ad, ∃ vs, H a = some (.lst vs) := fun a ha => (sat_start sF ar hn).inH ha
  have go := ((ok_ir (G := G) (N := N) (k := k) b).ss.ss ok takes_cx hm).run [] s1 (L2.start N vs) H { nx := fun _ H' => Q .non H', rt := Q } st ⟨_, _, F, Ad, sat_start sF ar hn, out_after post hA (args_cells ar).1 eo⟩
  refine wpAny_mono go (fun fl s' hs => ?_) fun e s' hs => hs
  match fl, hs with
  | .ret u, ⟨v, σ', H', J, rv, q⟩ => exact ⟨v, H', J.os, J.bare, J.base, J.hok, rv, q⟩
  | .next, ⟨σ', H', J, q⟩ => exact ⟨.non, H', J.os, J.bare, J.base, J.hok, rfl, q⟩
  | .brk, ⟨_, _, _, q⟩ => exact q.elim
  | .cont, ⟨_, _, _, q⟩ => exact q.elim
end
end DL

set_option maxHeartbeats 2000000
/-! DL24: the law's end. -/
namespace DL
open PySem PySem.Spec PyProof.Rows L2
/-- no list stands in it -/
def noLst (K : PySem.W.Frag) : Bool := K.all fun p => match p.2.cls with
  | .type c => !(c == "list")
  | _ => true
theorem noLst_ok {K : PySem.W.Frag} (h : noLst K = true) {a : Addr} {o : Obj} (e : K.lookup a = some o) : o.cls ≠ .type "list" := fun z => by
  have := List.all_eq_true.mp h (a, o) (He.lookup_mem e)
  dsimp only at this
  rw [z] at this
  revert this
  decide
abbrev AlN : Type := Bool × He.AlD
def obsN (n : Nat) (fa : List He.Fa) (fn : List He.DefD) (g : Addr → Option Obj) : AlN := (noLst (He.frG g (He.asD g n)), He.obsD fa fn (He.frG g (He.asD g n)))
def hookN (n : Nat) (fa : List He.Fa) (fn : List He.DefD) : PySem.W.Hook where
  α := AlN
  obs := fun s => obsN n fa fn s.heap.get?
  val := fun _ => (true, He.valD fn)
  says := fun _ h => ∃ K : PySem.W.Frag, K.In h ∧ noLst K = true ∧ He.SaysD fa fn K
  of := fun _ _ e => ⟨_, He.frG_in, congrArg Prod.fst e, congrArg Prod.snd e⟩
  keeps := fun _ _ _ ⟨K, hK, c⟩ k => ⟨K, PySem.W.Frag.In.keeps hK k, c⟩
theorem obsN_eq {n : Nat} {fa : List He.Fa} {fn : List He.DefD} {g : Addr → Option Obj} {s : Shared} (h : ∀ a, g a = s.heap.get? a) : obsN n fa fn g = (hookN n fa fn).obs s := by
  have e : g = s.heap.get? := funext h
  rw [e]
  rfl
/-- a law that answers True on every script -/
theorem law_callG {P : Program} {w : World} {K : PySem.W.Frag} {mg mb : Str → Option Value} {k : Nat} {fa a : Addr} {fd : FuncData} {x : Str} {f : Fn} {s₁ : Shared} {vs : List Value} {ns : List Int}
    (KX : K.In s₁.heap) (nl : noLst K = true) (hns : s₁.heap.Ns mainGlobals mg) (hb : s₁.heap.Ns builtinsNs mb) (hbb : ∀ x : Str, x ≠ "__name__" → mb x = bootBuiltins x) (hlim : s₁.heap.NoLimit) (hg : s₁.gens = #[])
    (ha : s₁.heap.get? a = some { cls := .type "list", data := .seq vs.toArray }) (hi : IntsAre vs ns) (hl : ns.length ≤ sizeLine) (hr : Room k callerA)
    (Fk : ∀ base : Heap, K.In base → base.Ns mainGlobals mg → GFn P w K mg base k fa fd [x] (spOf mg f)) (hbind : ∀ (s : Shared) (u : Value), BindsTo s fd ⟨[u], []⟩ [(x, u)])
    (due : f [.dat (.list (ns.map PyData.int))] = some (.ret (.dat (.bool true)) [])) :
    codeAny (model P w) callerA (.call (.ref fa) ⟨[.ref a], []⟩) (fun r s' => r = .ok (.ret (.bool true)) ∧ OldK s₁.heap s'.heap ∧ s'.os = s₁.os ∧ AllBare s'.gens) s₁ := by
  let ob : Obj := { cls := .type "list", data := .seq vs.toArray }
  let H : Hp := fun b => if b = a then some (.frz ob (.lst (ns.map V.int))) else none
  have Hat : H a = some (.frz ob (.lst (ns.map V.int))) := if_pos rfl
  have Hne : ∀ {b : Addr}, b ≠ a → H b = none := fun hb => if_neg hb
  have only : ∀ {b : Addr} {u : HO}, H b = some u → b = a ∧ u = .frz ob (.lst (ns.map V.int)) := fun {b u} e => by
    by_cases hb : b = a
    · subst hb
      rw [Hat] at e
      exact ⟨rfl, (Option.some.inj e).symm⟩
    · rw [Hne hb] at e
      cases e
  have vals : Vals (ns.map V.int) vs := vals_ints hi
  have hok : HOk P w H s₁.heap := fun b u e => by
    obtain ⟨rfl, rfl⟩ := only e
    exact ⟨ha, by rw [List.length_map]; exact hl, vs, _, vals, ha⟩
  have hid : ∀ {b : Addr} {o : Obj}, s₁.heap.get? b = some o → b ≠ a → (hidT s₁.heap H).get? b = some o := fun e hb => hidT_get e (Hne hb)
  have dictNe : ∀ {b : Addr} {o : Obj} {es : Array DictEntry} {ep : Nat}, s₁.heap.get? b = some o → o.data = .dict es ep → b ≠ a := fun {b o es ep} e d z => by
    rw [z, ha] at e
    rw [← Option.some.inj e] at d
    exact nomatch d
  have nsT : ∀ {b : Addr} {m : Str → Option Value}, s₁.heap.Ns b m → (hidT s₁.heap H).Ns b m := fun ⟨o, es, ep, e, d, r⟩ => ⟨o, es, ep, hid e (dictNe e d), d, r⟩
  have KI : K.In (hidT s₁.heap H) := fun b o e => hid (KX b o e) fun z => by
    have q := KX b o e
    rw [z, ha] at q
    exact noLst_ok nl e (by rw [← Option.some.inj q])
  obtain ⟨mc, lim1, lim2⟩ := hlim
  have md : Mod K mg (hidT s₁.heap H) := ⟨KI, nsT hns, ⟨mb, nsT hb, hbb⟩, mc, nsT lim1, lim2⟩
  have e0 : Env0 P w K mg (hidT s₁.heap H) callerA [] s₁ H := ⟨rfl, md, fun b o e => of_hidT e, Nat.le_of_eq (hidT_size _ _), trivial, (fun b hb => nomatch hb), hok, .of_eq hg⟩
  have dts : ∀ (l : List Int) (F : Hp), DtAll F (l.map V.int) (l.map PyData.int) := fun l F => by
    induction l with
    | nil => exact .nil
    | cons i l ih => exact .cons (.int i) ih
  have sp : spOf mg f [.ref a] H (fun v _ => v = .bl true) fun _ _ _ => False := by
    refine ⟨H, _, [], _, Same.refl H, .dat (.lst (.inr ⟨ob, Hat⟩) (dts ns H)) .nil, due, fun v F' H' _ _ _ q => ?_⟩
    cases q
    rfl
  refine codeAny_mono ((Fk _ KI (nsT hns)).run callerA [] s₁ H ⟨[.ref a], []⟩ [.ref a] [.ref a] _ _ rfl hr e0 (hbind s₁ (.ref a)) (.cons rfl .nil) sp rfl) fun r s' h => ?_
  match r, h with
  | .error e, ⟨_, _, _, _, _, _, _, _, _, _, _, _, q⟩ => exact q.elim
  | .ok .next, h => exact h.elim
  | .ok .brk, h => exact h.elim
  | .ok .cont, h => exact h.elim
  | .ok (.ret u), ⟨v, H', os, bare, un, hok', rr, q⟩ =>
    have q' : v = .bl true := q
    subst q'
    obtain rfl : u = Value.bool true := rr
    refine ⟨rfl, OldK.of_keep fun b o e => ?_, os, bare⟩
    by_cases hb : b = a
    · subst hb
      obtain ⟨z1, _⟩ := hok' b _ (un.frzs b ob _ Hat)
      rw [ha] at e
      rw [← Option.some.inj e]
      exact z1
    · exact un.keep b o e (Hne hb) (fun z => nomatch z) (by simp)
end DL

set_option maxHeartbeats 2000000
/-! DL25: a module's defs, one after the other. -/
namespace DL
open PySem PySem.Spec PyProof.Rows L2
def subT (ps : List (Str × Str)) (x c : Str) : Bool := ps.contains (x, c)
/-- the facts that a module's names ask for -/
def faOf (defs : List Str) (con : List (Str × Int)) (exc : List Str) (sub : Str → Str → Bool) : List He.Fa :=
  defs.map .glo ++ (con.map (fun p => .int p.1 p.2) ++ (bltNames.map .free ++ (exc.map .glo ++ (exc.map .exc ++ exc.flatMap fun x => exc.map fun c => .exm x c (sub x c)))))
/-- a def's place, by its text -/
def dfn (x : Str) (st : Stmt) : He.DefD := ⟨(x, none), x, x, defArgs st, defBody st, defScope st, [], []⟩
section
variable {P : Program} {w : World} {K : PySem.W.Frag} {mg : Str → Option Value} {base : Heap} {k : Nat}
abbrev CalM (k : Nat) (P : Program) (w : World) (K : PySem.W.Frag) (mg : Str → Option Value) (base : Heap) (c : Ce) : Prop :=
  ∃ (f : Addr) (fd : FuncData) (ps : List Str), GFn P w K mg base k f fd ps (spOf mg c.sem) ∧ ps.length = c.arity ∧ mg c.name = some (.ref f) ∧ PySem.W.keepIn K (.ref f) = true ∧ Binds K fd ps []
/-- the defs so far -/
def CalsM (k : Nat) (P : Program) (w : World) (K : PySem.W.Frag) (mg : Str → Option Value) (base : Heap) (cs : List Ce) : Prop := ∀ c ∈ cs, CalM k P w K mg base c
theorem CalsM.nil : CalsM 0 P w K mg base [] := fun _ h => nomatch h
theorem CalsM.mono {cs : List Ce} {j : Nat} (h : CalsM j P w K mg base cs) (l : j ≤ k) : CalsM k P w K mg base cs := fun c hc => by
  obtain ⟨f, fd, ps, g, r⟩ := h c hc
  exact ⟨f, fd, ps, g.mono l, r⟩
/-- what the head says of a module -/
structure Says (defs : List Str) (con : List (Str × Int)) (exc : List Str) (sub : Str → Str → Bool) (fn : List He.DefD) (K : PySem.W.Frag) (h : Heap) (mg : Str → Option Value) : Prop where
  X : K.In h
  G : h.Ns mainGlobals mg
  c : He.SaysD (faOf defs con exc sub) fn K
variable {defs : List Str} {con : List (Str × Int)} {exc : List Str} {sub : Str → Str → Bool} {fn : List He.DefD} {h : Heap}
theorem Says.mod (s : Says defs con exc sub fn K h mg) {cs : List Ce} (cals : CalsM k P w K mg base cs) : ModOk ⟨cs, con, exc, sub⟩ k P w K mg base where
  cal := cals
  con := fun x i m => He.int_ok s.X s.G (s.c.facts (f := .int x i) (by
    unfold faOf
    simp only [List.mem_append, List.mem_map]
    exact .inr (.inl ⟨(x, i), m, rfl⟩)))
  blt := fun x m => He.free_ok s.X s.G (s.c.facts (f := .free x) (by
    unfold faOf
    simp only [List.mem_append, List.mem_map]
    exact .inr (.inr (.inl ⟨x, m, rfl⟩))))
  exo := fun x m => ⟨He.ga K x, He.glo_ok s.X s.G (s.c.facts (f := .glo x) (by
    unfold faOf
    simp only [List.mem_append, List.mem_map]
    exact .inr (.inr (.inr (.inl ⟨x, m, rfl⟩))))), He.exc_ok (s.c.facts (f := .exc x) (by
    unfold faOf
    simp only [List.mem_append, List.mem_map]
    exact .inr (.inr (.inr (.inr (.inl ⟨x, m, rfl⟩))))))⟩
  exm := fun x c vx vc mx mc ex ec => by
    have g : ∀ y ∈ exc, mg y = some (.ref (He.ga K y)) := fun y my => He.glo_ok s.X s.G (s.c.facts (f := .glo y) (by
      unfold faOf
      simp only [List.mem_append, List.mem_map]
      exact .inr (.inr (.inr (.inl ⟨y, my, rfl⟩)))))
    rw [g x mx] at ex
    rw [g c mc] at ec
    cases ex
    cases ec
    exact He.exm_ok (s.c.facts (f := .exm x c (sub x c)) (by
      unfold faOf
      simp only [List.mem_append, List.mem_flatMap, List.mem_map]
      exact .inr (.inr (.inr (.inr (.inr ⟨x, mx, c, mc, rfl⟩))))))
theorem Says.def_ (s : Says defs con exc sub fn K h mg) {x : Str} {st : Stmt} (m : dfn x st ∈ fn) (mx : x ∈ defs) :
    ∃ f fd, FunD K x x (defArgs st) (defBody st) (defScope st) [] [] f fd ∧ mg x = some (.ref f) := by
  obtain ⟨fd, F⟩ := s.c.defs m
  refine ⟨_, fd, F, ?_⟩
  exact He.glo_ok s.X s.G (s.c.facts (f := .glo x) (by
    unfold faOf
    simp only [List.mem_append, List.mem_map]
    exact .inl ⟨x, mx, rfl⟩))
/-- how a def binds its arguments -/
def BindOk (x : Str) (st : Stmt) (ps : List Str) : Prop := ∀ (kV doc pm : Value) (an : Option Addr) (cdv ct : Value) (us : List Value), us.length = ps.length → bindArgs (PySem.W.fnOf x x (defArgs st) (defBody st) (defScope st) .none kV doc pm an cdv ct) ⟨us, []⟩ = pure (ps.zip us)
/-- one more def -/
theorem Says.step (s : Says defs con exc sub fn K h mg) {cs : List Ce} (cals : CalsM k P w K mg base cs) {x : Str} {st : Stmt} {N ps : List Str} {b : IR} {n a : Nat} (m : dfn x st ∈ fn) (mx : x ∈ defs) (bd : BindOk x st ps) (sc : C8.scC N ps (defScope st) = true)
    (hm : (mt ⟨cs, con, exc, sub⟩ N b).ss (defScope st) (defBody st) = true) (hn : N.length = n) (hp : ps.length = a) : CalM (k + 1) P w K mg base ⟨x, a, semOf ⟨cs, con, exc, sub⟩ b n⟩ := by
  obtain ⟨f, fd, F, gx⟩ := s.def_ m mx
  have bs := F.bindsN bd
  obtain ⟨oc, od, dV, kV, doc, pm, an, cdv, ct, osl, rfl, lk, hcd, _, _⟩ := F.ex
  exact ⟨f, _, ps, gfn_of lk hcd (C8.fnScope_by sc) (s.mod cals) hm hn, hp, gx, F.kp, bs⟩
theorem CalsM.cons {cs : List Ce} {c : Ce} (h : CalsM k P w K mg base cs) (g : CalM (k + 1) P w K mg base c) : CalsM (k + 1) P w K mg base (cs ++ [c]) := fun d hd => by
  rcases List.mem_append.mp hd with z | z
  · exact (h.mono (Nat.le_succ k)) d z
  · rw [List.mem_singleton.mp z]
    exact g
/-- a def that calls itself, m deep -/
noncomputable def recF (cs : List Ce) (con : List (Str × Int)) (exc : List Str) (sub : Str → Str → Bool) (x : Str) (a : Nat) (b : IR) (n : Nat) : Nat → Fn
  | 0 => fun _ => none
  | m + 1 => semOf ⟨cs ++ [⟨x, a, recF cs con exc sub x a b n m⟩], con, exc, sub⟩ b n
theorem Says.stepR (s : Says defs con exc sub fn K h mg) {cs : List Ce} (cals : CalsM k P w K mg base cs) {x : Str} {st : Stmt} {N ps : List Str} {b : IR} {n a : Nat} (m : dfn x st ∈ fn) (mx : x ∈ defs) (bd : BindOk x st ps) (sc : C8.scC N ps (defScope st) = true)
    (hm : ∀ f : Fn, (mt ⟨cs ++ [⟨x, a, f⟩], con, exc, sub⟩ N b).ss (defScope st) (defBody st) = true) (hn : N.length = n) (hp : ps.length = a) : ∀ j : Nat, CalM (k + j) P w K mg base ⟨x, a, recF cs con exc sub x a b n j⟩
  | 0 => by
    obtain ⟨f, fd, F, gx⟩ := s.def_ m mx
    have bs := F.bindsN bd
    refine ⟨f, fd, ps, ⟨fun A outer sh H args us vs Q E hg hr e0 hb r hsp hl => ?_⟩, hp, gx, F.kp, bs⟩
    obtain ⟨_, _, _, _, _, _, z, _⟩ := hsp
    cases z
  | j + 1 => by
    have ih := Says.stepR s cals m mx bd sc hm hn hp j
    have cals' : CalsM (k + j) P w K mg base (cs ++ [⟨x, a, recF cs con exc sub x a b n j⟩]) := fun d hd => by
      rcases List.mem_append.mp hd with z | z
      · exact (cals.mono (Nat.le_add_right k j)) d z
      · rw [List.mem_singleton.mp z]
        exact ih
    exact s.step cals' m mx bd sc (hm _) hn hp
theorem CalsM.consR {cs : List Ce} {c : Ce} {j : Nat} (h : CalsM k P w K mg base cs) (g : CalM (k + j) P w K mg base c) : CalsM (k + j) P w K mg base (cs ++ [c]) := fun d hd => by
  rcases List.mem_append.mp hd with z | z
  · exact (h.mono (Nat.le_add_right k j)) d z
  · rw [List.mem_singleton.mp z]
    exact g
end
/-- the law's own def -/
theorem Says.lawG {P : Program} {w : World} {K : PySem.W.Frag} {mg : Str → Option Value} {k : Nat} {defs : List Str} {con : List (Str × Int)} {exc : List Str} {sub : Str → Str → Bool} {fn : List He.DefD} {h : Heap} (s : Says defs con exc sub fn K h mg) {cs : List Ce} (cals : ∀ base : Heap, CalsM k P w K mg base cs) {x p : Str} {st : Stmt} {N : List Str} {b : IR} {n : Nat} (m : dfn x st ∈ fn) (mx : x ∈ defs)
    (bd : ∀ (kV doc pm : Value) (an : Option Addr) (cdv ct : Value) (u : Value), bindArgs (PySem.W.fnOf x x (defArgs st) (defBody st) (defScope st) .none kV doc pm an cdv ct) ⟨[u], []⟩ = pure [(p, u)]) (sc : C8.scC N [p] (defScope st) = true)
    (hm : (mt ⟨cs, con, exc, sub⟩ N b).ss (defScope st) (defBody st) = true) (hn : N.length = n) : ∀ fa : Addr, mg x = some (.ref fa) → ∃ fd : FuncData, (∀ (s : Shared) (u : Value), BindsTo s fd ⟨[u], []⟩ [(p, u)]) ∧ ∀ base : Heap, GFn P w K mg base (k + 1) fa fd [p] (spOf mg (semOf ⟨cs, con, exc, sub⟩ b n)) := fun fa e => by
  obtain ⟨f, fd, F, gx⟩ := s.def_ m mx
  rw [gx] at e
  cases e
  have bA := F.bindsA (ps := [p]) fun kV doc pm an cdv ct us hl => match us, hl with
    | [u], _ => bd kV doc pm an cdv ct u
  obtain ⟨oc, od, dV, kV, doc, pm, an, cdv, ct, osl, rfl, lk, hcd, _, _⟩ := F.ex
  exact ⟨_, fun s u => bA s [u] rfl, fun base => gfn_of lk hcd (C8.fnScope_by sc) (s.mod (cals base)) hm hn⟩
/-- a law: from the head's facts to the claim's walk -/
theorem walk_ofG {l : PySem.W.OpenLaw} {n k : Nat} {q : Program} {loose : List Str} {XP : (Str → Option Value) → Heap → Prop} {d : DefRec} {x : Str} {f : Fn} {defs : List Str} {con : List (Str × Int)} {exc : List Str} {sub : Str → Str → Bool} {fn : List He.DefD}
    (hn : l.most = some n) (hn2 : n ≤ sizeLine) (hdf : d.params.defaults = []) (hr : Room k callerA)
    (due : ∀ ns : List Int, ns.length ≤ n → (∀ z ∈ ns, Builtin.Int.intBits z ≤ 1048576) → f [.dat (.list (ns.map PyData.int))] = some (.ret (.dat (.bool true)) []))
    (hx : ∀ (w : World) (mg : Str → Option Value) (K : PySem.W.Frag) (h : Heap), Says defs con exc sub fn K h mg → ∀ fa : Addr, mg d.name = some (.ref fa) → ∃ fd : FuncData, (∀ (s : Shared) (u : Value), BindsTo s fd ⟨[u], []⟩ [(x, u)]) ∧ ∀ base : Heap, GFn l.prog w K mg base k fa fd [x] (spOf mg f)) :
    PySem.W.WalkO q loose XP (fun _ h => ∃ K : PySem.W.Frag, K.In h ∧ noLst K = true ∧ He.SaysD (faOf defs con exc sub) fn K) l.row.toRowW d [] (fun f vs => PySem.call f vs) := by
  refine Att.attach_callB hn hdf fun w s₀ s₁ mg mb fa o pm cd doc a vs ns G Y ho hd hcd hmg hobj hints hlen hbits hg => ?_
  obtain ⟨K, KX, nl, c⟩ := Y
  obtain ⟨fd, hb, hF⟩ := hx w mg K _ ⟨KX, G.T.g, c⟩ fa hmg
  exact law_callG KX nl G.T.g G.T.b G.T.builtins G.T.nolimit hg hobj hints (Nat.le_trans hlen hn2) hr (fun base _ _ => hF base) hb (due ns hlen hbits)
end DL

set_option maxHeartbeats 2000000
/-! DL26: what a text does, step by step. -/
namespace DL
open PySem PySem.Spec PyProof.Rows L2
section
variable {G : Ge} {ρ : Rho} {μ μ' : List Cell} {x y z : IR} {i j k : Nat} {α β : Type}
theorem b_ok {a : α} {f : α → List Cell → R β} : (R.ok a μ).bind f = f a μ := rfl
theorem b_exc {a : Exn} {f : α → List Cell → R β} : (R.exc a μ).bind f = .exc a μ := rfl
theorem st_ok {a : α} {f : α → List Cell → RS} : (R.ok a μ).st ρ f = f a μ := rfl
theorem st_exc {a : Exn} {f : α → List Cell → RS} : (R.exc a μ).st ρ f = .exc a ρ μ := rfl
theorem sq_nx {f : Rho → List Cell → RS} : (RS.nx ρ μ).seq f = f ρ μ := rfl
theorem sq_rt {v : SV} {f : Rho → List Cell → RS} : (RS.rt v μ).seq f = .rt v μ := rfl
theorem sq_bk {f : Rho → List Cell → RS} : (RS.bk ρ μ).seq f = .bk ρ μ := rfl
theorem sq_ct {f : Rho → List Cell → RS} : (RS.ct ρ μ).seq f = .ct ρ μ := rfl
theorem sq_exc {e : Exn} {f : Rho → List Cell → RS} : (RS.exc e ρ μ).seq f = .exc e ρ μ := rfl
theorem of_some {a : α} : R.of (some a) μ = .ok a μ := rfl
theorem nox_ok {a : α} : (R.ok a μ).noX = .ok a μ := rfl
theorem lk_dat {d : D} : look1 (.dat d) μ = .ok d μ := rfl
theorem lk_fre {ds : List D} : look1 (.fre ds) μ = .ok (.list ds) μ := rfl
theorem lk_own {c : Cell} (h : μ[k]? = some c) : look1 (.own k) μ = .ok (.list c.ds) μ := by
  simp [look1, SV.look, h, R.of]
theorem kp_dat {d : D} : (SV.dat d).keep μ = .ok d μ := rfl
theorem kp_fre {ds : List D} : (SV.fre ds).keep μ = .ok (.list ds) μ := rfl
theorem asB_b {b : Bool} : asB (.dat (.bool b)) μ = .ok b μ := rfl
theorem asI_i {n : Int} : asI (.dat (.int n)) μ = .ok n μ := rfl
theorem dB_ {b : Bool} : dB b μ = .ok (.dat (.bool b)) μ := rfl
theorem tR {t : Rho → List Cell → R SV} : testR t ρ μ = (t ρ μ).bind asB := rfl
-- statements
theorem s_nil : (den G .nil).s ρ μ = .nx ρ μ := rfl
theorem s_cons : (den G (.cons x y)).s ρ μ = ((den G x).s ρ μ).seq (den G y).s := rfl
theorem s_pass : (den G .pass).s ρ μ = .nx ρ μ := rfl
theorem s_ret : (den G (.ret x)).s ρ μ = ((den G x).e ρ μ).st ρ fun v μ1 => .rt v μ1 := rfl
theorem s_xpr : (den G (.xpr x)).s ρ μ = ((den G x).e ρ μ).st ρ fun _ μ1 => .nx ρ μ1 := rfl
theorem s_set : (den G (.set i x)).s ρ μ = ((den G x).e ρ μ).st ρ fun v μ1 => .nx (ρ.set i (some (keepA v))) μ1 := rfl
theorem s_setO : (den G (.setO i x)).s ρ μ = (((den G x).e ρ μ).bind (toName true)).st ρ fun v μ1 => .nx (ρ.set i (some v)) μ1 := rfl
theorem s_par {ts : List (Nat × Bool)} : (den G (.par ts x)).s ρ μ = ((den G x).b ρ μ).st ρ fun vs μ1 => parN (ts.map (·.2)) vs μ1 ρ fun ws μ2 => match sets (ts.map (·.1)) ws ρ with
      | some ρ' => .nx ρ' μ2
      | none => .stuck := rfl
theorem s_unp {tg : Tg} : (den G (.unp tg x)).s ρ μ = (((den G x).e ρ μ).bind fun v μ1 => v.keep μ1).st ρ fun d μ1 => match tg.f.one d ρ with
      | some ρ' => .nx ρ' μ1
      | none => .stuck := rfl
theorem s_sti : (den G (.sti i x y)).s ρ μ = (((den G y).e ρ μ).bind fun v μ1 => (v.keep μ1).bind fun d μ2 => (slot ρ i μ2).bind fun w μ3 => ((den G x).e ρ μ3).bind fun u μ4 => (asI u μ4).bind fun n μ5 => stiV n d w μ5).st ρ fun r _ => .nx ρ r := rfl
theorem s_app (h : ownS ρ i = some k) : (den G (.app i x)).s ρ μ = (((den G x).e ρ μ).bind fun v μ1 => (v.keep μ1).bind fun d μ2 => R.of (appR k d μ2) μ2).st ρ fun r _ => .nx ρ r := by
  show (match ownS ρ i with
      | some k => (((den G x).e ρ μ).bind fun v μ1 => (v.keep μ1).bind fun d μ2 => R.of (appR k d μ2) μ2).st ρ fun r _ => .nx ρ r
      | none => .stuck) = _
  rw [h]
theorem s_ifs : (den G (.ifs x y z)).s ρ μ = (testR (den G x).e ρ μ).st ρ fun b μ1 => bif b then (den G y).s ρ μ1 else (den G z).s ρ μ1 := by
  show ((testR (den G x).e ρ μ).st ρ fun b μ1 => match b with
    | true => (den G y).s ρ μ1
    | false => (den G z).s ρ μ1) = _
  refine congrArg _ (funext fun b => funext fun μ1 => ?_)
  cases b <;> rfl
theorem s_fo {tg : Tg} : (den G (.fo tg x y)).s ρ μ = ((den G x).i ρ μ).st ρ fun ds μ1 => forR tg.f.one (den G y).s ds ρ μ1 := rfl
theorem s_rai {c m : Str} : (den G (.rai c m)).s ρ μ = .exc ⟨c, []⟩ ρ μ := rfl
-- expressions
theorem e_var : (den G (.var i)).e ρ μ = slot ρ i μ := rfl
theorem e_lit {d : D} : (den G (.lit d)).e ρ μ = .ok (.dat d) μ := rfl
theorem e_dct : (den G .dct).e ρ μ = .ok (.dat (.dict [])) μ := rfl
theorem e_glb {n : Str} {d : D} : (den G (.glb n d)).e ρ μ = .ok (.dat d) μ := rfl
theorem e_bin {o : Operator} : (den G (.bin o x y)).e ρ μ = ((den G x).e ρ μ).bind fun v μ1 => ((den G y).e ρ μ1).bind fun w μ2 => (look1 v μ2).bind fun a μ3 => (look1 w μ3).bind fun b μ4 => R.of (bin2 o a b) μ4 := rfl
theorem e_neg : (den G (.neg x)).e ρ μ = ((den G x).e ρ μ).bind fun v μ1 => (asI v μ1).bind fun i μ2 => .ok (.dat (.int (-i))) μ2 := rfl
theorem e_nt : (den G (.nt x)).e ρ μ = ((den G x).e ρ μ).bind fun v μ1 => (asB v μ1).bind fun c μ2 => dB (!c) μ2 := rfl
theorem e_cmp {o : CmpOp} : (den G (.cmp o x y)).e ρ μ = ((den G x).e ρ μ).bind fun v μ1 => ((den G y).e ρ μ1).bind fun w μ2 => (look1 v μ2).bind fun a μ3 => (look1 w μ3).bind fun b μ4 => (R.of (cmp2 o a b) μ4).bind dB := rfl
theorem e_chn {o o' : CmpOp} : (den G (.chn o o' x y z)).e ρ μ = ((den G x).e ρ μ).bind fun v μ1 => ((den G y).e ρ μ1).bind fun w μ2 => (look1 v μ2).bind fun a μ3 => (look1 w μ3).bind fun b μ4 => (R.of (cmp2 o a b) μ4).bind fun c μ5 => bif c then ((den G z).e ρ μ5).bind fun u μ6 => (look1 w μ6).bind fun b' μ7 => (look1 u μ7).bind fun d μ8 => (R.of (cmp2 o' b' d) μ8).bind dB else dB false μ5 := by
  show (((den G x).e ρ μ).bind fun v μ1 => ((den G y).e ρ μ1).bind fun w μ2 => (look1 v μ2).bind fun a μ3 => (look1 w μ3).bind fun b μ4 => (R.of (cmp2 o a b) μ4).bind fun c μ5 => match c with
      | true => ((den G z).e ρ μ5).bind fun u μ6 => (look1 w μ6).bind fun b' μ7 => (look1 u μ7).bind fun d μ8 => (R.of (cmp2 o' b' d) μ8).bind dB
      | false => dB false μ5) = _
  refine congrArg _ (funext fun v => funext fun μ1 => congrArg _ (funext fun w => funext fun μ2 => congrArg _ (funext fun a => funext fun μ3 => congrArg _ (funext fun b => funext fun μ4 => congrArg _ (funext fun c => funext fun μ5 => ?_)))))
  cases c <;> rfl
theorem e_bop {o : BoolOp} : (den G (.bop o x)).e ρ μ = (den G x).bc o ρ μ := rfl
theorem c_one {o : BoolOp} : (den G (.cons x .nil)).bc o ρ μ = (den G x).e ρ μ := rfl
theorem c_and : (den G (.cons x (.cons y z))).bc .And ρ μ = ((den G x).e ρ μ).bind fun v μ1 => (asB v μ1).bind fun c μ2 => bif c then (den G (.cons y z)).bc .And ρ μ2 else .ok (.dat (.bool false)) μ2 := by
  rw [bc_cons2]
  dsimp only
  refine congrArg _ (funext fun v => funext fun μ1 => congrArg _ (funext fun c => funext fun μ2 => ?_))
  cases c <;> rfl
theorem c_or : (den G (.cons x (.cons y z))).bc .Or ρ μ = ((den G x).e ρ μ).bind fun v μ1 => (asB v μ1).bind fun c μ2 => bif c then .ok (.dat (.bool true)) μ2 else (den G (.cons y z)).bc .Or ρ μ2 := by
  rw [bc_cons2]
  dsimp only
  refine congrArg _ (funext fun v => funext fun μ1 => congrArg _ (funext fun c => funext fun μ2 => ?_))
  cases c <;> rfl
theorem e_ife : (den G (.ife x y z)).e ρ μ = (testR (den G x).e ρ μ).bind fun b μ1 => bif b then (den G y).e ρ μ1 else (den G z).e ρ μ1 := by
  show ((testR (den G x).e ρ μ).bind fun b μ1 => match b with
    | true => (den G y).e ρ μ1
    | false => (den G z).e ρ μ1) = _
  refine congrArg _ (funext fun b => funext fun μ1 => ?_)
  cases b <;> rfl
theorem e_tup : (den G (.tup x)).e ρ μ = ((den G x).k ρ μ).bind fun ds μ1 => .ok (.dat (.tuple ds)) μ1 := rfl
theorem e_lst : (den G (.lst x)).e ρ μ = ((den G x).k ρ μ).bind fun ds μ1 => .ok (.fre ds) μ1 := rfl
theorem e_idx : (den G (.idx x y)).e ρ μ = ((den G x).e ρ μ).bind fun v μ1 => ((den G y).e ρ μ1).bind fun w μ2 => (look1 v μ2).bind fun a μ3 => (look1 w μ3).bind fun b μ4 => (R.of (idxD a b) μ4).bind fun d μ5 => .ok (.dat d) μ5 := rfl
theorem e_sli : (den G (.sli x y z)).e ρ μ = ((den G x).e ρ μ).bind fun v μ1 => ((den G y).o ρ μ1).bind fun l μ2 => ((den G z).o ρ μ2).bind fun h μ3 => (look1 v μ3).bind fun a μ4 => R.of (cutD a l h) μ4 := rfl
theorem e_cal {c : Ce} (h : G.ces[j]? = some c) : (den G (.cal j x)).e ρ μ = ((den G x).a ρ μ).bind fun vs μ1 => callR c vs μ1 := by
  show (match G.ces[j]? with
      | none => R.stuck
      | some c => ((den G x).a ρ μ).bind fun vs μ1 => callR c vs μ1) = _
  rw [h]
theorem e_blt {b : Blt} : (den G (.blt b x)).e ρ μ = ((den G x).b ρ μ).bind fun vs μ1 => (R.of (looks μ1 vs) μ1).bind fun ds μ2 => R.of (bltD b ds) μ2 := rfl
theorem e_isi {ts : List Ty} : (den G (.isi x ts)).e ρ μ = ((den G x).e ρ μ).bind fun v μ1 => (look1 v μ1).bind fun d μ2 => dB (ts.any (isTy d)) μ2 := rfl
theorem e_lc0 {vs : List (Str × Nat)} {tg : Tg} : (den G (.lc vs tg x .nil y)).e ρ μ = ((den G x).i ρ μ).noX.bind fun ds μ1 => if ds.length ≤ 10000000 then
        (lcR tg.f.one (fun _ μ2 => .ok true μ2) (fun ρ1 μ2 => ((den G y).e ρ1 μ2).bind fun v μ3 => (v.keep μ3).bind fun d μ4 => .ok [d] μ4) (wipeR ρ (vs.map (·.2))) ds μ1).noX.bind fun ys μ2 => .ok (.fre ys) μ2
      else .stuck := rfl
-- lists of expressions
theorem k_nil : (den G .nil).k ρ μ = .ok [] μ := rfl
theorem k_cons : (den G (.cons x y)).k ρ μ = ((den G x).e ρ μ).bind fun v μ1 => (v.keep μ1).bind fun d μ2 => ((den G y).k ρ μ2).bind fun ds μ3 => .ok (d :: ds) μ3 := rfl
theorem bl_nil : (den G .nil).b ρ μ = .ok [] μ := rfl
theorem bl_cons : (den G (.cons x y)).b ρ μ = ((den G x).e ρ μ).bind fun v μ1 => ((den G y).b ρ μ1).bind fun vs μ2 => .ok (v :: vs) μ2 := rfl
theorem a_nil : (den G .nil).a ρ μ = .ok [] μ := rfl
theorem a_cons : (den G (.cons x y)).a ρ μ = ((den G x).av ρ μ).bind fun v μ1 => ((den G y).a ρ μ1).bind fun vs μ2 => .ok (v :: vs) μ2 := rfl
theorem o_nil : (den G .nil).o ρ μ = .ok none μ := rfl
theorem o_var : (den G (.var i)).o ρ μ = (slot ρ i μ).bind intO := rfl
theorem o_lit {d : D} : (den G (.lit d)).o ρ μ = (R.ok (.dat d) μ).bind intO := rfl
theorem intO_i {n : Int} : intO (.dat (.int n)) μ = .ok (some n) μ := rfl
theorem av_dat {d : D} : avOf (.dat d) μ = .ok (.dat d) μ := rfl
theorem av_fre {d : List D} : avOf (.fre d) μ = .ok (.dat (.list d)) μ := rfl
theorem av_own : avOf (.own k) μ = .ok (.tmp k) μ := rfl
theorem av_var : (den G (.var i)).av ρ μ = (slot ρ i μ).bind avOf := rfl
theorem av_lit {d : D} : (den G (.lit d)).av ρ μ = .ok (.dat d) μ := rfl
theorem av_glb {n : Str} {d : D} : (den G (.glb n d)).av ρ μ = .ok (.dat d) μ := rfl
theorem av_bin {o : Operator} : (den G (.bin o x y)).av ρ μ = ((den G (.bin o x y)).e ρ μ).bind avOf := rfl
theorem av_idx : (den G (.idx x y)).av ρ μ = ((den G (.idx x y)).e ρ μ).bind avOf := rfl
theorem av_lst : (den G (.lst x)).av ρ μ = ((den G (.lst x)).e ρ μ).bind avOf := rfl
theorem av_tup : (den G (.tup x)).av ρ μ = ((den G (.tup x)).e ρ μ).bind avOf := rfl
theorem av_cal : (den G (.cal j x)).av ρ μ = ((den G (.cal j x)).e ρ μ).bind avOf := rfl
theorem av_blt {b : Blt} : (den G (.blt b x)).av ρ μ = ((den G (.blt b x)).e ρ μ).bind avOf := rfl
theorem av_lend : (den G (.lend i)).av ρ μ = (slot ρ i μ).bind fun v μ1 => match v with
      | .own k => .ok (.own k) μ1
      | _ => .stuck := rfl
-- iterables
theorem i_seq : (den G (.iSeq x)).i ρ μ = ((den G x).e ρ μ).bind fun v μ1 => (v.keep μ1).bind fun d μ2 => R.of (itemsD d) μ2 := rfl
theorem i_rng : (den G (.iRng x)).i ρ μ = ((den G x).b ρ μ).bind fun vs μ1 => (R.of (looks μ1 vs) μ1).bind fun ds μ2 => R.of (rngD ds) μ2 := rfl
-- slots
theorem sl_0 {v : SV} {r : Rho} : slot (some v :: r) 0 μ = .ok v μ := rfl
theorem sl_s {v : Option SV} {r : Rho} : slot (v :: r) (i + 1) μ = slot r i μ := rfl
theorem ow_0 {r : Rho} : ownS (some (.own k) :: r) 0 = some k := rfl
theorem ow_s {v : Option SV} {r : Rho} : ownS (v :: r) (i + 1) = ownS r i := rfl
theorem lks_nil : looks μ [] = some [] := rfl
theorem lks_dat {d : D} {vs : List SV} {ds : List D} (h : looks μ vs = some ds) : looks μ (.dat d :: vs) = some (d :: ds) := by
  show (match some d, looks μ vs with
    | some d, some ds => some (d :: ds)
    | _, _ => none) = _
  rw [h]
theorem lks_fre {d : List D} {vs : List SV} {ds : List D} (h : looks μ vs = some ds) : looks μ (.fre d :: vs) = some (.list d :: ds) := by
  show (match some (PyData.list d), looks μ vs with
    | some d, some ds => some (d :: ds)
    | _, _ => none) = _
  rw [h]
-- calls
theorem call_dat {c : Ce} {vs : List AV} {as : List Arg} {r : Rv} (h1 : owns vs = []) (h2 : avArgs μ vs = some as) (h3 : vs.length = c.arity) (h4 : c.sem as = some (.ret r [])) (h5 : r.noL = true ∨ tmps vs = []) : callR c vs μ = .ok r.sv μ := by
  unfold callR
  rw [h1, if_pos ⟨List.nodup_nil, rfl, h3⟩, h2]
  dsimp only
  rw [h4]
  dsimp only
  rw [if_pos (show ([] : List (List D)).length = ([] : List Nat).length from rfl)]
  rcases h5 with h5 | h5
  · rw [h5]
    rfl
  · rw [h5]
    cases r.noL <;> rfl
theorem call_exc {c : Ce} {vs : List AV} {as : List Arg} {x : Str} (h1 : owns vs = []) (h2 : avArgs μ vs = some as) (h3 : vs.length = c.arity) (h4 : c.sem as = some (.exc ⟨x, []⟩ [])) : callR c vs μ = .exc ⟨x, []⟩ μ := by
  unfold callR
  rw [h1, if_pos ⟨List.nodup_nil, rfl, h3⟩, h2]
  dsimp only
  rw [h4]
  rfl
theorem call_own {c : Ce} {vs : List AV} {as : List Arg} {r : Rv} {ds' : List D} {cl : Cell} (h1 : owns vs = [k]) (ht : tmps vs = []) (h2 : avArgs μ vs = some as) (h3 : vs.length = c.arity) (h4 : c.sem as = some (.ret r [ds'])) (hk : μ[k]? = some cl) : callR c vs μ = .ok r.sv (μ.set k ⟨cl.st, ds'⟩) := by
  unfold callR
  rw [h1, ht, if_pos ⟨by simp, rfl, h3⟩, h2]
  dsimp only
  rw [h4]
  dsimp only
  rw [if_pos (show [ds'].length = [k].length from rfl)]
  have e : wback [k] [ds'] μ = μ.set k ⟨cl.st, ds'⟩ := by
    simp [wback, hk]
  rw [e]
  cases (r.noL && [ds'].all noLists) <;> rfl
theorem ka_dat {d : D} : keepA (.dat d) = .dat d := rfl
theorem ka_fre {d : List D} : keepA (.fre d) = .dat (.list d) := rfl
theorem ka_own : keepA (.own k) = .own k := rfl
theorem tn_fre {ds : List D} : toName true (.fre ds) μ = .ok (.own μ.length) (μ ++ [⟨.live, ds⟩]) := rfl
theorem tg_nm {d : D} : (Tg.nm i).f.one d ρ = some (ρ.set i (some (.dat d))) := rfl
section
variable {asg : D → Rho → Option Rho} {b : Rho → List Cell → RS} {d : D} {ds : List D} {ρ1 ρ2 : Rho} {μ2 : List Cell}
theorem for_nil : forR asg b [] ρ μ = .nx ρ μ := rfl
theorem for_nx (h1 : asg d ρ = some ρ1) (h2 : b ρ1 μ = .nx ρ2 μ2) : forR asg b (d :: ds) ρ μ = forR asg b ds ρ2 μ2 := by
  show (match asg d ρ with
    | none => RS.stuck
    | some ρ1 => match b ρ1 μ with
      | .nx ρ2 μ2 => forR asg b ds ρ2 μ2
      | .ct ρ2 μ2 => forR asg b ds ρ2 μ2
      | .bk ρ2 μ2 => .nx ρ2 μ2
      | r => r) = _
  rw [h1]
  dsimp only
  rw [h2]
theorem for_ct (h1 : asg d ρ = some ρ1) (h2 : b ρ1 μ = .ct ρ2 μ2) : forR asg b (d :: ds) ρ μ = forR asg b ds ρ2 μ2 := by
  show (match asg d ρ with
    | none => RS.stuck
    | some ρ1 => match b ρ1 μ with
      | .nx ρ2 μ2 => forR asg b ds ρ2 μ2
      | .ct ρ2 μ2 => forR asg b ds ρ2 μ2
      | .bk ρ2 μ2 => .nx ρ2 μ2
      | r => r) = _
  rw [h1]
  dsimp only
  rw [h2]
theorem for_rt {v : SV} (h1 : asg d ρ = some ρ1) (h2 : b ρ1 μ = .rt v μ2) : forR asg b (d :: ds) ρ μ = .rt v μ2 := by
  show (match asg d ρ with
    | none => RS.stuck
    | some ρ1 => match b ρ1 μ with
      | .nx ρ2 μ2 => forR asg b ds ρ2 μ2
      | .ct ρ2 μ2 => forR asg b ds ρ2 μ2
      | .bk ρ2 μ2 => .nx ρ2 μ2
      | r => r) = _
  rw [h1]
  dsimp only
  rw [h2]
end
theorem bi_add {m n : Int} : bin2 .Add (.int m) (.int n) = some (.dat (.int (m + n))) := rfl
theorem bi_sub {m n : Int} : bin2 .Sub (.int m) (.int n) = some (.dat (.int (m - n))) := rfl
theorem bi_mul {m n : Int} (h : okMul m n = true) : bin2 .Mult (.int m) (.int n) = some (.dat (.int (m * n))) := if_pos h
theorem bi_div {m n : Int} (h : okDiv n = true) : bin2 .FloorDiv (.int m) (.int n) = some (.dat (.int (m / n))) := if_pos h
theorem bi_mod {m n : Int} (h : 0 < n) : bin2 .Mod (.int m) (.int n) = some (.dat (.int (m % n))) := if_pos (decide_eq_true h)
theorem bi_pow {m n : Int} (h : okPow m n = true) : bin2 .Pow (.int m) (.int n) = some (.dat (.int (m ^ n.toNat))) := if_pos h
theorem bi_cat {m n : List D} (h : m.length + n.length ≤ sizeLine) : bin2 .Add (.list m) (.list n) = some (.fre (m ++ n)) := if_pos h
theorem cm_lt {m n : Int} : cmp2 .Lt (.int m) (.int n) = some (decide (m < n)) := rfl
theorem cm_le {m n : Int} : cmp2 .LtE (.int m) (.int n) = some (decide (m ≤ n)) := rfl
theorem cm_gt {m n : Int} : cmp2 .Gt (.int m) (.int n) = some (decide (n < m)) := rfl
theorem cm_ge {m n : Int} : cmp2 .GtE (.int m) (.int n) = some (decide (n ≤ m)) := rfl
theorem cm_eq {m n : D} (h0 : ∀ a, m ≠ .str a) (h1 : SeqAt.shaped m = true) (h2 : SeqAt.shaped n = true) : cmp2 .Eq m n = some (PyData.eqv m n) := by
  have e : cmp2 .Eq m n = if (SeqAt.shaped m && SeqAt.shaped n) = true then some (PyData.eqv m n) else none := by
    cases m <;> first
      | rfl
      | exact absurd rfl (h0 _)
  rw [e, h1, h2]
  rfl
theorem cm_ne {m n : D} (h0 : ∀ a, m ≠ .str a) (h1 : SeqAt.shaped m = true) (h2 : SeqAt.shaped n = true) : cmp2 .NotEq m n = some (!PyData.eqv m n) := by
  have e : cmp2 .NotEq m n = if (SeqAt.shaped m && SeqAt.shaped n) = true then some (!PyData.eqv m n) else none := by
    cases m <;> first
      | rfl
      | exact absurd rfl (h0 _)
  rw [e, h1, h2]
  rfl
theorem cm_is {m : D} : cmp2 .Is m .none = some (isN m) := by cases m <;> rfl
theorem bt_len {a : List D} : bltD .len [.list a] = some (.dat (.int a.length)) := rfl
theorem bt_lenT {a : List D} : bltD .len [.tuple a] = some (.dat (.int a.length)) := rfl
theorem bt_int {n : Int} : bltD .int1 [.int n] = some (.dat (.int n)) := rfl
theorem bt_list {a : List D} : bltD .list1 [.list a] = some (.fre a) := rfl
theorem bt_tuple {a : List D} : bltD .tuple1 [.list a] = some (.dat (.tuple a)) := rfl
theorem bt_min {m n : Int} : bltD .min2 [.int m, .int n] = some (.dat (.int (if n < m then n else m))) := rfl
theorem rv_dat {d : D} : (Rv.dat d).sv = .dat d := rfl
theorem rv_fre {d : List D} : (Rv.fre d).sv = .fre d := rfl
section
variable {c c0 c1 c2 : Cell} {r : List Cell} {a b d e : D} {s : CS}
theorem lk_0 : look1 (.own 0) (c :: r) = .ok (.list c.ds) (c :: r) := rfl
theorem lk_1 : look1 (.own 1) (c0 :: c :: r) = .ok (.list c.ds) (c0 :: c :: r) := rfl
theorem lk_2 : look1 (.own 2) (c0 :: c1 :: c :: r) = .ok (.list c.ds) (c0 :: c1 :: c :: r) := rfl
theorem i3_0 : idxD (.list [a, b, d]) (.int 0) = some a := rfl
theorem i3_1 : idxD (.list [a, b, d]) (.int 1) = some b := rfl
theorem i3_2 : idxD (.list [a, b, d]) (.int 2) = some d := rfl
theorem t3_1 : stiV 1 e (.own 0) (⟨.arg, [a, b, d]⟩ :: r) = .ok (⟨.arg, [a, e, d]⟩ :: r) (⟨.arg, [a, b, d]⟩ :: r) := rfl
theorem t3_2 : stiV 2 e (.own 0) (⟨.arg, [a, b, d]⟩ :: r) = .ok (⟨.arg, [a, b, e]⟩ :: r) (⟨.arg, [a, b, d]⟩ :: r) := rfl
end
theorem i_enu {v : SV} {a : List D} {μ1 μ2 : List Cell} (h : (den G x).e ρ μ = .ok v μ1) (h2 : v.keep μ1 = .ok (.list a) μ2) : (den G (.iEnu x)).i ρ μ = .ok (enuD 0 a) μ2 := by
  show (((den G x).e ρ μ).bind fun v μ1 => (v.keep μ1).bind fun d μ2 => match d with
      | .list a => R.ok (enuD 0 a) μ2
      | _ => .stuck) = _
  rw [h]
  show ((v.keep μ1).bind fun d μ2 => match d with
      | .list a => R.ok (enuD 0 a) μ2
      | _ => .stuck) = _
  rw [h2]
  rfl
theorem i_zip {v w : SV} {d e : D} {xs ys : List D} {μ1 μ2 μ3 μ4 : List Cell} (h : (den G x).e ρ μ = .ok v μ1) (h2 : v.keep μ1 = .ok d μ2) (h3 : (den G y).e ρ μ2 = .ok w μ3) (h4 : w.keep μ3 = .ok e μ4) (h5 : itemsD d = some xs) (h6 : itemsD e = some ys) :
    (den G (.iZip none x y)).i ρ μ = .ok (zipD xs ys) μ4 := by
  show (((den G x).e ρ μ).bind fun v μ1 => (v.keep μ1).bind fun d μ2 => ((den G y).e ρ μ2).bind fun w μ3 => (w.keep μ3).bind fun d' μ4 => (R.of (itemsD d) μ4).bind fun xs μ5 => (R.of (itemsD d') μ5).bind fun ys μ6 => if (none : Option Bool) = some true ∧ xs.length ≠ ys.length then .stuck else .ok (zipD xs ys) μ6) = _
  rw [h]
  show ((v.keep μ1).bind fun d μ2 => ((den G y).e ρ μ2).bind fun w μ3 => (w.keep μ3).bind fun d' μ4 => (R.of (itemsD d) μ4).bind fun xs μ5 => (R.of (itemsD d') μ5).bind fun ys μ6 => if (none : Option Bool) = some true ∧ xs.length ≠ ys.length then .stuck else .ok (zipD xs ys) μ6) = _
  rw [h2]
  show (((den G y).e ρ μ2).bind fun w μ3 => (w.keep μ3).bind fun d' μ4 => (R.of (itemsD d) μ4).bind fun xs μ5 => (R.of (itemsD d') μ5).bind fun ys μ6 => if (none : Option Bool) = some true ∧ xs.length ≠ ys.length then .stuck else .ok (zipD xs ys) μ6) = _
  rw [h3]
  show ((w.keep μ3).bind fun d' μ4 => (R.of (itemsD d) μ4).bind fun xs μ5 => (R.of (itemsD d') μ5).bind fun ys μ6 => if (none : Option Bool) = some true ∧ xs.length ≠ ys.length then .stuck else .ok (zipD xs ys) μ6) = _
  rw [h4]
  show ((R.of (itemsD d) μ4).bind fun xs μ5 => (R.of (itemsD e) μ5).bind fun ys μ6 => if (none : Option Bool) = some true ∧ xs.length ≠ ys.length then .stuck else .ok (zipD xs ys) μ6) = _
  rw [h5]
  show ((R.of (itemsD e) μ4).bind fun ys μ6 => if (none : Option Bool) = some true ∧ xs.length ≠ ys.length then .stuck else .ok (zipD xs ys) μ6) = _
  rw [h6]
  rfl
theorem sti_of {c : Cell} {n : Int} {d : D} (h : μ[k]? = some c) (h1 : c.st ≠ .froz) (h2 : ixN c.ds.length n = some j) : stiV n d (.own k) μ = .ok (μ.set k ⟨c.st, c.ds.set j d⟩) μ := by
  show R.of (stiR k n d μ) μ = _
  unfold stiR
  rw [h]
  dsimp only
  rw [if_neg h1, h2]
  rfl
theorem app_of {c : Cell} {d : D} (h : μ[k]? = some c) (h1 : c.st ≠ .froz) (h2 : c.ds.length < 10000000) : appR k d μ = some (μ.set k ⟨c.st, c.ds ++ [d]⟩) := by
  unfold appR
  rw [h]
  dsimp only
  rw [if_neg h1, if_pos h2]
theorem pn_nil {c : List SV → List Cell → RS} : parN [] [] μ ρ c = c [] μ := rfl
theorem pn_f {ts : List Bool} {v : SV} {vs : List SV} {c : List SV → List Cell → RS} : parN (false :: ts) (v :: vs) μ ρ c = parN ts vs μ ρ fun ws μ2 => c (keepA v :: ws) μ2 := rfl
theorem pn_t {ts : List Bool} {ds : List D} {vs : List SV} {c : List SV → List Cell → RS} : parN (true :: ts) (.fre ds :: vs) μ ρ c = parN ts vs (μ ++ [⟨.live, ds⟩]) ρ fun ws μ2 => c (.own μ.length :: ws) μ2 := rfl
theorem st_nil : sets [] [] ρ = some ρ := rfl
theorem st_cons {is : List Nat} {v : SV} {vs : List SV} : sets (i :: is) (v :: vs) ρ = sets is vs (ρ.set i (some v)) := rfl
theorem s_try_ok {ρ' : Rho} (h : (den G x).s ρ μ = .nx ρ' μ') : (den G (.tryM x y)).s ρ μ = .nx ρ' μ' := by
  show (match (den G x).s ρ μ with
      | .exc x ρ1 μ1 => if G.exc.contains x.cls = true then (match hdlPick G.sub x.cls (den G y).h with
        | some h => (h ρ1 μ1).noX
        | none => .exc x ρ1 μ1) else .stuck
      | r => r) = _
  rw [h]
theorem s_try_rt {v : SV} (h : (den G x).s ρ μ = .rt v μ') : (den G (.tryM x y)).s ρ μ = .rt v μ' := by
  show (match (den G x).s ρ μ with
      | .exc x ρ1 μ1 => if G.exc.contains x.cls = true then (match hdlPick G.sub x.cls (den G y).h with
        | some h => (h ρ1 μ1).noX
        | none => .exc x ρ1 μ1) else .stuck
      | r => r) = _
  rw [h]
theorem s_try_exc {e : Exn} {ρ' : Rho} {m : Rho → List Cell → RS} (h : (den G x).s ρ μ = .exc e ρ' μ') (h1 : G.exc.contains e.cls = true) (h2 : hdlPick G.sub e.cls (den G y).h = some m) : (den G (.tryM x y)).s ρ μ = (m ρ' μ').noX := by
  show (match (den G x).s ρ μ with
      | .exc x ρ1 μ1 => if G.exc.contains x.cls = true then (match hdlPick G.sub x.cls (den G y).h with
        | some h => (h ρ1 μ1).noX
        | none => .exc x ρ1 μ1) else .stuck
      | r => r) = _
  rw [h]
  dsimp only
  rw [if_pos h1, h2]
theorem lcR_map {asg : D → Rho → Option Rho} {te : Rho → List Cell → R (List D)} {f : D → D} : ∀ {ds : List D}, (∀ d ∈ ds, ∃ ρ1, asg d ρ = some ρ1 ∧ te ρ1 μ = .ok [f d] μ) → lcR asg (fun _ μ2 => .ok true μ2) te ρ ds μ = .ok (ds.map f) μ
  | [], _ => rfl
  | d :: ds, h => by
    obtain ⟨ρ1, h1, h2⟩ := h d (List.mem_cons_self ..)
    have ih := lcR_map (ds := ds) fun e he => h e (List.mem_cons_of_mem _ he)
    show (match asg d ρ with
    | none => R.stuck
    | some ρ1 => (R.ok true μ).bind fun b μ1 => match b with
      | true => (te ρ1 μ1).bind fun y μ2 => (lcR asg (fun _ μ2 => .ok true μ2) te ρ ds μ2).bind fun ys μ3 => .ok (y ++ ys) μ3
      | false => lcR asg (fun _ μ2 => .ok true μ2) te ρ ds μ1) = _
    rw [h1]
    show ((te ρ1 μ).bind fun y μ2 => (lcR asg (fun _ μ2 => .ok true μ2) te ρ ds μ2).bind fun ys μ3 => .ok (y ++ ys) μ3) = _
    rw [h2]
    show ((lcR asg (fun _ μ2 => .ok true μ2) te ρ ds μ).bind fun ys μ3 => .ok ([f d] ++ ys) μ3) = _
    rw [ih]
    rfl
theorem toB_map {α : Type} {f : α → Bool} : ∀ (l : List α), toBools (l.map fun d => .bool (f d)) = some (l.map f)
  | [] => rfl
  | d :: l => by
    show (toBools (l.map fun d => .bool (f d))).map (f d :: ·) = _
    rw [toB_map l]
    rfl
theorem bt_all {α : Type} {f : α → Bool} {l : List α} : bltD .all1 [.list (l.map fun d => .bool (f d))] = some (.dat (.bool (l.all f))) := by
  show (toBools (l.map fun d => .bool (f d))).map (fun bs => SV.dat (.bool (bs.all id))) = _
  rw [toB_map]
  show some (SV.dat (.bool ((l.map f).all id))) = _
  rw [List.all_map]
  rfl
theorem s_app2 : (den G (.app i x)).s ρ μ = match ownS ρ i with
      | some k => (((den G x).e ρ μ).bind fun v μ1 => (v.keep μ1).bind fun d μ2 => R.of (appR k d μ2) μ2).st ρ fun r _ => .nx ρ r
      | none => .stuck := rfl
theorem beqD {α : Type} [DecidableEq α] [BEq α] [LawfulBEq α] (a b : α) : (a == b) = decide (a = b) := by
  by_cases h : a = b
  · subst h
    simp
  · simp [h]
theorem sh_int (a : Int) : SeqAt.shaped (.int a) = true := by simp [SeqAt.shaped, PyData.canLay0, PyData.depth]
theorem sh_bool (a : Bool) : SeqAt.shaped (.bool a) = true := by simp [SeqAt.shaped, PyData.canLay0, PyData.depth]
theorem cm_eqi {a b : Int} : cmp2 .Eq (.int a) (.int b) = some (decide (a = b)) := by
  rw [cm_eq (m := .int a) (by intro b z; cases z) (sh_int a) (sh_int b)]
  simp [PyData.eqv, beqD]
theorem cm_nei {a b : Int} : cmp2 .NotEq (.int a) (.int b) = some (!decide (a = b)) := by
  rw [cm_ne (m := .int a) (by intro b z; cases z) (sh_int a) (sh_int b)]
  simp [PyData.eqv, beqD]
theorem cm_nes {a b : Str} : cmp2 .NotEq (.str a) (.str b) = some (!decide (a = b)) := rfl
theorem cm_eqs {a b : Str} : cmp2 .Eq (.str a) (.str b) = some (decide (a = b)) := rfl
theorem cm_neb {a b : Bool} : cmp2 .NotEq (.bool a) (.bool b) = some (!decide (a = b)) := by
  rw [cm_ne (m := .bool a) (by intro b z; cases z) (sh_bool a) (sh_bool b)]
  cases a <;> cases b <;> simp [PyData.eqv]
/-! ### repr of ints -/
theorem text_len : ∀ (ts : List Str) (k : Nat) (acc : Str) (B : Nat), (∀ t ∈ ts, t.length ≤ B) → (textFrom k acc ts).length ≤ acc.length + (B + 2) * ts.length
  | [], k, acc, B, _ => by simp [textFrom]
  | t :: ts, k, acc, B, h => by
    have h1 := h t (List.mem_cons_self ..)
    have ih := text_len ts (k + 1) (acc ++ (if k > 0 then ", " else "" : String) ++ t) B fun u hu => h u (List.mem_cons_of_mem _ hu)
    show (textFrom (k + 1) (acc ++ (if k > 0 then ", " else "" : String) ++ t) ts).length ≤ _
    have e : (acc ++ (if k > 0 then ", " else "" : String) ++ t).length ≤ acc.length + 2 + t.length := by
      rw [strLen_append, strLen_append]
      split
      · exact Nat.le_refl _
      · have : ((Str.ofString "") : Str).length = 0 := rfl
        omega
    rw [List.length_cons, Nat.mul_add, Nat.mul_one]
    omega
theorem repr_ints {l : List Int} (h : ∀ x ∈ l, x.natAbs < 2 ^ 1000) (hl : l.length ≤ 100) : bltD .repr1 [.list (l.map PyData.int)] = some (.dat (.str (PyData.list (l.map PyData.int)).shown)) := by
  have lg : ∀ x ∈ l, x.natAbs.log2 < 1920 := fun x hx => by
    by_cases z : x.natAbs = 0
    · rw [z]
      decide
    · have := (Nat.log2_lt z).mpr (h x hx)
      omega
  have s1 : ∀ l : List Int, (∀ x ∈ l, x.natAbs.log2 < 1920) → PyData.showableAll (l.map PyData.int) = true ∧ PyData.hasDictAll (l.map PyData.int) = false ∧ ∀ t ∈ PyData.shownAll (l.map PyData.int), t.length ≤ 1921 := fun l => by
    induction l with
    | nil => exact fun _ => ⟨by simp [PyData.showableAll], by simp [PyData.hasDictAll], fun t ht => by simp [PyData.shownAll] at ht⟩
    | cons x l ih =>
      intro q
      obtain ⟨i1, i2, i3⟩ := ih fun y hy => q y (List.mem_cons_of_mem _ hy)
      have qx := q x (List.mem_cons_self ..)
      refine ⟨by simp [PyData.showableAll, PyData.showable, qx, i1], by simp [PyData.hasDictAll, PyData.hasDict, i2], fun t ht => ?_⟩
      rw [List.map_cons] at ht
      simp only [PyData.shownAll, List.mem_cons] at ht
      rcases ht with rfl | ht
      · simp only [PyData.shown]
        exact int_text_len_1921 qx
      · exact i3 t ht
  obtain ⟨q1, q2, q3⟩ := s1 l lg
  have sl : ∀ l : List D, (PyData.shownAll l).length = l.length := fun l => by
    induction l with
    | nil => rfl
    | cons x l ih => simp [PyData.shownAll, ih]
  have ln : (PyData.list (l.map PyData.int)).shown.length ≤ 1000000 := by
    simp only [PyData.shown, listText]
    rw [strLen_append]
    have := text_len (PyData.shownAll (l.map PyData.int)) 0 "[" 1921 q3
    rw [sl, List.length_map] at this
    have e1 : ((Str.ofString "[") : Str).length = 1 := rfl
    have e2 : ((Str.ofString "]") : Str).length = 1 := rfl
    omega
  have dp : (PyData.list (l.map PyData.int)).depth ≤ 64 := by
    have da : ∀ l : List Int, PyData.depthAll (l.map PyData.int) ≤ 1 := fun l => by
      induction l with
      | nil => simp [PyData.depthAll]
      | cons x l ih => simp [PyData.depthAll, PyData.depth, ih]
    have := da l
    simp only [PyData.depth]
    omega
  show (if ((PyData.list (l.map PyData.int)).showable && !(PyData.list (l.map PyData.int)).hasDict && decide ((PyData.list (l.map PyData.int)).depth ≤ 64) && decide ((PyData.list (l.map PyData.int)).shown.length ≤ 1000000)) = true then _ else _) = _
  rw [if_pos]
  simp [PyData.showable, PyData.hasDict, q1, q2, dp, ln]
end
end DL

set_option maxHeartbeats 2000000
namespace K10
open DL
open PySem PySem.Spec PyProof.Rows L2
/-! ### the text -/
def top (i : Nat) : Stmt := PySem.Challenge.pw_pacefold_k10_coordinates.main.body.getD i (.Pass ⟨0, 0, 0, 0⟩)
abbrev con : List (Str × Int) := [("MOST_SIZE", 10000000000000000000000000000000000000000), ("MOST_MODES", 200)]
abbrev exc : List Str := ["FoldError", "NoIndex", "NoSizes"]
abbrev sub : Str → Str → Bool := subT [("FoldError", "FoldError"), ("NoIndex", "NoIndex"), ("NoIndex", "FoldError"), ("NoSizes", "NoSizes"), ("NoSizes", "FoldError")]
/-! _law_open -/
def N__law_open : List Str := ["_law_script", "_law_cells", "_law_k", "_law_cell"]
def ir__law_open : IR := .cons (.setO 1 (.blt .list1 (.cons (.sli (.var 0) (.nil) (.lit (.int 12))) (.nil)))) (.cons (.fo (.cons (.nm 2) (.cons (.nm 3) (.nil))) (.iEnu (.sli (.var 0) (.lit (.int 12)) (.lit (.int 63)))) (.cons (.sti 1 (.bin .Mod (.blt .int1 (.cons (.var 2) (.nil))) (.lit (.int 12))) (.bin .Add (.idx (.var 1) (.bin .Mod (.blt .int1 (.cons (.var 2) (.nil))) (.lit (.int 12)))) (.var 3))) (.nil))) (.cons (.ret (.lst (.cons (.var 1) (.cons (.lit (.int 0)) (.cons (.lit (.int 0)) (.nil)))))) (.nil)))
/-! _law_spread -/
def N__law_spread : List Str := ["_law_cell", "_law_at", "_law_primes", "_law_u", "_law_v", "_law_w"]
def ir__law_spread : IR := .cons (.ifs (.cmp .GtE (.var 0) (.bin .Pow (.lit (.int 10)) (.lit (.int 18)))) (.cons (.ret (.var 0)) (.nil)) (.nil)) (.cons (.set 2 (.lst (.cons (.lit (.int 2147483629)) (.cons (.lit (.int 2147483587)) (.cons (.lit (.int 2147483579)) (.cons (.lit (.int 2147483563)) (.cons (.lit (.int 2147483549)) (.cons (.lit (.int 2147483543)) (.cons (.lit (.int 2147483497)) (.cons (.lit (.int 2147483489)) (.nil))))))))))) (.cons (.set 2 (.bin .Add (.var 2) (.lst (.cons (.lit (.int 2147483477)) (.cons (.lit (.int 2147483423)) (.cons (.lit (.int 2147483399)) (.cons (.lit (.int 2147483353)) (.cons (.lit (.int 2147483323)) (.nil))))))))) (.cons (.set 3 (.bin .Add (.bin .Add (.bin .Mult (.bin .Mod (.blt .int1 (.cons (.var 0) (.nil))) (.lit (.int 1000000007))) (.bin .Add (.bin .Mult (.lit (.int 2)) (.var 1)) (.lit (.int 69069)))) (.bin .Mult (.var 1) (.lit (.int 40503)))) (.lit (.int 977)))) (.cons (.set 3 (.bin .Mod (.blt .int1 (.cons (.bin .Pow (.var 3) (.lit (.int 3))) (.nil))) (.idx (.var 2) (.bin .Mod (.blt .int1 (.cons (.var 1) (.nil))) (.lit (.int 13)))))) (.cons (.set 4 (.bin .Mod (.blt .int1 (.cons (.bin .Pow (.bin .Add (.bin .Add (.bin .Mult (.var 3) (.bin .Add (.var 1) (.lit (.int 3)))) (.bin .Mod (.blt .int1 (.cons (.var 0) (.nil))) (.lit (.int 65537)))) (.lit (.int 5))) (.lit (.int 5))) (.nil))) (.idx (.var 2) (.bin .Mod (.blt .int1 (.cons (.bin .Add (.var 1) (.lit (.int 5))) (.nil))) (.lit (.int 13)))))) (.cons (.set 5 (.bin .Mod (.blt .int1 (.cons (.bin .Pow (.bin .Add (.bin .Add (.var 4) (.bin .Mod (.blt .int1 (.cons (.var 3) (.nil))) (.lit (.int 1009)))) (.var 1)) (.lit (.int 3))) (.nil))) (.idx (.var 2) (.bin .Mod (.blt .int1 (.cons (.bin .Add (.var 1) (.lit (.int 7))) (.nil))) (.lit (.int 13)))))) (.cons (.ret (.bin .Add (.bin .Mult (.bin .Add (.bin .Mult (.var 3) (.lit (.int 2147483647))) (.var 4)) (.lit (.int 2147483647))) (.var 5))) (.nil))))))))
/-! _law_take -/
def N__law_take : List Str := ["_law_pen", "_law_amount", "_law_found", "_law_at", "_law_cell"]
def ir__law_take : IR := .cons (.ifs (.cmp .Lt (.idx (.var 0) (.lit (.int 2))) (.var 1)) (.cons (.set 3 (.idx (.var 0) (.lit (.int 1)))) (.cons (.set 4 (.lit (.int 0))) (.cons (.ifs (.cmp .Lt (.var 3) (.blt .len (.cons (.idx (.var 0) (.lit (.int 0))) (.nil)))) (.cons (.set 4 (.idx (.idx (.var 0) (.lit (.int 0))) (.var 3))) (.nil)) (.cons (.ifs (.cmp .Gt (.blt .len (.cons (.idx (.var 0) (.lit (.int 0))) (.nil))) (.lit (.int 0))) (.cons (.set 4 (.bin .Mod (.blt .int1 (.cons (.idx (.idx (.var 0) (.lit (.int 0))) (.bin .Mod (.blt .int1 (.cons (.bin .Add (.bin .Mult (.var 3) (.lit (.int 5))) (.lit (.int 3))) (.nil))) (.blt .len (.cons (.idx (.var 0) (.lit (.int 0))) (.nil))))) (.nil))) (.bin .Add (.bin .Pow (.lit (.int 10)) (.lit (.int 17))) (.var 3)))) (.nil)) (.nil)) (.nil))) (.cons (.sti 0 (.lit (.int 1)) (.bin .Add (.var 3) (.lit (.int 1)))) (.cons (.sti 0 (.lit (.int 2)) (.cal 1 (.cons (.var 4) (.cons (.var 3) (.nil))))) (.nil)))))) (.nil)) (.cons (.set 2 (.bin .Mod (.blt .int1 (.cons (.idx (.var 0) (.lit (.int 2))) (.nil))) (.var 1))) (.cons (.sti 0 (.lit (.int 2)) (.bin .FloorDiv (.idx (.var 0) (.lit (.int 2))) (.var 1))) (.cons (.ret (.var 2)) (.nil))))
/-! _law_product -/
def N__law_product : List Str := ["_law_sizes", "_law_found", "_law_one"]
def ir__law_product : IR := .cons (.set 1 (.lit (.int 1))) (.cons (.fo (.nm 2) (.iSeq (.var 0)) (.cons (.set 1 (.bin .Mult (.var 1) (.var 2))) (.nil))) (.cons (.ret (.var 1)) (.nil)))
/-! end_of -/
def N_end_of : List Str := ["sizes", "found", "size"]
def ir_end_of : IR := .cons (.set 1 (.lit (.int 1))) (.cons (.fo (.nm 2) (.iSeq (.var 0)) (.cons (.set 1 (.bin .Mult (.var 1) (.var 2))) (.nil))) (.cons (.ret (.var 1)) (.nil)))
/-! is_integer -/
def N_is_integer : List Str := ["thing", "least", "most"]
def ir_is_integer : IR := .cons (.ret (.bop .And (.cons (.isi (.var 0) [.int]) (.cons (.nt (.isi (.var 0) [.bool])) (.cons (.chn .LtE .LtE (.var 1) (.var 0) (.var 2)) (.nil)))))) (.nil)
/-! need_sizes -/
def N_need_sizes : List Str := ["sizes", "size"]
def ir_need_sizes : IR := .cons (.ifs (.bop .Or (.cons (.nt (.isi (.var 0) [.list])) (.cons (.cmp .Gt (.blt .len (.cons (.var 0) (.nil))) (.glb "MOST_MODES" (.int 200))) (.nil)))) (.cons (.rai "NoSizes" "not a list of sizes") (.nil)) (.nil)) (.cons (.ifs (.bop .Or (.cons (.nt (.blt .all1 (.cons (.lc [("size", 1)] (.nm 1) (.iSeq (.var 0)) (.nil) (.cal 5 (.cons (.var 1) (.cons (.lit (.int 1)) (.cons (.glb "MOST_SIZE" (.int 10000000000000000000000000000000000000000)) (.nil)))))) (.nil)))) (.cons (.cmp .Gt (.cal 4 (.cons (.var 0) (.nil))) (.glb "MOST_SIZE" (.int 10000000000000000000000000000000000000000))) (.nil)))) (.cons (.rai "NoSizes" "not sizes") (.nil)) (.nil)) (.nil))
/-! raw_coordinates -/
def N_raw_coordinates : List Str := ["sizes", "x", "found", "left", "size"]
def ir_raw_coordinates : IR := .cons (.setO 2 (.lst (.nil))) (.cons (.set 3 (.var 1)) (.cons (.fo (.nm 4) (.iSeq (.var 0)) (.cons (.app 2 (.bin .Mod (.var 3) (.var 4))) (.cons (.set 3 (.bin .FloorDiv (.var 3) (.var 4))) (.nil)))) (.cons (.ret (.blt .tuple1 (.cons (.var 2) (.nil)))) (.nil))))
/-! coordinates_of -/
def N_coordinates_of : List Str := ["sizes", "x"]
def ir_coordinates_of : IR := .cons (.xpr (.cal 6 (.cons (.var 0) (.nil)))) (.cons (.ifs (.nt (.cal 5 (.cons (.var 1) (.cons (.lit (.int 0)) (.cons (.bin .Sub (.cal 4 (.cons (.var 0) (.nil))) (.lit (.int 1))) (.nil)))))) (.cons (.rai "NoIndex" "not below the end") (.nil)) (.nil)) (.cons (.ret (.cal 7 (.cons (.var 0) (.cons (.var 1) (.nil))))) (.nil)))
/-! _law_answer -/
def N__law_answer : List Str := ["_law_sizes", "_law_x", "_law_word", "_law_held"]
def ir__law_answer : IR := .cons (.par [(2, false), (3, false)] (.cons (.lit (.str "fine")) (.cons (.lit .none) (.nil)))) (.cons (.tryM (.cons (.set 3 (.cal 8 (.cons (.var 0) (.cons (.var 1) (.nil))))) (.nil)) (.cons (.hdl "NoSizes" (.cons (.set 2 (.lit (.str "sizes"))) (.nil))) (.cons (.hdl "NoIndex" (.cons (.set 2 (.lit (.str "index"))) (.nil))) (.nil)))) (.cons (.ret (.tup (.cons (.var 2) (.cons (.var 3) (.nil))))) (.nil)))
/-! _law_one_of -/
def N__law_one_of : List Str := ["_law_pen", "_law_some"]
def ir__law_one_of : IR := .cons (.ret (.idx (.var 1) (.cal 2 (.cons (.lend 0) (.cons (.blt .len (.cons (.var 1) (.nil))) (.nil)))))) (.nil)
/-! _law_same -/
def N__law_same : List Str := ["_law_found", "_law_due", "_law_one", "_law_other"]
def ir__law_same : IR := .cons (.ifs (.bop .Or (.cons (.cmp .Is (.var 1) (.lit .none)) (.cons (.cmp .Is (.var 0) (.lit .none)) (.nil)))) (.cons (.ret (.bop .And (.cons (.cmp .Is (.var 1) (.lit .none)) (.cons (.cmp .Is (.var 0) (.lit .none)) (.nil))))) (.nil)) (.nil)) (.cons (.ifs (.bop .Or (.cons (.isi (.var 1) [.bool]) (.cons (.isi (.var 0) [.bool]) (.nil)))) (.cons (.ret (.bop .And (.cons (.isi (.var 1) [.bool]) (.cons (.isi (.var 0) [.bool]) (.cons (.cmp .Eq (.var 0) (.var 1)) (.nil)))))) (.nil)) (.nil)) (.cons (.ifs (.isi (.var 1) [.int, .str]) (.cons (.ifs (.cmp .NotEq (.isi (.var 0) [.int]) (.isi (.var 1) [.int])) (.cons (.ret (.lit (.bool false))) (.nil)) (.nil)) (.cons (.ret (.bop .And (.cons (.isi (.var 0) [.int, .str]) (.cons (.cmp .Eq (.var 0) (.var 1)) (.nil))))) (.nil))) (.nil)) (.cons (.ifs (.bop .Or (.cons (.cmp .NotEq (.isi (.var 1) [.tuple]) (.isi (.var 0) [.tuple])) (.cons (.cmp .NotEq (.isi (.var 1) [.list]) (.isi (.var 0) [.list])) (.nil)))) (.cons (.ret (.lit (.bool false))) (.nil)) (.nil)) (.cons (.ifs (.cmp .NotEq (.blt .len (.cons (.var 0) (.nil))) (.blt .len (.cons (.var 1) (.nil)))) (.cons (.ret (.lit (.bool false))) (.nil)) (.nil)) (.cons (.ret (.cmp .NotIn (.lit (.bool false)) (.lc [("_law_one", 2), ("_law_other", 3)] (.cons (.nm 2) (.cons (.nm 3) (.nil))) (.iZip none (.var 0) (.var 1)) (.nil) (.cal 11 (.cons (.var 2) (.cons (.var 3) (.nil))))))) (.nil))))))
/-! _law_coordinates -/
def N__law_coordinates : List Str := ["_law_sizes", "_law_x", "_law_one", "_law_found", "_law_left"]
def ir__law_coordinates : IR := .cons (.par [(3, true), (4, false)] (.cons (.lst (.nil)) (.cons (.var 1) (.nil)))) (.cons (.fo (.nm 2) (.iSeq (.var 0)) (.cons (.app 3 (.bin .Sub (.var 4) (.bin .Mult (.bin .FloorDiv (.var 4) (.var 2)) (.var 2)))) (.cons (.set 4 (.bin .FloorDiv (.var 4) (.var 2))) (.nil)))) (.cons (.ret (.blt .tuple1 (.cons (.var 3) (.nil)))) (.nil)))
/-! law -/
def N_law : List Str := ["_law_script", "_law_pen", "_law_turn", "_law_again", "_law_x", "_law_k", "_law_wrong", "_law_odd", "_law_sizes", "_law_left", "_law_end", "_law_text", "_law_word", "_law_told", "_law_total", "_law_unit", "_law_one", "_law_many"]
def ir_law : IR := .cons (.setO 1 (.cal 0 (.cons (.var 0) (.nil)))) (.cons (.fo (.nm 2) (.iRng (.cons (.lit (.int 4)) (.nil))) (.cons (.par [(8, true), (9, false)] (.cons (.lst (.nil)) (.cons (.bin .Pow (.lit (.int 10)) (.lit (.int 40))) (.nil)))) (.cons (.fo (.nm 3) (.iRng (.cons (.cal 2 (.cons (.lend 1) (.cons (.lit (.int 9)) (.nil)))) (.nil))) (.cons (.app 8 (.blt .min2 (.cons (.var 9) (.cons (.cal 10 (.cons (.lend 1) (.cons (.lst (.cons (.lit (.int 1)) (.cons (.lit (.int 2)) (.cons (.lit (.int 3)) (.cons (.lit (.int 10)) (.cons (.bin .Pow (.lit (.int 10)) (.lit (.int 9))) (.cons (.bin .Pow (.lit (.int 10)) (.lit (.int 20))) (.cons (.bin .Add (.lit (.int 1)) (.cal 2 (.cons (.lend 1) (.cons (.lit (.int 1000)) (.nil))))) (.nil))))))))) (.nil)))) (.nil))))) (.cons (.set 9 (.bin .FloorDiv (.var 9) (.idx (.var 8) (.neg (.lit (.int 1)))))) (.nil)))) (.cons (.par [(10, false), (11, false)] (.cons (.cal 3 (.cons (.var 8) (.nil))) (.cons (.blt .repr1 (.cons (.var 8) (.nil))) (.nil)))) (.cons (.fo (.nm 4) (.iSeq (.lst (.cons (.lit (.int 0)) (.cons (.bin .Sub (.var 10) (.lit (.int 1))) (.cons (.cal 2 (.cons (.lend 1) (.cons (.var 10) (.nil)))) (.cons (.cal 2 (.cons (.lend 1) (.cons (.var 10) (.nil)))) (.nil))))))) (.cons (.unp (.cons (.nm 12) (.cons (.nm 13) (.nil))) (.cal 9 (.cons (.var 8) (.cons (.var 4) (.nil))))) (.cons (.ifs (.bop .Or (.cons (.cmp .NotEq (.var 12) (.lit (.str "fine"))) (.cons (.nt (.cal 11 (.cons (.var 13) (.cons (.cal 12 (.cons (.var 8) (.cons (.var 4) (.nil)))) (.nil))))) (.nil)))) (.cons (.ret (.lit (.bool false))) (.nil)) (.nil)) (.cons (.par [(14, false), (15, false)] (.cons (.lit (.int 0)) (.cons (.lit (.int 1)) (.nil)))) (.cons (.fo (.cons (.nm 16) (.cons (.nm 17) (.nil))) (.iZip none (.var 13) (.var 8)) (.cons (.par [(14, false), (15, false)] (.cons (.bin .Add (.var 14) (.bin .Mult (.var 16) (.var 15))) (.cons (.bin .Mult (.var 15) (.var 17)) (.nil)))) (.nil))) (.cons (.ifs (.cmp .NotEq (.var 14) (.var 4)) (.cons (.ret (.lit (.bool false))) (.nil)) (.nil)) (.nil))))))) (.cons (.fo (.nm 4) (.iSeq (.lst (.cons (.var 10) (.cons (.neg (.lit (.int 1))) (.cons (.lit (.bool true)) (.cons (.lit .none) (.cons (.lit (.str "0")) (.cons (.tup (.cons (.lit (.int 0)) (.nil))) (.nil))))))))) (.cons (.ifs (.cmp .NotEq (.idx (.cal 9 (.cons (.var 8) (.cons (.var 4) (.nil)))) (.lit (.int 0))) (.lit (.str "index"))) (.cons (.ret (.lit (.bool false))) (.nil)) (.nil)) (.nil))) (.cons (.set 5 (.cal 2 (.cons (.lend 1) (.cons (.bin .Add (.blt .len (.cons (.var 8) (.nil))) (.lit (.int 1))) (.nil))))) (.cons (.set 6 (.lc [("_law_odd", 7)] (.nm 7) (.iSeq (.lst (.cons (.lit (.int 0)) (.cons (.neg (.lit (.int 1))) (.cons (.bin .Add (.bin .Pow (.lit (.int 10)) (.lit (.int 40))) (.lit (.int 1))) (.cons (.lit .none) (.cons (.lit (.bool true)) (.cons (.lit (.str "2")) (.cons (.tup (.cons (.lit (.int 2)) (.nil))) (.nil)))))))))) (.nil) (.bin .Add (.bin .Add (.sli (.var 8) (.nil) (.var 5)) (.lst (.cons (.var 7) (.nil)))) (.sli (.var 8) (.var 5) (.nil))))) (.cons (.set 6 (.bin .Add (.var 6) (.lst (.cons (.blt .tuple1 (.cons (.var 8) (.nil))) (.cons (.lit .none) (.cons (.dct) (.cons (.bin .Mult (.lst (.cons (.lit (.int 1)) (.nil))) (.lit (.int 201))) (.cons (.lst (.cons (.bin .Pow (.lit (.int 10)) (.lit (.int 20))) (.cons (.bin .Add (.bin .Pow (.lit (.int 10)) (.lit (.int 20))) (.lit (.int 1))) (.nil)))) (.cons (.lit (.int 5)) (.nil)))))))))) (.cons (.fo (.nm 7) (.iSeq (.var 6)) (.cons (.ifs (.bop .Or (.cons (.cmp .NotEq (.idx (.cal 9 (.cons (.var 7) (.cons (.cal 10 (.cons (.lend 1) (.cons (.lst (.cons (.lit (.int 0)) (.cons (.neg (.lit (.int 1))) (.cons (.lit .none) (.nil))))) (.nil)))) (.nil)))) (.lit (.int 0))) (.lit (.str "sizes"))) (.cons (.cmp .NotEq (.blt .repr1 (.cons (.var 8) (.nil))) (.var 11)) (.nil)))) (.cons (.ret (.lit (.bool false))) (.nil)) (.nil)) (.nil))) (.nil))))))))))) (.cons (.ret (.bop .And (.cons (.cmp .Eq (.cal 9 (.cons (.bin .Mult (.lst (.cons (.lit (.int 1)) (.nil))) (.lit (.int 200))) (.cons (.lit (.int 0)) (.nil)))) (.tup (.cons (.lit (.str "fine")) (.cons (.bin .Mult (.tup (.cons (.lit (.int 0)) (.nil))) (.lit (.int 200))) (.nil))))) (.cons (.cmp .Eq (.cal 9 (.cons (.lst (.nil)) (.cons (.lit (.int 0)) (.nil)))) (.tup (.cons (.lit (.str "fine")) (.cons (.tup (.nil)) (.nil))))) (.nil))))) (.nil)))
-- places: [('_law_open', 14, 1, 4, False, ['_law_script']), ('_law_spread', 15, 2, 6, False, ['_law_cell', '_law_at']), ('_law_take', 16, 2, 5, False, ['_law_pen', '_law_amount']), ('_law_product', 21, 1, 3, False, ['_law_sizes']), ('end_of', 9, 1, 3, False, ['sizes']), ('is_integer', 7, 3, 3, False, ['thing', 'least', 'most']), ('need_sizes', 10, 1, 2, False, ['sizes']), ('raw_coordinates', 11, 2, 5, False, ['sizes', 'x']), ('coordinates_of', 12, 2, 2, False, ['sizes', 'x']), ('_law_answer', 20, 2, 4, False, ['_law_sizes', '_law_x']), ('_law_one_of', 18, 2, 2, False, ['_law_pen', '_law_some']), ('_law_same', 17, 2, 4, True, ['_law_found', '_law_due']), ('_law_coordinates', 19, 2, 5, False, ['_law_sizes', '_law_x']), ('law', 22, 1, 18, False, ['_law_script'])]
abbrev defs : List Str := ["_law_open", "_law_spread", "_law_take", "_law_product", "end_of", "is_integer", "need_sizes", "raw_coordinates", "coordinates_of", "_law_answer", "_law_one_of", "_law_same", "_law_coordinates", "law"]
def fn : List He.DefD := [dfn "_law_open" (top 14), dfn "_law_spread" (top 15), dfn "_law_take" (top 16), dfn "_law_product" (top 21), dfn "end_of" (top 9), dfn "is_integer" (top 7), dfn "need_sizes" (top 10), dfn "raw_coordinates" (top 11), dfn "coordinates_of" (top 12), dfn "_law_answer" (top 20), dfn "_law_one_of" (top 18), dfn "_law_same" (top 17), dfn "_law_coordinates" (top 19), dfn "law" (top 22)]
noncomputable abbrev cs0 : List Ce := []
noncomputable abbrev c0 : Ce := ⟨"_law_open", 1, semOf ⟨cs0, con, exc, sub⟩ ir__law_open 4⟩
noncomputable abbrev cs1 : List Ce := cs0 ++ [c0]
noncomputable abbrev c1 : Ce := ⟨"_law_spread", 2, semOf ⟨cs1, con, exc, sub⟩ ir__law_spread 6⟩
noncomputable abbrev cs2 : List Ce := cs1 ++ [c1]
noncomputable abbrev c2 : Ce := ⟨"_law_take", 2, semOf ⟨cs2, con, exc, sub⟩ ir__law_take 5⟩
noncomputable abbrev cs3 : List Ce := cs2 ++ [c2]
noncomputable abbrev c3 : Ce := ⟨"_law_product", 1, semOf ⟨cs3, con, exc, sub⟩ ir__law_product 3⟩
noncomputable abbrev cs4 : List Ce := cs3 ++ [c3]
noncomputable abbrev c4 : Ce := ⟨"end_of", 1, semOf ⟨cs4, con, exc, sub⟩ ir_end_of 3⟩
noncomputable abbrev cs5 : List Ce := cs4 ++ [c4]
noncomputable abbrev c5 : Ce := ⟨"is_integer", 3, semOf ⟨cs5, con, exc, sub⟩ ir_is_integer 3⟩
noncomputable abbrev cs6 : List Ce := cs5 ++ [c5]
noncomputable abbrev c6 : Ce := ⟨"need_sizes", 1, semOf ⟨cs6, con, exc, sub⟩ ir_need_sizes 2⟩
noncomputable abbrev cs7 : List Ce := cs6 ++ [c6]
noncomputable abbrev c7 : Ce := ⟨"raw_coordinates", 2, semOf ⟨cs7, con, exc, sub⟩ ir_raw_coordinates 5⟩
noncomputable abbrev cs8 : List Ce := cs7 ++ [c7]
noncomputable abbrev c8 : Ce := ⟨"coordinates_of", 2, semOf ⟨cs8, con, exc, sub⟩ ir_coordinates_of 2⟩
noncomputable abbrev cs9 : List Ce := cs8 ++ [c8]
noncomputable abbrev c9 : Ce := ⟨"_law_answer", 2, semOf ⟨cs9, con, exc, sub⟩ ir__law_answer 4⟩
noncomputable abbrev cs10 : List Ce := cs9 ++ [c9]
noncomputable abbrev c10 : Ce := ⟨"_law_one_of", 2, semOf ⟨cs10, con, exc, sub⟩ ir__law_one_of 2⟩
noncomputable abbrev cs11 : List Ce := cs10 ++ [c10]
noncomputable abbrev c11 : Ce := ⟨"_law_same", 2, recF cs11 con exc sub "_law_same" 2 ir__law_same 4 4⟩
noncomputable abbrev cs12 : List Ce := cs11 ++ [c11]
noncomputable abbrev c12 : Ce := ⟨"_law_coordinates", 2, semOf ⟨cs12, con, exc, sub⟩ ir__law_coordinates 5⟩
noncomputable abbrev cs13 : List Ce := cs12 ++ [c12]
theorem sc__law_open : C8.scC N__law_open ["_law_script"] (defScope (top 14)) = true := by decide +kernel
theorem mt__law_open : (mt ⟨cs0, con, exc, sub⟩ N__law_open ir__law_open).ss (defScope (top 14)) (defBody (top 14)) = true := by kernel_rfl
theorem sc__law_spread : C8.scC N__law_spread ["_law_cell", "_law_at"] (defScope (top 15)) = true := by decide +kernel
theorem mt__law_spread : (mt ⟨cs1, con, exc, sub⟩ N__law_spread ir__law_spread).ss (defScope (top 15)) (defBody (top 15)) = true := by kernel_rfl
theorem sc__law_take : C8.scC N__law_take ["_law_pen", "_law_amount"] (defScope (top 16)) = true := by decide +kernel
theorem mt__law_take : (mt ⟨cs2, con, exc, sub⟩ N__law_take ir__law_take).ss (defScope (top 16)) (defBody (top 16)) = true := by kernel_rfl
theorem sc__law_product : C8.scC N__law_product ["_law_sizes"] (defScope (top 21)) = true := by decide +kernel
theorem mt__law_product : (mt ⟨cs3, con, exc, sub⟩ N__law_product ir__law_product).ss (defScope (top 21)) (defBody (top 21)) = true := by kernel_rfl
theorem sc_end_of : C8.scC N_end_of ["sizes"] (defScope (top 9)) = true := by decide +kernel
theorem mt_end_of : (mt ⟨cs4, con, exc, sub⟩ N_end_of ir_end_of).ss (defScope (top 9)) (defBody (top 9)) = true := by kernel_rfl
theorem sc_is_integer : C8.scC N_is_integer ["thing", "least", "most"] (defScope (top 7)) = true := by decide +kernel
theorem mt_is_integer : (mt ⟨cs5, con, exc, sub⟩ N_is_integer ir_is_integer).ss (defScope (top 7)) (defBody (top 7)) = true := by kernel_rfl
theorem sc_need_sizes : C8.scC N_need_sizes ["sizes"] (defScope (top 10)) = true := by decide +kernel
theorem mt_need_sizes : (mt ⟨cs6, con, exc, sub⟩ N_need_sizes ir_need_sizes).ss (defScope (top 10)) (defBody (top 10)) = true := by kernel_rfl
theorem sc_raw_coordinates : C8.scC N_raw_coordinates ["sizes", "x"] (defScope (top 11)) = true := by decide +kernel
theorem mt_raw_coordinates : (mt ⟨cs7, con, exc, sub⟩ N_raw_coordinates ir_raw_coordinates).ss (defScope (top 11)) (defBody (top 11)) = true := by kernel_rfl
theorem sc_coordinates_of : C8.scC N_coordinates_of ["sizes", "x"] (defScope (top 12)) = true := by decide +kernel
theorem mt_coordinates_of : (mt ⟨cs8, con, exc, sub⟩ N_coordinates_of ir_coordinates_of).ss (defScope (top 12)) (defBody (top 12)) = true := by kernel_rfl
theorem sc__law_answer : C8.scC N__law_answer ["_law_sizes", "_law_x"] (defScope (top 20)) = true := by decide +kernel
theorem mt__law_answer : (mt ⟨cs9, con, exc, sub⟩ N__law_answer ir__law_answer).ss (defScope (top 20)) (defBody (top 20)) = true := by kernel_rfl
theorem sc__law_one_of : C8.scC N__law_one_of ["_law_pen", "_law_some"] (defScope (top 18)) = true := by decide +kernel
theorem mt__law_one_of : (mt ⟨cs10, con, exc, sub⟩ N__law_one_of ir__law_one_of).ss (defScope (top 18)) (defBody (top 18)) = true := by kernel_rfl
theorem sc__law_same : C8.scC N__law_same ["_law_found", "_law_due"] (defScope (top 17)) = true := by decide +kernel
theorem mt__law_same : ∀ f : Fn, (mt ⟨cs11 ++ [⟨"_law_same", 2, f⟩], con, exc, sub⟩ N__law_same ir__law_same).ss (defScope (top 17)) (defBody (top 17)) = true := fun _ => by kernel_rfl
theorem sc__law_coordinates : C8.scC N__law_coordinates ["_law_sizes", "_law_x"] (defScope (top 19)) = true := by decide +kernel
theorem mt__law_coordinates : (mt ⟨cs12, con, exc, sub⟩ N__law_coordinates ir__law_coordinates).ss (defScope (top 19)) (defBody (top 19)) = true := by kernel_rfl
theorem sc_law : C8.scC N_law ["_law_script"] (defScope (top 22)) = true := by decide +kernel
theorem mt_law : (mt ⟨cs13, con, exc, sub⟩ N_law ir_law).ss (defScope (top 22)) (defBody (top 22)) = true := by kernel_rfl
section
variable {P : Program} {w : World} {K : PySem.W.Frag} {mg : Str → Option Value} {h base : Heap}
theorem cals0 : CalsM 0 P w K mg base cs0 := CalsM.nil
theorem cals1 (s : Says defs con exc sub fn K h mg) : CalsM (0 + 1) P w K mg base cs1 := (cals0).cons (Says.step s (cals0) (st := top 14) (N := N__law_open) (ps := ["_law_script"]) (by simp [fn]) (by simp) (fun _ _ _ _ _ _ us hl => match us, hl with | [_], _ => rfl) sc__law_open mt__law_open rfl rfl)
theorem cals2 (s : Says defs con exc sub fn K h mg) : CalsM (1 + 1) P w K mg base cs2 := (cals1 s).cons (Says.step s (cals1 s) (st := top 15) (N := N__law_spread) (ps := ["_law_cell", "_law_at"]) (by simp [fn]) (by simp) (fun _ _ _ _ _ _ us hl => match us, hl with | [_, _], _ => rfl) sc__law_spread mt__law_spread rfl rfl)
theorem cals3 (s : Says defs con exc sub fn K h mg) : CalsM (2 + 1) P w K mg base cs3 := (cals2 s).cons (Says.step s (cals2 s) (st := top 16) (N := N__law_take) (ps := ["_law_pen", "_law_amount"]) (by simp [fn]) (by simp) (fun _ _ _ _ _ _ us hl => match us, hl with | [_, _], _ => rfl) sc__law_take mt__law_take rfl rfl)
theorem cals4 (s : Says defs con exc sub fn K h mg) : CalsM (3 + 1) P w K mg base cs4 := (cals3 s).cons (Says.step s (cals3 s) (st := top 21) (N := N__law_product) (ps := ["_law_sizes"]) (by simp [fn]) (by simp) (fun _ _ _ _ _ _ us hl => match us, hl with | [_], _ => rfl) sc__law_product mt__law_product rfl rfl)
theorem cals5 (s : Says defs con exc sub fn K h mg) : CalsM (4 + 1) P w K mg base cs5 := (cals4 s).cons (Says.step s (cals4 s) (st := top 9) (N := N_end_of) (ps := ["sizes"]) (by simp [fn]) (by simp) (fun _ _ _ _ _ _ us hl => match us, hl with | [_], _ => rfl) sc_end_of mt_end_of rfl rfl)
theorem cals6 (s : Says defs con exc sub fn K h mg) : CalsM (5 + 1) P w K mg base cs6 := (cals5 s).cons (Says.step s (cals5 s) (st := top 7) (N := N_is_integer) (ps := ["thing", "least", "most"]) (by simp [fn]) (by simp) (fun _ _ _ _ _ _ us hl => match us, hl with | [_, _, _], _ => rfl) sc_is_integer mt_is_integer rfl rfl)
theorem cals7 (s : Says defs con exc sub fn K h mg) : CalsM (6 + 1) P w K mg base cs7 := (cals6 s).cons (Says.step s (cals6 s) (st := top 10) (N := N_need_sizes) (ps := ["sizes"]) (by simp [fn]) (by simp) (fun _ _ _ _ _ _ us hl => match us, hl with | [_], _ => rfl) sc_need_sizes mt_need_sizes rfl rfl)
theorem cals8 (s : Says defs con exc sub fn K h mg) : CalsM (7 + 1) P w K mg base cs8 := (cals7 s).cons (Says.step s (cals7 s) (st := top 11) (N := N_raw_coordinates) (ps := ["sizes", "x"]) (by simp [fn]) (by simp) (fun _ _ _ _ _ _ us hl => match us, hl with | [_, _], _ => rfl) sc_raw_coordinates mt_raw_coordinates rfl rfl)
theorem cals9 (s : Says defs con exc sub fn K h mg) : CalsM (8 + 1) P w K mg base cs9 := (cals8 s).cons (Says.step s (cals8 s) (st := top 12) (N := N_coordinates_of) (ps := ["sizes", "x"]) (by simp [fn]) (by simp) (fun _ _ _ _ _ _ us hl => match us, hl with | [_, _], _ => rfl) sc_coordinates_of mt_coordinates_of rfl rfl)
theorem cals10 (s : Says defs con exc sub fn K h mg) : CalsM (9 + 1) P w K mg base cs10 := (cals9 s).cons (Says.step s (cals9 s) (st := top 20) (N := N__law_answer) (ps := ["_law_sizes", "_law_x"]) (by simp [fn]) (by simp) (fun _ _ _ _ _ _ us hl => match us, hl with | [_, _], _ => rfl) sc__law_answer mt__law_answer rfl rfl)
theorem cals11 (s : Says defs con exc sub fn K h mg) : CalsM (10 + 1) P w K mg base cs11 := (cals10 s).cons (Says.step s (cals10 s) (st := top 18) (N := N__law_one_of) (ps := ["_law_pen", "_law_some"]) (by simp [fn]) (by simp) (fun _ _ _ _ _ _ us hl => match us, hl with | [_, _], _ => rfl) sc__law_one_of mt__law_one_of rfl rfl)
theorem cals12 (s : Says defs con exc sub fn K h mg) : CalsM (11 + 4) P w K mg base cs12 := (cals11 s).consR (Says.stepR s (cals11 s) (st := top 17) (N := N__law_same) (ps := ["_law_found", "_law_due"]) (by simp [fn]) (by simp) (fun _ _ _ _ _ _ us hl => match us, hl with | [_, _], _ => rfl) sc__law_same mt__law_same rfl rfl 4)
theorem cals13 (s : Says defs con exc sub fn K h mg) : CalsM (15 + 1) P w K mg base cs13 := (cals12 s).cons (Says.step s (cals12 s) (st := top 19) (N := N__law_coordinates) (ps := ["_law_sizes", "_law_x"]) (by simp [fn]) (by simp) (fun _ _ _ _ _ _ us hl => match us, hl with | [_, _], _ => rfl) sc__law_coordinates mt__law_coordinates rfl rfl)
noncomputable abbrev lawF : Fn := semOf ⟨cs13, con, exc, sub⟩ ir_law 18
theorem lawG (s : Says defs con exc sub fn K h mg) : ∀ fa : Addr, mg ("law" : Str) = some (.ref fa) → ∃ fd : FuncData, (∀ (s : Shared) (u : Value), BindsTo s fd ⟨[u], []⟩ [(("_law_script" : Str), u)]) ∧ ∀ base : Heap, GFn P w K mg base (16 + 1) fa fd ["_law_script"] (spOf mg lawF) :=
  Says.lawG s (fun base => cals13 s) (st := top 22) (N := N_law) (by simp [fn]) (by simp) (fun _ _ _ _ _ _ _ => rfl) sc_law mt_law rfl
end
-- level 17
end K10

set_option maxHeartbeats 400000
namespace K10
open DL
open PySem PySem.Spec PyProof.Rows L2
/-! ### numbers -/
theorem log2_lt {n a : Nat} (h : n < 2 ^ a) (ha : 0 < a) : n.log2 < a := by
  by_cases z : n = 0
  · subst z
    simpa using ha
  · exact (Nat.log2_lt z).mpr h
theorem okMul_of {i j : Int} {a b : Nat} (h1 : i.natAbs < 2 ^ a) (h2 : j.natAbs < 2 ^ b) (ha : 0 < a) (hb : 0 < b) (h : a + b < 1000000) : okMul i j = true := by
  have q1 := log2_lt h1 ha
  have q2 := log2_lt h2 hb
  exact decide_eq_true (by omega)
theorem okDiv_of {j : Int} {b : Nat} (h0 : 0 < j) (h : j.natAbs < 2 ^ b) (hb : 0 < b) (hb2 : b ≤ 9000) : okDiv j = true := by
  have q := log2_lt h hb
  exact Bool.and_eq_true_iff.mpr ⟨decide_eq_true h0, decide_eq_true (by omega)⟩
abbrev dI (l : List Int) : D := .list (l.map PyData.int)
def prod : List Int → Int
  | [] => 1
  | x :: l => x * prod l
/-! ### a product -/
theorem prod_loop {G : Ge} {v : Option SV} {μ : List Cell} {B : Nat} (hB : 0 < B) : ∀ (l : List Int) (acc : Int) (z : Option SV) (m : Nat), (∀ x ∈ l, x.natAbs < 2 ^ B) → acc.natAbs < 2 ^ (B * m) → 0 < m → B * (m + l.length) < 400000 →
    ∃ z', forR (Tg.nm 2).f.one (den G (.cons (.set 1 (.bin .Mult (.var 1) (.var 2))) .nil)).s (l.map PyData.int) [v, some (.dat (.int acc)), z] μ = .nx [v, some (.dat (.int (acc * prod l))), z'] μ
  | [], acc, z, m, _, _, _, _ => ⟨z, by rw [show prod [] = 1 from rfl, Int.mul_one]; rfl⟩
  | x :: l, acc, z, m, h1, h2, h3, h4 => by
    have hx := h1 x (List.mem_cons_self ..)
    have hm : okMul acc x = true := okMul_of h2 hx (Nat.mul_pos hB h3) hB (by
      have e1 : B * (m + (x :: l).length) = B * m + (B * l.length + B) := by rw [Nat.mul_add, List.length_cons, Nat.mul_add, Nat.mul_one]
      rw [e1] at h4
      omega)
    have hn : (acc * x).natAbs < 2 ^ (B * (m + 1)) := by
      rw [Int.natAbs_mul, Nat.mul_add, Nat.mul_one, Nat.pow_add]
      exact Nat.mul_lt_mul'' h2 hx
    obtain ⟨z', e⟩ := prod_loop (G := G) (v := v) (μ := μ) hB l (acc * x) (some (.dat (.int x))) (m + 1) (fun y hy => h1 y (List.mem_cons_of_mem _ hy)) hn (by omega) (by
      have e : m + 1 + l.length = m + (x :: l).length := by simp; omega
      rw [e]
      exact h4)
    refine ⟨z', ?_⟩
    rw [show acc * prod (x :: l) = acc * x * prod l from by rw [Int.mul_assoc]; rfl, ← e]
    refine for_nx (ρ1 := [v, some (.dat (.int acc)), some (.dat (.int x))]) rfl ?_
    simp only [b_ok, b_exc, st_ok, st_exc, sq_nx, sq_rt, sq_bk, sq_ct, sq_exc, of_some, nox_ok, lk_dat, lk_fre, kp_dat, kp_fre, asB_b, asI_i, dB_, tR, s_nil, s_cons, s_pass, s_ret, s_xpr, s_set, s_setO, s_unp, s_sti, s_ifs, s_fo, s_rai, e_var, e_lit, e_dct, e_glb, e_bin, e_neg, e_nt, e_cmp, e_chn, e_bop, c_one, c_and, c_or, e_ife, e_tup, e_lst, e_idx, e_sli, e_blt, e_isi, e_lc0, k_nil, k_cons, bl_nil, bl_cons, a_nil, a_cons, o_nil, o_var, o_lit, intO_i, av_dat, av_fre, av_own, av_var, av_lit, av_glb, av_bin, av_idx, av_lst, av_tup, av_cal, av_blt, av_lend, i_seq, i_rng, sl_0, sl_s, lks_nil, s_par, pn_nil, pn_f, pn_t, st_nil, st_cons, s_app2, ow_0, ow_s, cm_eqi, cm_nei, cm_nes, cm_eqs, cm_neb, rv_dat, rv_fre, lk_0, lk_1, lk_2, i3_0, i3_1, i3_2, t3_1, t3_2, ka_dat, ka_fre, ka_own, tn_fre, tg_nm, bi_add, bi_sub, cm_lt, cm_le, cm_gt, cm_ge, cm_is, bt_len, bt_lenT, bt_int, bt_list, bt_tuple, bt_min, List.set_cons_zero, List.set_cons_succ, cond_true, cond_false, bi_mul hm]
theorem prod_sem {G : Ge} (l : List Int) (h1 : ∀ x ∈ l, x.natAbs < 2 ^ 133) (h2 : l.length ≤ 1000) : semOf G ir_end_of 3 [.dat (dI l)] = some (.ret (.dat (.int (prod l))) []) := by
  obtain ⟨z', e⟩ := prod_loop (G := G) (v := some (.dat (dI l))) (μ := []) (B := 133) (by omega) l 1 none 1 h1 (by decide) (by omega) (by omega)
  rw [Int.one_mul] at e
  unfold semOf
  show outOf 0 ((den G ir_end_of).s [some (.dat (dI l)), none, none] []) = _
  unfold ir_end_of
  simp only [b_ok, b_exc, st_ok, st_exc, sq_nx, sq_rt, sq_bk, sq_ct, sq_exc, of_some, nox_ok, lk_dat, lk_fre, kp_dat, kp_fre, asB_b, asI_i, dB_, tR, s_nil, s_cons, s_pass, s_ret, s_xpr, s_set, s_setO, s_unp, s_sti, s_ifs, s_fo, s_rai, e_var, e_lit, e_dct, e_glb, e_bin, e_neg, e_nt, e_cmp, e_chn, e_bop, c_one, c_and, c_or, e_ife, e_tup, e_lst, e_idx, e_sli, e_blt, e_isi, e_lc0, k_nil, k_cons, bl_nil, bl_cons, a_nil, a_cons, o_nil, o_var, o_lit, intO_i, av_dat, av_fre, av_own, av_var, av_lit, av_glb, av_bin, av_idx, av_lst, av_tup, av_cal, av_blt, av_lend, i_seq, i_rng, sl_0, sl_s, lks_nil, s_par, pn_nil, pn_f, pn_t, st_nil, st_cons, s_app2, ow_0, ow_s, cm_eqi, cm_nei, cm_nes, cm_eqs, cm_neb, rv_dat, rv_fre, lk_0, lk_1, lk_2, i3_0, i3_1, i3_2, t3_1, t3_2, ka_dat, ka_fre, ka_own, tn_fre, tg_nm, bi_add, bi_sub, cm_lt, cm_le, cm_gt, cm_ge, cm_is, bt_len, bt_lenT, bt_int, bt_list, bt_tuple, bt_min, List.set_cons_zero, List.set_cons_succ, cond_true, cond_false, itemsD, e]
  rfl
def isint : D → Int → Int → Bool
  | .int i, lo, hi => decide (lo ≤ i) && decide (i ≤ hi)
  | _, _, _ => false
theorem isint_sem (d : D) (lo hi : Int) : c5.sem [.dat d, .dat (.int lo), .dat (.int hi)] = some (.ret (.dat (.bool (isint d lo hi))) []) := by
  show outOf 0 ((den _ ir_is_integer).s [some (.dat d), some (.dat (.int lo)), some (.dat (.int hi))] []) = _
  unfold ir_is_integer
  cases d with
  | int i =>
    simp only [b_ok, b_exc, st_ok, st_exc, sq_nx, sq_rt, sq_bk, sq_ct, sq_exc, of_some, nox_ok, lk_dat, lk_fre, kp_dat, kp_fre, asB_b, asI_i, dB_, tR, s_nil, s_cons, s_pass, s_ret, s_xpr, s_set, s_setO, s_unp, s_sti, s_ifs, s_fo, s_rai, e_var, e_lit, e_dct, e_glb, e_bin, e_neg, e_nt, e_cmp, e_chn, e_bop, c_one, c_and, c_or, e_ife, e_tup, e_lst, e_idx, e_sli, e_blt, e_isi, e_lc0, k_nil, k_cons, bl_nil, bl_cons, a_nil, a_cons, o_nil, o_var, o_lit, intO_i, av_dat, av_fre, av_own, av_var, av_lit, av_glb, av_bin, av_idx, av_lst, av_tup, av_cal, av_blt, av_lend, i_seq, i_rng, sl_0, sl_s, lks_nil, s_par, pn_nil, pn_f, pn_t, st_nil, st_cons, s_app2, ow_0, ow_s, cm_eqi, cm_nei, cm_nes, cm_eqs, cm_neb, rv_dat, rv_fre, lk_0, lk_1, lk_2, i3_0, i3_1, i3_2, t3_1, t3_2, ka_dat, ka_fre, ka_own, tn_fre, tg_nm, bi_add, bi_sub, cm_lt, cm_le, cm_gt, cm_ge, cm_is, bt_len, bt_lenT, bt_int, bt_list, bt_tuple, bt_min, List.set_cons_zero, List.set_cons_succ, cond_true, cond_false, List.any_cons, List.any_nil, isTy, Bool.or_false, Bool.not_false, Bool.not_true, isint]
    by_cases h : lo ≤ i <;> by_cases g : i ≤ hi <;> (simp only [h, g, decide_true, decide_false, b_ok, b_exc, st_ok, st_exc, sq_nx, sq_rt, sq_bk, sq_ct, sq_exc, of_some, nox_ok, lk_dat, lk_fre, kp_dat, kp_fre, asB_b, asI_i, dB_, tR, s_nil, s_cons, s_pass, s_ret, s_xpr, s_set, s_setO, s_unp, s_sti, s_ifs, s_fo, s_rai, e_var, e_lit, e_dct, e_glb, e_bin, e_neg, e_nt, e_cmp, e_chn, e_bop, c_one, c_and, c_or, e_ife, e_tup, e_lst, e_idx, e_sli, e_blt, e_isi, e_lc0, k_nil, k_cons, bl_nil, bl_cons, a_nil, a_cons, o_nil, o_var, o_lit, intO_i, av_dat, av_fre, av_own, av_var, av_lit, av_glb, av_bin, av_idx, av_lst, av_tup, av_cal, av_blt, av_lend, i_seq, i_rng, sl_0, sl_s, lks_nil, s_par, pn_nil, pn_f, pn_t, st_nil, st_cons, s_app2, ow_0, ow_s, cm_eqi, cm_nei, cm_nes, cm_eqs, cm_neb, rv_dat, rv_fre, lk_0, lk_1, lk_2, i3_0, i3_1, i3_2, t3_1, t3_2, ka_dat, ka_fre, ka_own, tn_fre, tg_nm, bi_add, bi_sub, cm_lt, cm_le, cm_gt, cm_ge, cm_is, bt_len, bt_lenT, bt_int, bt_list, bt_tuple, bt_min, List.set_cons_zero, List.set_cons_succ, cond_true, cond_false]; rfl)
  | bool b =>
    simp only [b_ok, b_exc, st_ok, st_exc, sq_nx, sq_rt, sq_bk, sq_ct, sq_exc, of_some, nox_ok, lk_dat, lk_fre, kp_dat, kp_fre, asB_b, asI_i, dB_, tR, s_nil, s_cons, s_pass, s_ret, s_xpr, s_set, s_setO, s_unp, s_sti, s_ifs, s_fo, s_rai, e_var, e_lit, e_dct, e_glb, e_bin, e_neg, e_nt, e_cmp, e_chn, e_bop, c_one, c_and, c_or, e_ife, e_tup, e_lst, e_idx, e_sli, e_blt, e_isi, e_lc0, k_nil, k_cons, bl_nil, bl_cons, a_nil, a_cons, o_nil, o_var, o_lit, intO_i, av_dat, av_fre, av_own, av_var, av_lit, av_glb, av_bin, av_idx, av_lst, av_tup, av_cal, av_blt, av_lend, i_seq, i_rng, sl_0, sl_s, lks_nil, s_par, pn_nil, pn_f, pn_t, st_nil, st_cons, s_app2, ow_0, ow_s, cm_eqi, cm_nei, cm_nes, cm_eqs, cm_neb, rv_dat, rv_fre, lk_0, lk_1, lk_2, i3_0, i3_1, i3_2, t3_1, t3_2, ka_dat, ka_fre, ka_own, tn_fre, tg_nm, bi_add, bi_sub, cm_lt, cm_le, cm_gt, cm_ge, cm_is, bt_len, bt_lenT, bt_int, bt_list, bt_tuple, bt_min, List.set_cons_zero, List.set_cons_succ, cond_true, cond_false, List.any_cons, List.any_nil, isTy, Bool.or_false, Bool.not_false, Bool.not_true, isint]
    rfl
  | _ =>
    simp only [b_ok, b_exc, st_ok, st_exc, sq_nx, sq_rt, sq_bk, sq_ct, sq_exc, of_some, nox_ok, lk_dat, lk_fre, kp_dat, kp_fre, asB_b, asI_i, dB_, tR, s_nil, s_cons, s_pass, s_ret, s_xpr, s_set, s_setO, s_unp, s_sti, s_ifs, s_fo, s_rai, e_var, e_lit, e_dct, e_glb, e_bin, e_neg, e_nt, e_cmp, e_chn, e_bop, c_one, c_and, c_or, e_ife, e_tup, e_lst, e_idx, e_sli, e_blt, e_isi, e_lc0, k_nil, k_cons, bl_nil, bl_cons, a_nil, a_cons, o_nil, o_var, o_lit, intO_i, av_dat, av_fre, av_own, av_var, av_lit, av_glb, av_bin, av_idx, av_lst, av_tup, av_cal, av_blt, av_lend, i_seq, i_rng, sl_0, sl_s, lks_nil, s_par, pn_nil, pn_f, pn_t, st_nil, st_cons, s_app2, ow_0, ow_s, cm_eqi, cm_nei, cm_nes, cm_eqs, cm_neb, rv_dat, rv_fre, lk_0, lk_1, lk_2, i3_0, i3_1, i3_2, t3_1, t3_2, ka_dat, ka_fre, ka_own, tn_fre, tg_nm, bi_add, bi_sub, cm_lt, cm_le, cm_gt, cm_ge, cm_is, bt_len, bt_lenT, bt_int, bt_list, bt_tuple, bt_min, List.set_cons_zero, List.set_cons_succ, cond_true, cond_false, List.any_cons, List.any_nil, isTy, Bool.or_false, Bool.not_false, Bool.not_true, isint]
    rfl
/-! ### the pen -/
theorem ix_nn {n : Nat} {i : Int} (h0 : 0 ≤ i) (h1 : i < n) : ixN n i = some i.toNat := by
  unfold ixN
  rw [if_pos h0, if_pos h1]
theorem at_int {l : List Int} {i : Int} (h0 : 0 ≤ i) (h1 : i < l.length) : ∃ p, p ∈ l ∧ idxD (dI l) (.int i) = some (.int p) := by
  have hl : i.toNat < l.length := by omega
  refine ⟨l[i.toNat], List.getElem_mem hl, ?_⟩
  show atI (l.map PyData.int) i = _
  unfold atI
  rw [ix_nn h0 (by rw [List.length_map]; exact h1)]
  show (l.map PyData.int)[i.toNat]? = _
  rw [List.getElem?_map, List.getElem?_eq_getElem hl]
  rfl
def primes : List Int := [2147483629, 2147483587, 2147483579, 2147483563, 2147483549, 2147483543, 2147483497, 2147483489, 2147483477, 2147483423, 2147483399, 2147483353, 2147483323]
theorem prime_at (k : Int) : ∃ p : Int, 0 < p ∧ p < 2147483648 ∧ idxD (dI primes) (.int (k % 13)) = some (.int p) := by
  obtain ⟨p, hp, e⟩ := at_int (l := primes) (i := k % 13) (Int.emod_nonneg _ (by decide)) (Int.emod_lt_of_pos _ (by decide))
  have all : ∀ q ∈ primes, 0 < q ∧ q < 2147483648 := by decide
  exact ⟨p, (all p hp).1, (all p hp).2, e⟩
theorem okPow_of {i : Int} {n : Int} (h : i.natAbs < 2 ^ 64) (h0 : 0 ≤ n) (h1 : n ≤ 1000000) : okPow i n = true := by
  simp [okPow, h, h0, h1]
theorem mod_b (x : Int) {p : Int} (h : 0 < p) : 0 ≤ x % p ∧ x % p < p := ⟨Int.emod_nonneg _ (by omega), Int.emod_lt_of_pos _ h⟩
theorem mul_b {x y a b : Int} (h1 : 0 ≤ x) (h2 : x ≤ a) (h3 : 0 ≤ y) (h4 : y ≤ b) : 0 ≤ x * y ∧ x * y ≤ a * b := ⟨Int.mul_nonneg h1 h3, Int.mul_le_mul h2 h4 h3 (Int.le_trans h1 h2)⟩
theorem abs_lt {x b : Int} {k : Nat} (h0 : 0 ≤ x) (h : x ≤ b) (hb : b.toNat < 2 ^ k) : x.natAbs < 2 ^ k := by omega
theorem pr_cat : bin2 .Add (.list [.int 2147483629, .int 2147483587, .int 2147483579, .int 2147483563, .int 2147483549, .int 2147483543, .int 2147483497, .int 2147483489]) (.list [.int 2147483477, .int 2147483423, .int 2147483399, .int 2147483353, .int 2147483323]) = some (.fre (primes.map PyData.int)) := bi_cat (size7 (by decide))
theorem spread_sem {cell at_ : Int} (h0 : 0 ≤ at_) (h1 : at_ ≤ 100000) : ∃ r : Int, 0 ≤ r ∧ c1.sem [.dat (.int cell), .dat (.int at_)] = some (.ret (.dat (.int r)) []) := by
  have p18 : okPow 10 18 = true := by decide
  by_cases big : (10 : Int) ^ (18 : Int).toNat ≤ cell
  · refine ⟨cell, Int.le_trans (by decide) big, ?_⟩
    show outOf 0 ((den _ ir__law_spread).s [some (.dat (.int cell)), some (.dat (.int at_)), none, none, none, none] []) = _
    unfold ir__law_spread
    simp only [b_ok, b_exc, st_ok, st_exc, sq_nx, sq_rt, sq_bk, sq_ct, sq_exc, of_some, nox_ok, lk_dat, lk_fre, kp_dat, kp_fre, asB_b, asI_i, dB_, tR, s_nil, s_cons, s_pass, s_ret, s_xpr, s_set, s_setO, s_unp, s_sti, s_ifs, s_fo, s_rai, e_var, e_lit, e_dct, e_glb, e_bin, e_neg, e_nt, e_cmp, e_chn, e_bop, c_one, c_and, c_or, e_ife, e_tup, e_lst, e_idx, e_sli, e_blt, e_isi, e_lc0, k_nil, k_cons, bl_nil, bl_cons, a_nil, a_cons, o_nil, o_var, o_lit, intO_i, av_dat, av_fre, av_own, av_var, av_lit, av_glb, av_bin, av_idx, av_lst, av_tup, av_cal, av_blt, av_lend, i_seq, i_rng, sl_0, sl_s, lks_nil, s_par, pn_nil, pn_f, pn_t, st_nil, st_cons, s_app2, ow_0, ow_s, cm_eqi, cm_nei, cm_nes, cm_eqs, cm_neb, rv_dat, rv_fre, lk_0, lk_1, lk_2, i3_0, i3_1, i3_2, t3_1, t3_2, ka_dat, ka_fre, ka_own, tn_fre, tg_nm, bi_add, bi_sub, cm_lt, cm_le, cm_gt, cm_ge, cm_is, bt_len, bt_lenT, bt_int, bt_list, bt_tuple, bt_min, List.set_cons_zero, List.set_cons_succ, cond_true, cond_false, bi_pow p18, decide_eq_true big]
    rfl
  · obtain ⟨a0, a1⟩ := mod_b cell (p := 1000000007) (by decide)
    obtain ⟨b0, b1⟩ := mod_b cell (p := 65537) (by decide)
    -- u
    have m1 := mul_b a0 (Int.le_of_lt a1) (y := 2 * at_ + 69069) (b := 269069) (by omega) (by omega)
    have u0 : 0 ≤ cell % 1000000007 * (2 * at_ + 69069) + at_ * 40503 + 977 := by omega
    have u1 : cell % 1000000007 * (2 * at_ + 69069) + at_ * 40503 + 977 ≤ 400000000000000 := by omega
    generalize hu : cell % 1000000007 * (2 * at_ + 69069) + at_ * 40503 + 977 = u at u0 u1
    obtain ⟨p, hp0, hp1, ep⟩ := prime_at at_
    obtain ⟨q, hq0, hq1, eq⟩ := prime_at (at_ + 5)
    obtain ⟨r, hr0, hr1, er⟩ := prime_at (at_ + 7)
    obtain ⟨x0, x1⟩ := mod_b (u ^ (3 : Int).toNat) hp0
    generalize hx : u ^ (3 : Int).toNat % p = x at x0 x1
    have m2 := mul_b x0 (Int.le_of_lt (Int.lt_trans x1 hp1)) (y := at_ + 3) (b := 100003) (by omega) (by omega)
    have v0 : 0 ≤ x * (at_ + 3) + cell % 65537 + 5 := by omega
    have v1 : x * (at_ + 3) + cell % 65537 + 5 ≤ 400000000000000 := by omega
    generalize hv : x * (at_ + 3) + cell % 65537 + 5 = v at v0 v1
    obtain ⟨y0, y1⟩ := mod_b (v ^ (5 : Int).toNat) hq0
    generalize hy : v ^ (5 : Int).toNat % q = y at y0 y1
    obtain ⟨c0, c1'⟩ := mod_b x (p := 1009) (by decide)
    have w0 : 0 ≤ y + x % 1009 + at_ := by omega
    have w1 : y + x % 1009 + at_ ≤ 400000000000000 := by omega
    generalize hw : y + x % 1009 + at_ = w at w0 w1
    obtain ⟨z0, z1⟩ := mod_b (w ^ (3 : Int).toNat) hr0
    generalize hz : w ^ (3 : Int).toNat % r = z at z0 z1
    have t0 := mul_b x0 (Int.le_of_lt (Int.lt_trans x1 hp1)) (y := 2147483647) (b := 2147483647) (by decide) (by decide)
    have t1 : 0 ≤ x * 2147483647 + y := by omega
    have t2 : x * 2147483647 + y ≤ 2147483648 * 2147483648 := by omega
    have s0 := mul_b t1 t2 (y := 2147483647) (b := 2147483647) (by decide) (by decide)
    refine ⟨(x * 2147483647 + y) * 2147483647 + z, by omega, ?_⟩
    have k1 : okMul 2 at_ = true := okMul_of (a := 64) (b := 64) (by decide) (by omega) (by decide) (by decide) (by decide)
    have k2 : okMul (cell % 1000000007) (2 * at_ + 69069) = true := okMul_of (a := 64) (b := 64) (by omega) (by omega) (by decide) (by decide) (by decide)
    have k3 : okMul at_ 40503 = true := okMul_of (a := 64) (b := 64) (by omega) (by decide) (by decide) (by decide) (by decide)
    have k4 : okPow u 3 = true := okPow_of (by omega) (by decide) (by decide)
    have k5 : okMul x (at_ + 3) = true := okMul_of (a := 64) (b := 64) (by omega) (by omega) (by decide) (by decide) (by decide)
    have k6 : okPow v 5 = true := okPow_of (by omega) (by decide) (by decide)
    have k7 : okPow w 3 = true := okPow_of (by omega) (by decide) (by decide)
    have k8 : okMul x 2147483647 = true := okMul_of (a := 64) (b := 64) (by omega) (by decide) (by decide) (by decide) (by decide)
    have k9 : okMul (x * 2147483647 + y) 2147483647 = true := okMul_of (a := 70) (b := 64) (by omega) (by decide) (by decide) (by decide) (by decide)
    have big' : decide ((10 : Int) ^ (18 : Int).toNat ≤ cell) = false := decide_eq_false big
    have d1 : (0 : Int) < 1000000007 := by decide
    have d2 : (0 : Int) < 13 := by decide
    have d3 : (0 : Int) < 65537 := by decide
    have d4 : (0 : Int) < 1009 := by decide
    show outOf 0 ((den _ ir__law_spread).s [some (.dat (.int cell)), some (.dat (.int at_)), none, none, none, none] []) = _
    unfold ir__law_spread
    simp only [b_ok, b_exc, st_ok, st_exc, sq_nx, sq_rt, sq_bk, sq_ct, sq_exc, of_some, nox_ok, lk_dat, lk_fre, kp_dat, kp_fre, asB_b, asI_i, dB_, tR, s_nil, s_cons, s_pass, s_ret, s_xpr, s_set, s_setO, s_unp, s_sti, s_ifs, s_fo, s_rai, e_var, e_lit, e_dct, e_glb, e_bin, e_neg, e_nt, e_cmp, e_chn, e_bop, c_one, c_and, c_or, e_ife, e_tup, e_lst, e_idx, e_sli, e_blt, e_isi, e_lc0, k_nil, k_cons, bl_nil, bl_cons, a_nil, a_cons, o_nil, o_var, o_lit, intO_i, av_dat, av_fre, av_own, av_var, av_lit, av_glb, av_bin, av_idx, av_lst, av_tup, av_cal, av_blt, av_lend, i_seq, i_rng, sl_0, sl_s, lks_nil, s_par, pn_nil, pn_f, pn_t, st_nil, st_cons, s_app2, ow_0, ow_s, cm_eqi, cm_nei, cm_nes, cm_eqs, cm_neb, rv_dat, rv_fre, lk_0, lk_1, lk_2, i3_0, i3_1, i3_2, t3_1, t3_2, ka_dat, ka_fre, ka_own, tn_fre, tg_nm, bi_add, bi_sub, cm_lt, cm_le, cm_gt, cm_ge, cm_is, bt_len, bt_lenT, bt_int, bt_list, bt_tuple, bt_min, List.set_cons_zero, List.set_cons_succ, cond_true, cond_false, bi_pow p18, big', pr_cat, lks_dat lks_nil, bi_mod d1, bi_mod d2, bi_mod d3, bi_mod d4, bi_mul k1, bi_mul k2, bi_mul k3, hu, bi_pow k4, ep, bi_mod hp0, hx, bi_mul k5, hv, bi_pow k6, eq, bi_mod hq0, hy, hw, bi_pow k7, er, bi_mod hr0, hz, bi_mul k8, bi_mul k9]
    rfl
/-- the pen: its cells, its place, what is left -/
structure Pen (n : Nat) (ds : List D) : Prop where
  ex : ∃ (cells : List Int) (at_ v : Int), ds = [dI cells, .int at_, .int v] ∧ 0 ≤ at_ ∧ at_ ≤ n ∧ 0 ≤ v
/-- the end of a draw -/
theorem take_end {G : Ge} {cells : List Int} {at_ v m : Int} {a b c : Option SV} (hv : 0 ≤ v) (h0 : 0 < m) (h1 : m.natAbs < 2 ^ 8000) :
    outOf 1 ((den G (.cons (.set 2 (.bin .Mod (.blt .int1 (.cons (.idx (.var 0) (.lit (.int 2))) (.nil))) (.var 1))) (.cons (.sti 0 (.lit (.int 2)) (.bin .FloorDiv (.idx (.var 0) (.lit (.int 2))) (.var 1))) (.cons (.ret (.var 2)) (.nil))))).s [some (.own 0), some (.dat (.int m)), a, b, c] [⟨.arg, [dI cells, .int at_, .int v]⟩]) =
      some (.ret (.dat (.int (v % m))) [[dI cells, .int at_, .int (v / m)]]) := by
  have hd : okDiv m = true := okDiv_of h0 h1 (by decide) (by decide)
  simp only [b_ok, b_exc, st_ok, st_exc, sq_nx, sq_rt, sq_bk, sq_ct, sq_exc, of_some, nox_ok, lk_dat, lk_fre, kp_dat, kp_fre, asB_b, asI_i, dB_, tR, s_nil, s_cons, s_pass, s_ret, s_xpr, s_set, s_setO, s_unp, s_sti, s_ifs, s_fo, s_rai, e_var, e_lit, e_dct, e_glb, e_bin, e_neg, e_nt, e_cmp, e_chn, e_bop, c_one, c_and, c_or, e_ife, e_tup, e_lst, e_idx, e_sli, e_blt, e_isi, e_lc0, k_nil, k_cons, bl_nil, bl_cons, a_nil, a_cons, o_nil, o_var, o_lit, intO_i, av_dat, av_fre, av_own, av_var, av_lit, av_glb, av_bin, av_idx, av_lst, av_tup, av_cal, av_blt, av_lend, i_seq, i_rng, sl_0, sl_s, lks_nil, s_par, pn_nil, pn_f, pn_t, st_nil, st_cons, s_app2, ow_0, ow_s, cm_eqi, cm_nei, cm_nes, cm_eqs, cm_neb, rv_dat, rv_fre, lk_0, lk_1, lk_2, i3_0, i3_1, i3_2, t3_1, t3_2, ka_dat, ka_fre, ka_own, tn_fre, tg_nm, bi_add, bi_sub, cm_lt, cm_le, cm_gt, cm_ge, cm_is, bt_len, bt_lenT, bt_int, bt_list, bt_tuple, bt_min, List.set_cons_zero, List.set_cons_succ, cond_true, cond_false, bi_mod h0, bi_div hd, lks_dat lks_nil]
  rfl
theorem take_sem {n : Nat} {ds : List D} {m : Int} (p : Pen n ds) (hn : n ≤ 100000) (h0 : 0 < m) (h1 : m.natAbs < 2 ^ 8000) :
    ∃ (r : Int) (ds' : List D), 0 ≤ r ∧ r < m ∧ Pen (n + 1) ds' ∧ c2.sem [.own ds, .dat (.int m)] = some (.ret (.dat (.int r)) [ds']) := by
  obtain ⟨cells, at_, v, rfl, q0, q1, q2⟩ := p.ex
  have fin : ∀ (at' v' : Int), 0 ≤ at' → at' ≤ n + 1 → 0 ≤ v' → 0 ≤ v' % m ∧ v' % m < m ∧ Pen (n + 1) [dI cells, .int at', .int (v' / m)] := fun at' v' g0 g1 g2 =>
    ⟨(mod_b v' h0).1, (mod_b v' h0).2, cells, at', v' / m, rfl, g0, g1, Int.ediv_nonneg g2 (by omega)⟩
  by_cases hlt : v < m
  · have call : ∀ cell : Int, ∃ r : Int, 0 ≤ r ∧ ∀ μ : List Cell, callR c1 [.dat (.int cell), .dat (.int at_)] μ = .ok (.dat (.int r)) μ := fun cell => by
      obtain ⟨r, hr, e⟩ := spread_sem (cell := cell) q0 (by omega)
      exact ⟨r, hr, fun μ => call_dat rfl rfl rfl e (.inr rfl)⟩
    have g1 : (⟨cs2, con, exc, sub⟩ : Ge).ces[1]? = some c1 := rfl
    have hlt' : decide (v < m) = true := decide_eq_true hlt
    by_cases ha : at_ < (cells.length : Int)
    · obtain ⟨cell, _, ec⟩ := at_int (l := cells) q0 ha
      obtain ⟨r, hr, ecall⟩ := call cell
      obtain ⟨z1, z2, z3⟩ := fin (at_ + 1) r (by omega) (by omega) hr
      refine ⟨r % m, _, z1, z2, z3, ?_⟩
      have ha' : decide (at_ < ((cells.map PyData.int).length : Int)) = true := decide_eq_true (by rw [List.length_map]; exact ha)
      show outOf 1 ((den ⟨cs2, con, exc, sub⟩ ir__law_take).s [some (.own 0), some (.dat (.int m)), none, none, none] [⟨.arg, [dI cells, .int at_, .int v]⟩]) = _
      rw [← take_end (G := ⟨cs2, con, exc, sub⟩) (a := none) (b := some (.dat (.int at_))) (c := some (.dat (.int cell))) hr h0 h1]
      unfold ir__law_take
      rw [s_cons]
      refine congrArg (outOf 1) ?_
      simp only [s_ifs, tR, b_ok, b_exc, st_ok, st_exc, sq_nx, sq_rt, sq_bk, sq_ct, sq_exc, of_some, nox_ok, lk_dat, lk_fre, kp_dat, kp_fre, asB_b, asI_i, dB_, tR, s_nil, s_cons, s_pass, s_ret, s_xpr, s_set, s_setO, s_unp, s_sti, s_ifs, s_fo, s_rai, e_var, e_lit, e_dct, e_glb, e_bin, e_neg, e_nt, e_cmp, e_chn, e_bop, c_one, c_and, c_or, e_ife, e_tup, e_lst, e_idx, e_sli, e_blt, e_isi, e_lc0, k_nil, k_cons, bl_nil, bl_cons, a_nil, a_cons, o_nil, o_var, o_lit, intO_i, av_dat, av_fre, av_own, av_var, av_lit, av_glb, av_bin, av_idx, av_lst, av_tup, av_cal, av_blt, av_lend, i_seq, i_rng, sl_0, sl_s, lks_nil, s_par, pn_nil, pn_f, pn_t, st_nil, st_cons, s_app2, ow_0, ow_s, cm_eqi, cm_nei, cm_nes, cm_eqs, cm_neb, rv_dat, rv_fre, lk_0, lk_1, lk_2, i3_0, i3_1, i3_2, t3_1, t3_2, ka_dat, ka_fre, ka_own, tn_fre, tg_nm, bi_add, bi_sub, cm_lt, cm_le, cm_gt, cm_ge, cm_is, bt_len, bt_lenT, bt_int, bt_list, bt_tuple, bt_min, List.set_cons_zero, List.set_cons_succ, cond_true, cond_false, hlt', ha', lks_dat lks_nil, ec, e_cal g1, ecall]
    · have ha' : decide (at_ < ((cells.map PyData.int).length : Int)) = false := decide_eq_false (by rw [List.length_map]; exact ha)
      have tail : ∀ (cell : Int) (b c : Option SV), ∃ (r : Int) (ds' : List D), 0 ≤ r ∧ r < m ∧ Pen (n + 1) ds' ∧ ∀ {G : Ge}, G.ces[1]? = some c1 → outOf 1 (((den G (.cons (.sti 0 (.lit (.int 1)) (.bin .Add (.var 3) (.lit (.int 1)))) (.cons (.sti 0 (.lit (.int 2)) (.cal 1 (.cons (.var 4) (.cons (.var 3) (.nil))))) (.nil)))).s [some (.own 0), some (.dat (.int m)), none, some (.dat (.int at_)), some (.dat (.int cell))] [⟨.arg, [dI cells, .int at_, .int v]⟩]).seq
          (den G (.cons (.set 2 (.bin .Mod (.blt .int1 (.cons (.idx (.var 0) (.lit (.int 2))) (.nil))) (.var 1))) (.cons (.sti 0 (.lit (.int 2)) (.bin .FloorDiv (.idx (.var 0) (.lit (.int 2))) (.var 1))) (.cons (.ret (.var 2)) (.nil))))).s) = some (.ret (.dat (.int r)) [ds']) := fun cell b c => by
        obtain ⟨r, hr, ecall⟩ := call cell
        obtain ⟨z1, z2, z3⟩ := fin (at_ + 1) r (by omega) (by omega) hr
        refine ⟨r % m, _, z1, z2, z3, fun {G} g => ?_⟩
        rw [← take_end (G := G) (a := none) (b := some (.dat (.int at_))) (c := some (.dat (.int cell))) hr h0 h1]
        refine congrArg (outOf 1) ?_
        simp only [b_ok, b_exc, st_ok, st_exc, sq_nx, sq_rt, sq_bk, sq_ct, sq_exc, of_some, nox_ok, lk_dat, lk_fre, kp_dat, kp_fre, asB_b, asI_i, dB_, tR, s_nil, s_cons, s_pass, s_ret, s_xpr, s_set, s_setO, s_unp, s_sti, s_ifs, s_fo, s_rai, e_var, e_lit, e_dct, e_glb, e_bin, e_neg, e_nt, e_cmp, e_chn, e_bop, c_one, c_and, c_or, e_ife, e_tup, e_lst, e_idx, e_sli, e_blt, e_isi, e_lc0, k_nil, k_cons, bl_nil, bl_cons, a_nil, a_cons, o_nil, o_var, o_lit, intO_i, av_dat, av_fre, av_own, av_var, av_lit, av_glb, av_bin, av_idx, av_lst, av_tup, av_cal, av_blt, av_lend, i_seq, i_rng, sl_0, sl_s, lks_nil, s_par, pn_nil, pn_f, pn_t, st_nil, st_cons, s_app2, ow_0, ow_s, cm_eqi, cm_nei, cm_nes, cm_eqs, cm_neb, rv_dat, rv_fre, lk_0, lk_1, lk_2, i3_0, i3_1, i3_2, t3_1, t3_2, ka_dat, ka_fre, ka_own, tn_fre, tg_nm, bi_add, bi_sub, cm_lt, cm_le, cm_gt, cm_ge, cm_is, bt_len, bt_lenT, bt_int, bt_list, bt_tuple, bt_min, List.set_cons_zero, List.set_cons_succ, cond_true, cond_false, e_cal g, ecall]
      cases cells with
      | nil =>
        obtain ⟨r, ds', z1, z2, z3, e⟩ := tail 0 none none
        refine ⟨r, ds', z1, z2, z3, ?_⟩
        show outOf 1 ((den ⟨cs2, con, exc, sub⟩ ir__law_take).s [some (.own 0), some (.dat (.int m)), none, none, none] [⟨.arg, [dI [], .int at_, .int v]⟩]) = _
        rw [← e g1]
        unfold ir__law_take
        rw [s_cons]
        refine congrArg (outOf 1) ?_
        have hz : decide ((0 : Int) < ((([] : List Int).map PyData.int).length : Int)) = false := rfl
        simp only [s_ifs, tR, b_ok, b_exc, st_ok, st_exc, sq_nx, sq_rt, sq_bk, sq_ct, sq_exc, of_some, nox_ok, lk_dat, lk_fre, kp_dat, kp_fre, asB_b, asI_i, dB_, tR, s_nil, s_cons, s_pass, s_ret, s_xpr, s_set, s_setO, s_unp, s_sti, s_ifs, s_fo, s_rai, e_var, e_lit, e_dct, e_glb, e_bin, e_neg, e_nt, e_cmp, e_chn, e_bop, c_one, c_and, c_or, e_ife, e_tup, e_lst, e_idx, e_sli, e_blt, e_isi, e_lc0, k_nil, k_cons, bl_nil, bl_cons, a_nil, a_cons, o_nil, o_var, o_lit, intO_i, av_dat, av_fre, av_own, av_var, av_lit, av_glb, av_bin, av_idx, av_lst, av_tup, av_cal, av_blt, av_lend, i_seq, i_rng, sl_0, sl_s, lks_nil, s_par, pn_nil, pn_f, pn_t, st_nil, st_cons, s_app2, ow_0, ow_s, cm_eqi, cm_nei, cm_nes, cm_eqs, cm_neb, rv_dat, rv_fre, lk_0, lk_1, lk_2, i3_0, i3_1, i3_2, t3_1, t3_2, ka_dat, ka_fre, ka_own, tn_fre, tg_nm, bi_add, bi_sub, cm_lt, cm_le, cm_gt, cm_ge, cm_is, bt_len, bt_lenT, bt_int, bt_list, bt_tuple, bt_min, List.set_cons_zero, List.set_cons_succ, cond_true, cond_false, hlt', ha', hz, lks_dat lks_nil]
      | cons c0 cells =>
        have hl : (0 : Int) < (((c0 :: cells).map PyData.int).length : Int) := by simp
        obtain ⟨m0, m1⟩ := mod_b (at_ * 5 + 3) hl
        obtain ⟨x, _, ex⟩ := at_int (l := c0 :: cells) m0 (by rw [List.length_map] at m1; rw [List.length_map]; exact m1)
        obtain ⟨r, ds', z1, z2, z3, e⟩ := tail (x % (10 ^ (17 : Int).toNat + at_)) none none
        refine ⟨r, ds', z1, z2, z3, ?_⟩
        show outOf 1 ((den ⟨cs2, con, exc, sub⟩ ir__law_take).s [some (.own 0), some (.dat (.int m)), none, none, none] [⟨.arg, [dI (c0 :: cells), .int at_, .int v]⟩]) = _
        rw [← e g1]
        unfold ir__law_take
        rw [s_cons]
        refine congrArg (outOf 1) ?_
        have k1 : okMul at_ 5 = true := okMul_of (a := 64) (b := 64) (by omega) (by decide) (by decide) (by decide) (by decide)
        have k2 : okPow 10 17 = true := by decide
        have k3 : (0 : Int) < 10 ^ (17 : Int).toNat + at_ := by
          have : (0 : Int) < 10 ^ (17 : Int).toNat := by decide
          omega
        simp only [s_ifs, tR, b_ok, b_exc, st_ok, st_exc, sq_nx, sq_rt, sq_bk, sq_ct, sq_exc, of_some, nox_ok, lk_dat, lk_fre, kp_dat, kp_fre, asB_b, asI_i, dB_, tR, s_nil, s_cons, s_pass, s_ret, s_xpr, s_set, s_setO, s_unp, s_sti, s_ifs, s_fo, s_rai, e_var, e_lit, e_dct, e_glb, e_bin, e_neg, e_nt, e_cmp, e_chn, e_bop, c_one, c_and, c_or, e_ife, e_tup, e_lst, e_idx, e_sli, e_blt, e_isi, e_lc0, k_nil, k_cons, bl_nil, bl_cons, a_nil, a_cons, o_nil, o_var, o_lit, intO_i, av_dat, av_fre, av_own, av_var, av_lit, av_glb, av_bin, av_idx, av_lst, av_tup, av_cal, av_blt, av_lend, i_seq, i_rng, sl_0, sl_s, lks_nil, s_par, pn_nil, pn_f, pn_t, st_nil, st_cons, s_app2, ow_0, ow_s, cm_eqi, cm_nei, cm_nes, cm_eqs, cm_neb, rv_dat, rv_fre, lk_0, lk_1, lk_2, i3_0, i3_1, i3_2, t3_1, t3_2, ka_dat, ka_fre, ka_own, tn_fre, tg_nm, bi_add, bi_sub, cm_lt, cm_le, cm_gt, cm_ge, cm_is, bt_len, bt_lenT, bt_int, bt_list, bt_tuple, bt_min, List.set_cons_zero, List.set_cons_succ, cond_true, cond_false, hlt', ha', decide_eq_true hl, lks_dat lks_nil, bi_mul k1, bi_mod hl, ex, bi_pow k2, bi_mod k3]
  · obtain ⟨z1, z2, z3⟩ := fin at_ v q0 (by omega) q2
    refine ⟨v % m, _, z1, z2, z3, ?_⟩
    show outOf 1 ((den ⟨cs2, con, exc, sub⟩ ir__law_take).s [some (.own 0), some (.dat (.int m)), none, none, none] [⟨.arg, [dI cells, .int at_, .int v]⟩]) = _
    have hlt' : decide (v < m) = false := decide_eq_false hlt
    rw [← take_end (G := ⟨cs2, con, exc, sub⟩) (a := none) (b := none) (c := none) q2 h0 h1]
    unfold ir__law_take
    rw [s_cons]
    refine congrArg (outOf 1) ?_
    simp only [s_ifs, tR, e_cmp, e_idx, e_var, e_lit, sl_0, sl_s, b_ok, lk_0, lk_dat, i3_2, of_some, cm_lt, hlt', dB_, asB_b, st_ok, cond_false, s_nil, sq_nx]
/-! ### the pen is opened -/
theorem open_loop {G : Ge} {v : Option SV} : ∀ (rest : List Int) (j : Nat) (cs : List Int) (z1 z2 : Option SV), cs.length = 12 →
    ∃ (cs' : List Int) (z1' z2' : Option SV), forR (Tg.cons (.nm 2) (.cons (.nm 3) .nil)).f.one (den G (.cons (.sti 1 (.bin .Mod (.blt .int1 (.cons (.var 2) (.nil))) (.lit (.int 12))) (.bin .Add (.idx (.var 1) (.bin .Mod (.blt .int1 (.cons (.var 2) (.nil))) (.lit (.int 12)))) (.var 3))) .nil)).s (enuD j (rest.map PyData.int)) [v, some (.own 0), z1, z2] [⟨.live, cs.map PyData.int⟩] =
      .nx [v, some (.own 0), z1', z2'] [⟨.live, cs'.map PyData.int⟩]
  | [], j, cs, z1, z2, _ => ⟨cs, z1, z2, rfl⟩
  | x :: rest, j, cs, z1, z2, h => by
    have h12 : (0 : Int) < 12 := by decide
    obtain ⟨m0, m1⟩ := mod_b ((j : Nat) : Int) h12
    obtain ⟨y, _, ey⟩ := at_int (l := cs) m0 (by rw [h]; exact m1)
    have hi : ixN (cs.map PyData.int).length ((j : Int) % 12) = some ((j : Int) % 12).toNat := ix_nn m0 (by rw [List.length_map, h]; exact m1)
    obtain ⟨cs', w1, w2, e⟩ := open_loop (G := G) (v := v) rest (j + 1) (cs.set ((j : Int) % 12).toNat (y + x)) (some (.dat (.int j))) (some (.dat (.int x))) (by rw [List.length_set]; exact h)
    refine ⟨cs', w1, w2, ?_⟩
    rw [← e]
    refine for_nx (ρ1 := [v, some (.own 0), some (.dat (.int j)), some (.dat (.int x))]) rfl ?_
    have hs : stiV ((j : Int) % 12) (.int (y + x)) (.own 0) [⟨.live, cs.map PyData.int⟩] = .ok ([⟨CS.live, cs.map PyData.int⟩].set 0 ⟨.live, (cs.map PyData.int).set ((j : Int) % 12).toNat (.int (y + x))⟩) [⟨.live, cs.map PyData.int⟩] := sti_of (c := ⟨.live, cs.map PyData.int⟩) rfl (fun z => nomatch z) hi
    simp only [b_ok, b_exc, st_ok, st_exc, sq_nx, sq_rt, sq_bk, sq_ct, sq_exc, of_some, nox_ok, lk_dat, lk_fre, kp_dat, kp_fre, asB_b, asI_i, dB_, tR, s_nil, s_cons, s_pass, s_ret, s_xpr, s_set, s_setO, s_unp, s_sti, s_ifs, s_fo, s_rai, e_var, e_lit, e_dct, e_glb, e_bin, e_neg, e_nt, e_cmp, e_chn, e_bop, c_one, c_and, c_or, e_ife, e_tup, e_lst, e_idx, e_sli, e_blt, e_isi, e_lc0, k_nil, k_cons, bl_nil, bl_cons, a_nil, a_cons, o_nil, o_var, o_lit, intO_i, av_dat, av_fre, av_own, av_var, av_lit, av_glb, av_bin, av_idx, av_lst, av_tup, av_cal, av_blt, av_lend, i_seq, i_rng, sl_0, sl_s, lks_nil, s_par, pn_nil, pn_f, pn_t, st_nil, st_cons, s_app2, ow_0, ow_s, cm_eqi, cm_nei, cm_nes, cm_eqs, cm_neb, rv_dat, rv_fre, lk_0, lk_1, lk_2, i3_0, i3_1, i3_2, t3_1, t3_2, ka_dat, ka_fre, ka_own, tn_fre, tg_nm, bi_add, bi_sub, cm_lt, cm_le, cm_gt, cm_ge, cm_is, bt_len, bt_lenT, bt_int, bt_list, bt_tuple, bt_min, List.set_cons_zero, List.set_cons_succ, cond_true, cond_false, lks_dat lks_nil, bi_mod h12, ey, hs, List.map_set]
theorem open_sem (ns : List Int) : ∃ ds, Pen 0 ds ∧ c0.sem [.dat (dI ns)] = some (.ret (.fre ds) []) := by
  have e1 : cutD (dI ns) none (some 12) = some (.fre ((ns.take 12).map PyData.int)) := by
    show some (SV.fre (((ns.map PyData.int).drop 0).take (HT.sIx (ns.map PyData.int).length (ns.map PyData.int).length (some ((12 : Nat) : Int)) - 0))) = _
    rw [HT.sIx_nat, List.drop_zero, Nat.sub_zero, List.map_take, List.length_map]
    congr 2
    by_cases h : 12 ≤ ns.length
    · rw [Nat.min_eq_left h]
    · rw [Nat.min_eq_right (by omega), List.take_of_length_le (by simp), List.take_of_length_le (by simp; omega)]
  obtain ⟨rest, e2, h2⟩ : ∃ rest : List Int, cutD (dI ns) (some 12) (some 63) = some (.fre (rest.map PyData.int)) ∧ (rest = [] ∨ (ns.take 12).length = 12) := by
    refine ⟨(ns.drop (min 12 ns.length)).take (min 63 ns.length - min 12 ns.length), ?_, ?_⟩
    · show some (SV.fre (((ns.map PyData.int).drop (HT.sIx (ns.map PyData.int).length 0 (some ((12 : Nat) : Int)))).take (HT.sIx (ns.map PyData.int).length (ns.map PyData.int).length (some ((63 : Nat) : Int)) - HT.sIx (ns.map PyData.int).length 0 (some ((12 : Nat) : Int))))) = _
      rw [HT.sIx_nat, HT.sIx_nat, List.map_take, List.map_drop, List.length_map]
    · by_cases h : 12 ≤ ns.length
      · exact .inr (by rw [List.length_take]; omega)
      · refine .inl ?_
        rw [List.drop_eq_nil_of_le (by omega)]
        simp
  have key : ∃ (cs' : List Int) (z1' z2' : Option SV), forR (Tg.cons (.nm 2) (.cons (.nm 3) .nil)).f.one (den ⟨cs0, con, exc, sub⟩ (.cons (.sti 1 (.bin .Mod (.blt .int1 (.cons (.var 2) (.nil))) (.lit (.int 12))) (.bin .Add (.idx (.var 1) (.bin .Mod (.blt .int1 (.cons (.var 2) (.nil))) (.lit (.int 12)))) (.var 3))) .nil)).s (enuD 0 (rest.map PyData.int)) [some (.dat (dI ns)), some (.own 0), none, none] [⟨.live, (ns.take 12).map PyData.int⟩] =
      .nx [some (.dat (dI ns)), some (.own 0), z1', z2'] [⟨.live, cs'.map PyData.int⟩] := by
    rcases h2 with h2 | h2
    · subst h2
      exact ⟨_, _, _, rfl⟩
    · exact open_loop rest 0 (ns.take 12) none none h2
  obtain ⟨cs', z1, z2, e3⟩ := key
  refine ⟨[dI cs', .int 0, .int 0], ⟨cs', 0, 0, rfl, by decide, by decide, by decide⟩, ?_⟩
  show outOf 0 ((den ⟨cs0, con, exc, sub⟩ ir__law_open).s [some (.dat (dI ns)), none, none, none] []) = _
  unfold ir__law_open
  have e4 : (den ⟨cs0, con, exc, sub⟩ (.iEnu (.sli (.var 0) (.lit (.int 12)) (.lit (.int 63))))).i [some (.dat (dI ns)), some (.own 0), none, none] [⟨.live, (ns.take 12).map PyData.int⟩] = .ok (enuD 0 (rest.map PyData.int)) [⟨.live, (ns.take 12).map PyData.int⟩] := by
    refine i_enu (v := .fre (rest.map PyData.int)) ?_ rfl
    simp only [b_ok, b_exc, st_ok, st_exc, sq_nx, sq_rt, sq_bk, sq_ct, sq_exc, of_some, nox_ok, lk_dat, lk_fre, kp_dat, kp_fre, asB_b, asI_i, dB_, tR, s_nil, s_cons, s_pass, s_ret, s_xpr, s_set, s_setO, s_unp, s_sti, s_ifs, s_fo, s_rai, e_var, e_lit, e_dct, e_glb, e_bin, e_neg, e_nt, e_cmp, e_chn, e_bop, c_one, c_and, c_or, e_ife, e_tup, e_lst, e_idx, e_sli, e_blt, e_isi, e_lc0, k_nil, k_cons, bl_nil, bl_cons, a_nil, a_cons, o_nil, o_var, o_lit, intO_i, av_dat, av_fre, av_own, av_var, av_lit, av_glb, av_bin, av_idx, av_lst, av_tup, av_cal, av_blt, av_lend, i_seq, i_rng, sl_0, sl_s, lks_nil, s_par, pn_nil, pn_f, pn_t, st_nil, st_cons, s_app2, ow_0, ow_s, cm_eqi, cm_nei, cm_nes, cm_eqs, cm_neb, rv_dat, rv_fre, lk_0, lk_1, lk_2, i3_0, i3_1, i3_2, t3_1, t3_2, ka_dat, ka_fre, ka_own, tn_fre, tg_nm, bi_add, bi_sub, cm_lt, cm_le, cm_gt, cm_ge, cm_is, bt_len, bt_lenT, bt_int, bt_list, bt_tuple, bt_min, List.set_cons_zero, List.set_cons_succ, cond_true, cond_false, e2]
  simp only [b_ok, b_exc, st_ok, st_exc, sq_nx, sq_rt, sq_bk, sq_ct, sq_exc, of_some, nox_ok, lk_dat, lk_fre, kp_dat, kp_fre, asB_b, asI_i, dB_, tR, s_nil, s_cons, s_pass, s_ret, s_xpr, s_set, s_setO, s_unp, s_sti, s_ifs, s_fo, s_rai, e_var, e_lit, e_dct, e_glb, e_bin, e_neg, e_nt, e_cmp, e_chn, e_bop, c_one, c_and, c_or, e_ife, e_tup, e_lst, e_idx, e_sli, e_blt, e_isi, e_lc0, k_nil, k_cons, bl_nil, bl_cons, a_nil, a_cons, o_nil, o_var, o_lit, intO_i, av_dat, av_fre, av_own, av_var, av_lit, av_glb, av_bin, av_idx, av_lst, av_tup, av_cal, av_blt, av_lend, i_seq, i_rng, sl_0, sl_s, lks_nil, s_par, pn_nil, pn_f, pn_t, st_nil, st_cons, s_app2, ow_0, ow_s, cm_eqi, cm_nei, cm_nes, cm_eqs, cm_neb, rv_dat, rv_fre, lk_0, lk_1, lk_2, i3_0, i3_1, i3_2, t3_1, t3_2, ka_dat, ka_fre, ka_own, tn_fre, tg_nm, bi_add, bi_sub, cm_lt, cm_le, cm_gt, cm_ge, cm_is, bt_len, bt_lenT, bt_int, bt_list, bt_tuple, bt_min, List.set_cons_zero, List.set_cons_succ, cond_true, cond_false, e1, lks_fre lks_nil, List.length_nil, List.nil_append]
  rw [e4]
  simp only [b_ok, b_exc, st_ok, st_exc, sq_nx, sq_rt, sq_bk, sq_ct, sq_exc, of_some, nox_ok, lk_dat, lk_fre, kp_dat, kp_fre, asB_b, asI_i, dB_, tR, s_nil, s_cons, s_pass, s_ret, s_xpr, s_set, s_setO, s_unp, s_sti, s_ifs, s_fo, s_rai, e_var, e_lit, e_dct, e_glb, e_bin, e_neg, e_nt, e_cmp, e_chn, e_bop, c_one, c_and, c_or, e_ife, e_tup, e_lst, e_idx, e_sli, e_blt, e_isi, e_lc0, k_nil, k_cons, bl_nil, bl_cons, a_nil, a_cons, o_nil, o_var, o_lit, intO_i, av_dat, av_fre, av_own, av_var, av_lit, av_glb, av_bin, av_idx, av_lst, av_tup, av_cal, av_blt, av_lend, i_seq, i_rng, sl_0, sl_s, lks_nil, s_par, pn_nil, pn_f, pn_t, st_nil, st_cons, s_app2, ow_0, ow_s, cm_eqi, cm_nei, cm_nes, cm_eqs, cm_neb, rv_dat, rv_fre, lk_0, lk_1, lk_2, i3_0, i3_1, i3_2, t3_1, t3_2, ka_dat, ka_fre, ka_own, tn_fre, tg_nm, bi_add, bi_sub, cm_lt, cm_le, cm_gt, cm_ge, cm_is, bt_len, bt_lenT, bt_int, bt_list, bt_tuple, bt_min, List.set_cons_zero, List.set_cons_succ, cond_true, cond_false, e3]
  rfl
/-! ### sizes -/
abbrev M40 : Int := 10000000000000000000000000000000000000000
structure Good (l : List Int) : Prop where
  len : l.length ≤ 200
  ent : ∀ x ∈ l, 1 ≤ x ∧ x ≤ M40
theorem Good.abs {l : List Int} (g : Good l) : ∀ x ∈ l, x.natAbs < 2 ^ 133 := fun x hx => by
  obtain ⟨h1, h2⟩ := g.ent x hx
  have : M40.toNat < 2 ^ 133 := by decide
  exact abs_lt (by omega) h2 this
theorem Good.prod {l : List Int} (g : Good l) : c4.sem [.dat (dI l)] = some (.ret (.dat (.int (prod l))) []) := prod_sem l g.abs (Nat.le_trans g.len (by decide))
theorem Good.prodL {l : List Int} (g : Good l) : c3.sem [.dat (dI l)] = some (.ret (.dat (.int (K10.prod l))) []) := prod_sem l g.abs (Nat.le_trans g.len (by decide))
/-- what is no sizes -/
inductive Bad : D → Prop
  | other {d : D} : isTy d .list = false → Bad d
  | long {ds : List D} : 200 < ds.length → Bad (.list ds)
  | odd {ds : List D} : ds.length ≤ 200 → (ds.all fun d => isint d 1 M40) = false → Bad (.list ds)
  | big {l : List Int} : Good l → M40 < prod l → Bad (dI l)
theorem all_ok {G : Ge} (g5 : G.ces[5]? = some c5) (ds : List D) (h : ds.length ≤ 200) : (den G (.blt .all1 (.cons (.lc [("size", 1)] (.nm 1) (.iSeq (.var 0)) (.nil) (.cal 5 (.cons (.var 1) (.cons (.lit (.int 1)) (.cons (.glb "MOST_SIZE" (.int 10000000000000000000000000000000000000000)) (.nil)))))) (.nil)))).e [some (.dat (.list ds)), none] [] = .ok (.dat (.bool (ds.all fun d => isint d 1 M40))) [] := by
  have lc : lcR (Tg.nm 1).f.one (fun _ μ2 => .ok true μ2) (fun ρ1 μ2 => ((den G (.cal 5 (.cons (.var 1) (.cons (.lit (.int 1)) (.cons (.glb "MOST_SIZE" (.int 10000000000000000000000000000000000000000)) (.nil)))))).e ρ1 μ2).bind fun v μ3 => (v.keep μ3).bind fun d μ4 => .ok [d] μ4) [some (.dat (.list ds)), none] ds [] = .ok (ds.map fun d => .bool (isint d 1 M40)) [] := by
    refine lcR_map fun d _ => ⟨[some (.dat (.list ds)), some (.dat d)], rfl, ?_⟩
    have ec : callR c5 [.dat d, .dat (.int 1), .dat (.int M40)] [] = .ok (.dat (.bool (isint d 1 M40))) [] := call_dat rfl rfl rfl (isint_sem d 1 M40) (.inr rfl)
    simp only [b_ok, b_exc, st_ok, st_exc, sq_nx, sq_rt, sq_bk, sq_ct, sq_exc, of_some, nox_ok, lk_dat, lk_fre, kp_dat, kp_fre, asB_b, asI_i, dB_, tR, s_nil, s_cons, s_pass, s_ret, s_xpr, s_set, s_setO, s_unp, s_sti, s_ifs, s_fo, s_rai, e_var, e_lit, e_dct, e_glb, e_bin, e_neg, e_nt, e_cmp, e_chn, e_bop, c_one, c_and, c_or, e_ife, e_tup, e_lst, e_idx, e_sli, e_blt, e_isi, e_lc0, k_nil, k_cons, bl_nil, bl_cons, a_nil, a_cons, o_nil, o_var, o_lit, intO_i, av_dat, av_fre, av_own, av_var, av_lit, av_glb, av_bin, av_idx, av_lst, av_tup, av_cal, av_blt, av_lend, i_seq, i_rng, sl_0, sl_s, lks_nil, s_par, pn_nil, pn_f, pn_t, st_nil, st_cons, s_app2, ow_0, ow_s, cm_eqi, cm_nei, cm_nes, cm_eqs, cm_neb, rv_dat, rv_fre, lk_0, lk_1, lk_2, i3_0, i3_1, i3_2, t3_1, t3_2, ka_dat, ka_fre, ka_own, tn_fre, tg_nm, bi_add, bi_sub, cm_lt, cm_le, cm_gt, cm_ge, cm_is, bt_len, bt_lenT, bt_int, bt_list, bt_tuple, bt_min, List.set_cons_zero, List.set_cons_succ, cond_true, cond_false, e_cal g5, ec]
  have w : wipeR [some (.dat (.list ds)), none] ([(("size" : Str), 1)].map (·.2)) = [some (.dat (.list ds)), none] := rfl
  have hl : ds.length ≤ 10000000 := by omega
  simp only [b_ok, b_exc, st_ok, st_exc, sq_nx, sq_rt, sq_bk, sq_ct, sq_exc, of_some, nox_ok, lk_dat, lk_fre, kp_dat, kp_fre, asB_b, asI_i, dB_, tR, s_nil, s_cons, s_pass, s_ret, s_xpr, s_set, s_setO, s_unp, s_sti, s_ifs, s_fo, s_rai, e_var, e_lit, e_dct, e_glb, e_bin, e_neg, e_nt, e_cmp, e_chn, e_bop, c_one, c_and, c_or, e_ife, e_tup, e_lst, e_idx, e_sli, e_blt, e_isi, e_lc0, k_nil, k_cons, bl_nil, bl_cons, a_nil, a_cons, o_nil, o_var, o_lit, intO_i, av_dat, av_fre, av_own, av_var, av_lit, av_glb, av_bin, av_idx, av_lst, av_tup, av_cal, av_blt, av_lend, i_seq, i_rng, sl_0, sl_s, lks_nil, s_par, pn_nil, pn_f, pn_t, st_nil, st_cons, s_app2, ow_0, ow_s, cm_eqi, cm_nei, cm_nes, cm_eqs, cm_neb, rv_dat, rv_fre, lk_0, lk_1, lk_2, i3_0, i3_1, i3_2, t3_1, t3_2, ka_dat, ka_fre, ka_own, tn_fre, tg_nm, bi_add, bi_sub, cm_lt, cm_le, cm_gt, cm_ge, cm_is, bt_len, bt_lenT, bt_int, bt_list, bt_tuple, bt_min, List.set_cons_zero, List.set_cons_succ, cond_true, cond_false, itemsD, hl, if_true, w, lc, lks_fre lks_nil, bt_all]
theorem need_ok {l : List Int} (g : Good l) (h : prod l ≤ M40) : c6.sem [.dat (dI l)] = some (.ret (.dat .none) []) := by
  show outOf 0 ((den ⟨cs6, con, exc, sub⟩ ir_need_sizes).s [some (.dat (dI l)), none] []) = _
  have h1 : decide ((200 : Int) < ((l.map PyData.int).length : Int)) = false := decide_eq_false (by rw [List.length_map]; have := g.len; omega)
  have ha := all_ok (G := ⟨cs6, con, exc, sub⟩) rfl (l.map PyData.int) (by rw [List.length_map]; exact g.len)
  have hall : ((l.map PyData.int).all fun d => isint d 1 M40) = true := List.all_eq_true.mpr fun d hd => by
    obtain ⟨x, hx, rfl⟩ := List.mem_map.mp hd
    obtain ⟨q1, q2⟩ := g.ent x hx
    simp [isint, q1, q2]
  rw [hall] at ha
  have g4 : (⟨cs6, con, exc, sub⟩ : Ge).ces[4]? = some c4 := rfl
  have ec : callR c4 [.dat (dI l)] [] = .ok (.dat (.int (prod l))) [] := call_dat rfl rfl rfl g.prod (.inr rfl)
  have h2 : decide (M40 < prod l) = false := decide_eq_false (by omega)
  unfold ir_need_sizes
  simp only [b_ok, b_exc, st_ok, st_exc, sq_nx, sq_rt, sq_bk, sq_ct, sq_exc, of_some, nox_ok, lk_dat, lk_fre, kp_dat, kp_fre, asB_b, asI_i, dB_, tR, s_nil, s_cons, s_pass, s_ret, s_xpr, s_set, s_setO, s_unp, s_sti, s_ifs, s_fo, s_rai, e_var, e_lit, e_dct, e_glb, e_bin, e_neg, e_nt, e_cmp, e_chn, e_bop, c_one, c_and, c_or, e_ife, e_tup, e_lst, e_idx, e_sli, e_isi, e_lc0, k_nil, k_cons, bl_nil, bl_cons, a_nil, a_cons, o_nil, o_var, o_lit, intO_i, av_dat, av_fre, av_own, av_var, av_lit, av_glb, av_bin, av_idx, av_lst, av_tup, av_cal, av_blt, av_lend, i_seq, i_rng, sl_0, sl_s, lks_nil, s_par, pn_nil, pn_f, pn_t, st_nil, st_cons, s_app2, ow_0, ow_s, cm_eqi, cm_nei, cm_nes, cm_eqs, cm_neb, rv_dat, rv_fre, lk_0, lk_1, lk_2, i3_0, i3_1, i3_2, t3_1, t3_2, ka_dat, ka_fre, ka_own, tn_fre, tg_nm, bi_add, bi_sub, cm_lt, cm_le, cm_gt, cm_ge, cm_is, bt_len, bt_lenT, bt_int, bt_list, bt_tuple, bt_min, List.set_cons_zero, List.set_cons_succ, cond_true, cond_false, e_blt (b := .len), ha, List.any_cons, List.any_nil, isTy, Bool.or_false, Bool.not_true, lks_dat lks_nil, h1, e_cal g4, ec, h2]
  rfl
theorem need_bad {d : D} (b : Bad d) : c6.sem [.dat d] = some (.exc ⟨"NoSizes", []⟩ []) := by
  show outOf 0 ((den ⟨cs6, con, exc, sub⟩ ir_need_sizes).s [some (.dat d), none] []) = _
  have g4 : (⟨cs6, con, exc, sub⟩ : Ge).ces[4]? = some c4 := rfl
  unfold ir_need_sizes
  cases b with
  | other h =>
    simp only [b_ok, b_exc, st_ok, st_exc, sq_nx, sq_rt, sq_bk, sq_ct, sq_exc, of_some, nox_ok, lk_dat, lk_fre, kp_dat, kp_fre, asB_b, asI_i, dB_, tR, s_nil, s_cons, s_pass, s_ret, s_xpr, s_set, s_setO, s_unp, s_sti, s_ifs, s_fo, s_rai, e_var, e_lit, e_dct, e_glb, e_bin, e_neg, e_nt, e_cmp, e_chn, e_bop, c_one, c_and, c_or, e_ife, e_tup, e_lst, e_idx, e_sli, e_blt, e_isi, e_lc0, k_nil, k_cons, bl_nil, bl_cons, a_nil, a_cons, o_nil, o_var, o_lit, intO_i, av_dat, av_fre, av_own, av_var, av_lit, av_glb, av_bin, av_idx, av_lst, av_tup, av_cal, av_blt, av_lend, i_seq, i_rng, sl_0, sl_s, lks_nil, s_par, pn_nil, pn_f, pn_t, st_nil, st_cons, s_app2, ow_0, ow_s, cm_eqi, cm_nei, cm_nes, cm_eqs, cm_neb, rv_dat, rv_fre, lk_0, lk_1, lk_2, i3_0, i3_1, i3_2, t3_1, t3_2, ka_dat, ka_fre, ka_own, tn_fre, tg_nm, bi_add, bi_sub, cm_lt, cm_le, cm_gt, cm_ge, cm_is, bt_len, bt_lenT, bt_int, bt_list, bt_tuple, bt_min, List.set_cons_zero, List.set_cons_succ, cond_true, cond_false, List.any_cons, List.any_nil, h, Bool.or_false, Bool.not_false]
    rfl
  | @long ds h =>
    have h1 : decide ((200 : Int) < (ds.length : Int)) = true := decide_eq_true (by omega)
    simp only [b_ok, b_exc, st_ok, st_exc, sq_nx, sq_rt, sq_bk, sq_ct, sq_exc, of_some, nox_ok, lk_dat, lk_fre, kp_dat, kp_fre, asB_b, asI_i, dB_, tR, s_nil, s_cons, s_pass, s_ret, s_xpr, s_set, s_setO, s_unp, s_sti, s_ifs, s_fo, s_rai, e_var, e_lit, e_dct, e_glb, e_bin, e_neg, e_nt, e_cmp, e_chn, e_bop, c_one, c_and, c_or, e_ife, e_tup, e_lst, e_idx, e_sli, e_blt, e_isi, e_lc0, k_nil, k_cons, bl_nil, bl_cons, a_nil, a_cons, o_nil, o_var, o_lit, intO_i, av_dat, av_fre, av_own, av_var, av_lit, av_glb, av_bin, av_idx, av_lst, av_tup, av_cal, av_blt, av_lend, i_seq, i_rng, sl_0, sl_s, lks_nil, s_par, pn_nil, pn_f, pn_t, st_nil, st_cons, s_app2, ow_0, ow_s, cm_eqi, cm_nei, cm_nes, cm_eqs, cm_neb, rv_dat, rv_fre, lk_0, lk_1, lk_2, i3_0, i3_1, i3_2, t3_1, t3_2, ka_dat, ka_fre, ka_own, tn_fre, tg_nm, bi_add, bi_sub, cm_lt, cm_le, cm_gt, cm_ge, cm_is, bt_len, bt_lenT, bt_int, bt_list, bt_tuple, bt_min, List.set_cons_zero, List.set_cons_succ, cond_true, cond_false, List.any_cons, List.any_nil, isTy, Bool.or_false, Bool.not_true, lks_dat lks_nil, h1]
    rfl
  | @odd ds h h2 =>
    have ha := all_ok (G := ⟨cs6, con, exc, sub⟩) rfl ds h
    rw [h2] at ha
    have h1 : decide ((200 : Int) < (ds.length : Int)) = false := decide_eq_false (by omega)
    simp only [b_ok, b_exc, st_ok, st_exc, sq_nx, sq_rt, sq_bk, sq_ct, sq_exc, of_some, nox_ok, lk_dat, lk_fre, kp_dat, kp_fre, asB_b, asI_i, dB_, tR, s_nil, s_cons, s_pass, s_ret, s_xpr, s_set, s_setO, s_unp, s_sti, s_ifs, s_fo, s_rai, e_var, e_lit, e_dct, e_glb, e_bin, e_neg, e_nt, e_cmp, e_chn, e_bop, c_one, c_and, c_or, e_ife, e_tup, e_lst, e_idx, e_sli, e_isi, e_lc0, k_nil, k_cons, bl_nil, bl_cons, a_nil, a_cons, o_nil, o_var, o_lit, intO_i, av_dat, av_fre, av_own, av_var, av_lit, av_glb, av_bin, av_idx, av_lst, av_tup, av_cal, av_blt, av_lend, i_seq, i_rng, sl_0, sl_s, lks_nil, s_par, pn_nil, pn_f, pn_t, st_nil, st_cons, s_app2, ow_0, ow_s, cm_eqi, cm_nei, cm_nes, cm_eqs, cm_neb, rv_dat, rv_fre, lk_0, lk_1, lk_2, i3_0, i3_1, i3_2, t3_1, t3_2, ka_dat, ka_fre, ka_own, tn_fre, tg_nm, bi_add, bi_sub, cm_lt, cm_le, cm_gt, cm_ge, cm_is, bt_len, bt_lenT, bt_int, bt_list, bt_tuple, bt_min, List.set_cons_zero, List.set_cons_succ, cond_true, cond_false, e_blt (b := .len), ha, List.any_cons, List.any_nil, isTy, Bool.or_false, Bool.not_true, Bool.not_false, lks_dat lks_nil, h1]
    rfl
  | @big l g h =>
    have h1 : decide ((200 : Int) < ((l.map PyData.int).length : Int)) = false := decide_eq_false (by rw [List.length_map]; have := g.len; omega)
    have ha := all_ok (G := ⟨cs6, con, exc, sub⟩) rfl (l.map PyData.int) (by rw [List.length_map]; exact g.len)
    have hall : ((l.map PyData.int).all fun d => isint d 1 M40) = true := List.all_eq_true.mpr fun d hd => by
      obtain ⟨x, hx, rfl⟩ := List.mem_map.mp hd
      obtain ⟨q1, q2⟩ := g.ent x hx
      simp [isint, q1, q2]
    rw [hall] at ha
    have ec : callR c4 [.dat (dI l)] [] = .ok (.dat (.int (prod l))) [] := call_dat rfl rfl rfl g.prod (.inr rfl)
    have h2 : decide (M40 < prod l) = true := decide_eq_true h
    simp only [b_ok, b_exc, st_ok, st_exc, sq_nx, sq_rt, sq_bk, sq_ct, sq_exc, of_some, nox_ok, lk_dat, lk_fre, kp_dat, kp_fre, asB_b, asI_i, dB_, tR, s_nil, s_cons, s_pass, s_ret, s_xpr, s_set, s_setO, s_unp, s_sti, s_ifs, s_fo, s_rai, e_var, e_lit, e_dct, e_glb, e_bin, e_neg, e_nt, e_cmp, e_chn, e_bop, c_one, c_and, c_or, e_ife, e_tup, e_lst, e_idx, e_sli, e_isi, e_lc0, k_nil, k_cons, bl_nil, bl_cons, a_nil, a_cons, o_nil, o_var, o_lit, intO_i, av_dat, av_fre, av_own, av_var, av_lit, av_glb, av_bin, av_idx, av_lst, av_tup, av_cal, av_blt, av_lend, i_seq, i_rng, sl_0, sl_s, lks_nil, s_par, pn_nil, pn_f, pn_t, st_nil, st_cons, s_app2, ow_0, ow_s, cm_eqi, cm_nei, cm_nes, cm_eqs, cm_neb, rv_dat, rv_fre, lk_0, lk_1, lk_2, i3_0, i3_1, i3_2, t3_1, t3_2, ka_dat, ka_fre, ka_own, tn_fre, tg_nm, bi_add, bi_sub, cm_lt, cm_le, cm_gt, cm_ge, cm_is, bt_len, bt_lenT, bt_int, bt_list, bt_tuple, bt_min, List.set_cons_zero, List.set_cons_succ, cond_true, cond_false, e_blt (b := .len), ha, List.any_cons, List.any_nil, isTy, Bool.or_false, Bool.not_true, Bool.not_false, lks_dat lks_nil, h1, e_cal g4, ec, h2]
    rfl
/-! ### coordinates -/
def coords : List Int → Int → List Int
  | [], _ => []
  | s :: l, x => x % s :: coords l (x / s)
theorem coords_len : ∀ (l : List Int) (x : Int), (coords l x).length = l.length
  | [], _ => rfl
  | s :: l, x => by simp [coords, coords_len l]
theorem raw_loop {G : Ge} {v w : Option SV} : ∀ (l acc : List Int) (x : Int) (z : Option SV), (∀ s ∈ l, 1 ≤ s ∧ s.natAbs < 2 ^ 133) → acc.length + l.length ≤ 1000 →
    ∃ (x' : Int) (z' : Option SV), forR (Tg.nm 4).f.one (den G (.cons (.app 2 (.bin .Mod (.var 3) (.var 4))) (.cons (.set 3 (.bin .FloorDiv (.var 3) (.var 4))) (.nil)))).s (l.map PyData.int) [v, w, some (.own 0), some (.dat (.int x)), z] [⟨.live, acc.map PyData.int⟩] =
      .nx [v, w, some (.own 0), some (.dat (.int x')), z'] [⟨.live, (acc ++ coords l x).map PyData.int⟩]
  | [], acc, x, z, _, _ => ⟨x, z, by rw [show coords [] x = [] from rfl, List.append_nil]; rfl⟩
  | s :: l, acc, x, z, h, hl => by
    obtain ⟨h1, h2⟩ := h s (List.mem_cons_self ..)
    have p0 : (0 : Int) < s := by omega
    have d0 : okDiv s = true := okDiv_of p0 h2 (by decide) (by decide)
    obtain ⟨x', z', e⟩ := raw_loop (G := G) (v := v) (w := w) l (acc ++ [x % s]) (x / s) (some (.dat (.int s))) (fun y hy => h y (List.mem_cons_of_mem _ hy)) (by simp at hl ⊢; omega)
    refine ⟨x', z', ?_⟩
    rw [show acc ++ coords (s :: l) x = acc ++ [x % s] ++ coords l (x / s) from by rw [List.append_assoc]; rfl, ← e]
    refine for_nx (ρ1 := [v, w, some (.own 0), some (.dat (.int x)), some (.dat (.int s))]) rfl ?_
    have ha : appR 0 (.int (x % s)) [⟨.live, acc.map PyData.int⟩] = some [⟨.live, (acc ++ [x % s]).map PyData.int⟩] := by
      rw [app_of (c := ⟨.live, acc.map PyData.int⟩) rfl (fun z => nomatch z) (by rw [List.length_map]; simp at hl; omega)]
      simp
    simp only [b_ok, b_exc, st_ok, st_exc, sq_nx, sq_rt, sq_bk, sq_ct, sq_exc, of_some, nox_ok, lk_dat, lk_fre, kp_dat, kp_fre, asB_b, asI_i, dB_, tR, s_nil, s_cons, s_pass, s_ret, s_xpr, s_set, s_setO, s_unp, s_sti, s_ifs, s_fo, s_rai, e_var, e_lit, e_dct, e_glb, e_bin, e_neg, e_nt, e_cmp, e_chn, e_bop, c_one, c_and, c_or, e_ife, e_tup, e_lst, e_idx, e_sli, e_blt, e_isi, e_lc0, k_nil, k_cons, bl_nil, bl_cons, a_nil, a_cons, o_nil, o_var, o_lit, intO_i, av_dat, av_fre, av_own, av_var, av_lit, av_glb, av_bin, av_idx, av_lst, av_tup, av_cal, av_blt, av_lend, i_seq, i_rng, sl_0, sl_s, lks_nil, s_par, pn_nil, pn_f, pn_t, st_nil, st_cons, s_app2, ow_0, ow_s, cm_eqi, cm_nei, cm_nes, cm_eqs, cm_neb, rv_dat, rv_fre, lk_0, lk_1, lk_2, i3_0, i3_1, i3_2, t3_1, t3_2, ka_dat, ka_fre, ka_own, tn_fre, tg_nm, bi_add, bi_sub, cm_lt, cm_le, cm_gt, cm_ge, cm_is, bt_len, bt_lenT, bt_int, bt_list, bt_tuple, bt_min, List.set_cons_zero, List.set_cons_succ, cond_true, cond_false, bi_mod p0, bi_div d0, ha]
theorem raw_sem {l : List Int} (g : Good l) (x : Int) : c7.sem [.dat (dI l), .dat (.int x)] = some (.ret (.dat (.tuple ((coords l x).map PyData.int))) []) := by
  obtain ⟨x', z', e⟩ := raw_loop (G := ⟨cs7, con, exc, sub⟩) (v := some (.dat (dI l))) (w := some (.dat (.int x))) l [] x none (fun s hs => ⟨(g.ent s hs).1, g.abs s hs⟩) (by have := g.len; simp; omega)
  show outOf 0 ((den ⟨cs7, con, exc, sub⟩ ir_raw_coordinates).s [some (.dat (dI l)), some (.dat (.int x)), none, none, none] []) = _
  unfold ir_raw_coordinates
  simp only [b_ok, b_exc, st_ok, st_exc, sq_nx, sq_rt, sq_bk, sq_ct, sq_exc, of_some, nox_ok, lk_dat, lk_fre, kp_dat, kp_fre, asB_b, asI_i, dB_, tR, s_nil, s_cons, s_pass, s_ret, s_xpr, s_set, s_setO, s_unp, s_sti, s_ifs, s_fo, s_rai, e_var, e_lit, e_dct, e_glb, e_bin, e_neg, e_nt, e_cmp, e_chn, e_bop, c_one, c_and, c_or, e_ife, e_tup, e_lst, e_idx, e_sli, e_blt, e_isi, e_lc0, k_nil, k_cons, bl_nil, bl_cons, a_nil, a_cons, o_nil, o_var, o_lit, intO_i, av_dat, av_fre, av_own, av_var, av_lit, av_glb, av_bin, av_idx, av_lst, av_tup, av_cal, av_blt, av_lend, i_seq, i_rng, sl_0, sl_s, lks_nil, s_par, pn_nil, pn_f, pn_t, st_nil, st_cons, s_app2, ow_0, ow_s, cm_eqi, cm_nei, cm_nes, cm_eqs, cm_neb, rv_dat, rv_fre, lk_0, lk_1, lk_2, i3_0, i3_1, i3_2, t3_1, t3_2, ka_dat, ka_fre, ka_own, tn_fre, tg_nm, bi_add, bi_sub, cm_lt, cm_le, cm_gt, cm_ge, cm_is, bt_len, bt_lenT, bt_int, bt_list, bt_tuple, bt_min, List.set_cons_zero, List.set_cons_succ, cond_true, cond_false, List.length_nil, List.nil_append, itemsD]
  rw [show [(⟨.live, []⟩ : Cell)] = [⟨.live, ([] : List Int).map PyData.int⟩] from rfl, e]
  have el : looks [(⟨CS.live, ([] ++ coords l x).map PyData.int⟩ : Cell)] [.own 0] = some [dI (coords l x)] := rfl
  simp only [b_ok, b_exc, st_ok, st_exc, sq_nx, sq_rt, sq_bk, sq_ct, sq_exc, of_some, nox_ok, lk_dat, lk_fre, kp_dat, kp_fre, asB_b, asI_i, dB_, tR, s_nil, s_cons, s_pass, s_ret, s_xpr, s_set, s_setO, s_unp, s_sti, s_ifs, s_fo, s_rai, e_var, e_lit, e_dct, e_glb, e_bin, e_neg, e_nt, e_cmp, e_chn, e_bop, c_one, c_and, c_or, e_ife, e_tup, e_lst, e_idx, e_sli, e_blt, e_isi, e_lc0, k_nil, k_cons, bl_nil, bl_cons, a_nil, a_cons, o_nil, o_var, o_lit, intO_i, av_dat, av_fre, av_own, av_var, av_lit, av_glb, av_bin, av_idx, av_lst, av_tup, av_cal, av_blt, av_lend, i_seq, i_rng, sl_0, sl_s, lks_nil, s_par, pn_nil, pn_f, pn_t, st_nil, st_cons, s_app2, ow_0, ow_s, cm_eqi, cm_nei, cm_nes, cm_eqs, cm_neb, rv_dat, rv_fre, lk_0, lk_1, lk_2, i3_0, i3_1, i3_2, t3_1, t3_2, ka_dat, ka_fre, ka_own, tn_fre, tg_nm, bi_add, bi_sub, cm_lt, cm_le, cm_gt, cm_ge, cm_is, bt_len, bt_lenT, bt_int, bt_list, bt_tuple, bt_min, List.set_cons_zero, List.set_cons_succ, cond_true, cond_false, el]
  rfl
theorem co_ok {l : List Int} (g : Good l) (h : prod l ≤ M40) {x : Int} (h0 : 0 ≤ x) (h1 : x ≤ prod l - 1) : c8.sem [.dat (dI l), .dat (.int x)] = some (.ret (.dat (.tuple ((coords l x).map PyData.int))) []) := by
  show outOf 0 ((den ⟨cs8, con, exc, sub⟩ ir_coordinates_of).s [some (.dat (dI l)), some (.dat (.int x))] []) = _
  have g4 : (⟨cs8, con, exc, sub⟩ : Ge).ces[4]? = some c4 := rfl
  have g5 : (⟨cs8, con, exc, sub⟩ : Ge).ces[5]? = some c5 := rfl
  have g6 : (⟨cs8, con, exc, sub⟩ : Ge).ces[6]? = some c6 := rfl
  have g7 : (⟨cs8, con, exc, sub⟩ : Ge).ces[7]? = some c7 := rfl
  have e4 : callR c4 [.dat (dI l)] [] = .ok (.dat (.int (prod l))) [] := call_dat rfl rfl rfl g.prod (.inr rfl)
  have e5 : callR c5 [.dat (.int x), .dat (.int 0), .dat (.int (prod l - 1))] [] = .ok (.dat (.bool true)) [] := by
    have := isint_sem (.int x) 0 (prod l - 1)
    rw [show isint (.int x) 0 (prod l - 1) = true from by simp [isint, h0, h1]] at this
    exact call_dat rfl rfl rfl this (.inr rfl)
  have e6 : callR c6 [.dat (dI l)] [] = .ok (.dat .none) [] := call_dat rfl rfl rfl (need_ok g h) (.inr rfl)
  have e7 : callR c7 [.dat (dI l), .dat (.int x)] [] = .ok (.dat (.tuple ((coords l x).map PyData.int))) [] := call_dat rfl rfl rfl (raw_sem g x) (.inr rfl)
  unfold ir_coordinates_of
  simp only [b_ok, b_exc, st_ok, st_exc, sq_nx, sq_rt, sq_bk, sq_ct, sq_exc, of_some, nox_ok, lk_dat, lk_fre, kp_dat, kp_fre, asB_b, asI_i, dB_, tR, s_nil, s_cons, s_pass, s_ret, s_xpr, s_set, s_setO, s_unp, s_sti, s_ifs, s_fo, s_rai, e_var, e_lit, e_dct, e_glb, e_bin, e_neg, e_nt, e_cmp, e_chn, e_bop, c_one, c_and, c_or, e_ife, e_tup, e_lst, e_idx, e_sli, e_blt, e_isi, e_lc0, k_nil, k_cons, bl_nil, bl_cons, a_nil, a_cons, o_nil, o_var, o_lit, intO_i, av_dat, av_fre, av_own, av_var, av_lit, av_glb, av_bin, av_idx, av_lst, av_tup, av_cal, av_blt, av_lend, i_seq, i_rng, sl_0, sl_s, lks_nil, s_par, pn_nil, pn_f, pn_t, st_nil, st_cons, s_app2, ow_0, ow_s, cm_eqi, cm_nei, cm_nes, cm_eqs, cm_neb, rv_dat, rv_fre, lk_0, lk_1, lk_2, i3_0, i3_1, i3_2, t3_1, t3_2, ka_dat, ka_fre, ka_own, tn_fre, tg_nm, bi_add, bi_sub, cm_lt, cm_le, cm_gt, cm_ge, cm_is, bt_len, bt_lenT, bt_int, bt_list, bt_tuple, bt_min, List.set_cons_zero, List.set_cons_succ, cond_true, cond_false, e_cal g4, e_cal g5, e_cal g6, e_cal g7, e4, e5, e6, e7, Bool.not_true]
  rfl
theorem co_idx {l : List Int} (g : Good l) (h : prod l ≤ M40) {d : D} (hd : isint d 0 (prod l - 1) = false) : c8.sem [.dat (dI l), .dat d] = some (.exc ⟨"NoIndex", []⟩ []) := by
  show outOf 0 ((den ⟨cs8, con, exc, sub⟩ ir_coordinates_of).s [some (.dat (dI l)), some (.dat d)] []) = _
  have g4 : (⟨cs8, con, exc, sub⟩ : Ge).ces[4]? = some c4 := rfl
  have g5 : (⟨cs8, con, exc, sub⟩ : Ge).ces[5]? = some c5 := rfl
  have g6 : (⟨cs8, con, exc, sub⟩ : Ge).ces[6]? = some c6 := rfl
  have e4 : callR c4 [.dat (dI l)] [] = .ok (.dat (.int (prod l))) [] := call_dat rfl rfl rfl g.prod (.inr rfl)
  have e5 : callR c5 [.dat d, .dat (.int 0), .dat (.int (prod l - 1))] [] = .ok (.dat (.bool false)) [] := by
    have := isint_sem d 0 (prod l - 1)
    rw [hd] at this
    exact call_dat rfl rfl rfl this (.inr rfl)
  have e6 : callR c6 [.dat (dI l)] [] = .ok (.dat .none) [] := call_dat rfl rfl rfl (need_ok g h) (.inr rfl)
  unfold ir_coordinates_of
  simp only [b_ok, b_exc, st_ok, st_exc, sq_nx, sq_rt, sq_bk, sq_ct, sq_exc, of_some, nox_ok, lk_dat, lk_fre, kp_dat, kp_fre, asB_b, asI_i, dB_, tR, s_nil, s_cons, s_pass, s_ret, s_xpr, s_set, s_setO, s_unp, s_sti, s_ifs, s_fo, s_rai, e_var, e_lit, e_dct, e_glb, e_bin, e_neg, e_nt, e_cmp, e_chn, e_bop, c_one, c_and, c_or, e_ife, e_tup, e_lst, e_idx, e_sli, e_blt, e_isi, e_lc0, k_nil, k_cons, bl_nil, bl_cons, a_nil, a_cons, o_nil, o_var, o_lit, intO_i, av_dat, av_fre, av_own, av_var, av_lit, av_glb, av_bin, av_idx, av_lst, av_tup, av_cal, av_blt, av_lend, i_seq, i_rng, sl_0, sl_s, lks_nil, s_par, pn_nil, pn_f, pn_t, st_nil, st_cons, s_app2, ow_0, ow_s, cm_eqi, cm_nei, cm_nes, cm_eqs, cm_neb, rv_dat, rv_fre, lk_0, lk_1, lk_2, i3_0, i3_1, i3_2, t3_1, t3_2, ka_dat, ka_fre, ka_own, tn_fre, tg_nm, bi_add, bi_sub, cm_lt, cm_le, cm_gt, cm_ge, cm_is, bt_len, bt_lenT, bt_int, bt_list, bt_tuple, bt_min, List.set_cons_zero, List.set_cons_succ, cond_true, cond_false, e_cal g4, e_cal g5, e_cal g6, e4, e5, e6, Bool.not_false]
  rfl
theorem co_bad {d e : D} (b : Bad d) : c8.sem [.dat d, .dat e] = some (.exc ⟨"NoSizes", []⟩ []) := by
  show outOf 0 ((den ⟨cs8, con, exc, sub⟩ ir_coordinates_of).s [some (.dat d), some (.dat e)] []) = _
  have g6 : (⟨cs8, con, exc, sub⟩ : Ge).ces[6]? = some c6 := rfl
  have e6 : callR c6 [.dat d] [] = .exc ⟨"NoSizes", []⟩ [] := call_exc rfl rfl rfl (need_bad b)
  unfold ir_coordinates_of
  simp only [b_ok, b_exc, st_ok, st_exc, sq_nx, sq_rt, sq_bk, sq_ct, sq_exc, of_some, nox_ok, lk_dat, lk_fre, kp_dat, kp_fre, asB_b, asI_i, dB_, tR, s_nil, s_cons, s_pass, s_ret, s_xpr, s_set, s_setO, s_unp, s_sti, s_ifs, s_fo, s_rai, e_var, e_lit, e_dct, e_glb, e_bin, e_neg, e_nt, e_cmp, e_chn, e_bop, c_one, c_and, c_or, e_ife, e_tup, e_lst, e_idx, e_sli, e_blt, e_isi, e_lc0, k_nil, k_cons, bl_nil, bl_cons, a_nil, a_cons, o_nil, o_var, o_lit, intO_i, av_dat, av_fre, av_own, av_var, av_lit, av_glb, av_bin, av_idx, av_lst, av_tup, av_cal, av_blt, av_lend, i_seq, i_rng, sl_0, sl_s, lks_nil, s_par, pn_nil, pn_f, pn_t, st_nil, st_cons, s_app2, ow_0, ow_s, cm_eqi, cm_nei, cm_nes, cm_eqs, cm_neb, rv_dat, rv_fre, lk_0, lk_1, lk_2, i3_0, i3_1, i3_2, t3_1, t3_2, ka_dat, ka_fre, ka_own, tn_fre, tg_nm, bi_add, bi_sub, cm_lt, cm_le, cm_gt, cm_ge, cm_is, bt_len, bt_lenT, bt_int, bt_list, bt_tuple, bt_min, List.set_cons_zero, List.set_cons_succ, cond_true, cond_false, e_cal g6, e6]
  rfl
/-! ### answers -/
theorem ans_ok {l : List Int} (g : Good l) (h : prod l ≤ M40) {x : Int} (h0 : 0 ≤ x) (h1 : x ≤ prod l - 1) : c9.sem [.dat (dI l), .dat (.int x)] = some (.ret (.dat (.tuple [.str "fine", .tuple ((coords l x).map PyData.int)])) []) := by
  show outOf 0 ((den ⟨cs9, con, exc, sub⟩ ir__law_answer).s [some (.dat (dI l)), some (.dat (.int x)), none, none] []) = _
  have g8 : (⟨cs9, con, exc, sub⟩ : Ge).ces[8]? = some c8 := rfl
  have e8 : callR c8 [.dat (dI l), .dat (.int x)] [] = .ok (.dat (.tuple ((coords l x).map PyData.int))) [] := call_dat rfl rfl rfl (co_ok g h h0 h1) (.inr rfl)
  have t : (den ⟨cs9, con, exc, sub⟩ (.cons (.set 3 (.cal 8 (.cons (.var 0) (.cons (.var 1) (.nil))))) (.nil))).s [some (.dat (dI l)), some (.dat (.int x)), some (.dat (.str "fine")), some (.dat .none)] [] = .nx [some (.dat (dI l)), some (.dat (.int x)), some (.dat (.str "fine")), some (.dat (.tuple ((coords l x).map PyData.int)))] [] := by
    simp only [b_ok, b_exc, st_ok, st_exc, sq_nx, sq_rt, sq_bk, sq_ct, sq_exc, of_some, nox_ok, lk_dat, lk_fre, kp_dat, kp_fre, asB_b, asI_i, dB_, tR, s_nil, s_cons, s_pass, s_ret, s_xpr, s_set, s_setO, s_unp, s_sti, s_ifs, s_fo, s_rai, e_var, e_lit, e_dct, e_glb, e_bin, e_neg, e_nt, e_cmp, e_chn, e_bop, c_one, c_and, c_or, e_ife, e_tup, e_lst, e_idx, e_sli, e_blt, e_isi, e_lc0, k_nil, k_cons, bl_nil, bl_cons, a_nil, a_cons, o_nil, o_var, o_lit, intO_i, av_dat, av_fre, av_own, av_var, av_lit, av_glb, av_bin, av_idx, av_lst, av_tup, av_cal, av_blt, av_lend, i_seq, i_rng, sl_0, sl_s, lks_nil, s_par, pn_nil, pn_f, pn_t, st_nil, st_cons, s_app2, ow_0, ow_s, cm_eqi, cm_nei, cm_nes, cm_eqs, cm_neb, rv_dat, rv_fre, lk_0, lk_1, lk_2, i3_0, i3_1, i3_2, t3_1, t3_2, ka_dat, ka_fre, ka_own, tn_fre, tg_nm, bi_add, bi_sub, cm_lt, cm_le, cm_gt, cm_ge, cm_is, bt_len, bt_lenT, bt_int, bt_list, bt_tuple, bt_min, List.set_cons_zero, List.set_cons_succ, cond_true, cond_false, e_cal g8, e8]
  unfold ir__law_answer
  simp only [b_ok, b_exc, st_ok, st_exc, sq_nx, sq_rt, sq_bk, sq_ct, sq_exc, of_some, nox_ok, lk_dat, lk_fre, kp_dat, kp_fre, asB_b, asI_i, dB_, tR, s_nil, s_cons, s_pass, s_ret, s_xpr, s_set, s_setO, s_unp, s_sti, s_ifs, s_fo, s_rai, e_var, e_lit, e_dct, e_glb, e_bin, e_neg, e_nt, e_cmp, e_chn, e_bop, c_one, c_and, c_or, e_ife, e_tup, e_lst, e_idx, e_sli, e_blt, e_isi, e_lc0, k_nil, k_cons, bl_nil, bl_cons, a_nil, a_cons, o_nil, o_var, o_lit, intO_i, av_dat, av_fre, av_own, av_var, av_lit, av_glb, av_bin, av_idx, av_lst, av_tup, av_cal, av_blt, av_lend, i_seq, i_rng, sl_0, sl_s, lks_nil, s_par, pn_nil, pn_f, pn_t, st_nil, st_cons, s_app2, ow_0, ow_s, cm_eqi, cm_nei, cm_nes, cm_eqs, cm_neb, rv_dat, rv_fre, lk_0, lk_1, lk_2, i3_0, i3_1, i3_2, t3_1, t3_2, ka_dat, ka_fre, ka_own, tn_fre, tg_nm, bi_add, bi_sub, cm_lt, cm_le, cm_gt, cm_ge, cm_is, bt_len, bt_lenT, bt_int, bt_list, bt_tuple, bt_min, List.set_cons_zero, List.set_cons_succ, cond_true, cond_false, List.map_cons, List.map_nil]
  rw [s_try_ok t]
  simp only [b_ok, b_exc, st_ok, st_exc, sq_nx, sq_rt, sq_bk, sq_ct, sq_exc, of_some, nox_ok, lk_dat, lk_fre, kp_dat, kp_fre, asB_b, asI_i, dB_, tR, s_nil, s_cons, s_pass, s_ret, s_xpr, s_set, s_setO, s_unp, s_sti, s_ifs, s_fo, s_rai, e_var, e_lit, e_dct, e_glb, e_bin, e_neg, e_nt, e_cmp, e_chn, e_bop, c_one, c_and, c_or, e_ife, e_tup, e_lst, e_idx, e_sli, e_blt, e_isi, e_lc0, k_nil, k_cons, bl_nil, bl_cons, a_nil, a_cons, o_nil, o_var, o_lit, intO_i, av_dat, av_fre, av_own, av_var, av_lit, av_glb, av_bin, av_idx, av_lst, av_tup, av_cal, av_blt, av_lend, i_seq, i_rng, sl_0, sl_s, lks_nil, s_par, pn_nil, pn_f, pn_t, st_nil, st_cons, s_app2, ow_0, ow_s, cm_eqi, cm_nei, cm_nes, cm_eqs, cm_neb, rv_dat, rv_fre, lk_0, lk_1, lk_2, i3_0, i3_1, i3_2, t3_1, t3_2, ka_dat, ka_fre, ka_own, tn_fre, tg_nm, bi_add, bi_sub, cm_lt, cm_le, cm_gt, cm_ge, cm_is, bt_len, bt_lenT, bt_int, bt_list, bt_tuple, bt_min, List.set_cons_zero, List.set_cons_succ, cond_true, cond_false]
  rfl
theorem ans_exc {d e : D} {c w : Str} (h : c8.sem [.dat d, .dat e] = some (.exc ⟨c, []⟩ [])) (h1 : exc.contains c = true) (m : Rho → List Cell → RS) (h2 : ∀ G : Ge, G.sub = sub → hdlPick G.sub c (den G (.cons (.hdl "NoSizes" (.cons (.set 2 (.lit (.str "sizes"))) (.nil))) (.cons (.hdl "NoIndex" (.cons (.set 2 (.lit (.str "index"))) (.nil))) (.nil)))).h = some (den G (.cons (.set 2 (.lit (.str w))) .nil)).s) :
    c9.sem [.dat d, .dat e] = some (.ret (.dat (.tuple [.str w, .none])) []) := by
  show outOf 0 ((den ⟨cs9, con, exc, sub⟩ ir__law_answer).s [some (.dat d), some (.dat e), none, none] []) = _
  have g8 : (⟨cs9, con, exc, sub⟩ : Ge).ces[8]? = some c8 := rfl
  have e8 : callR c8 [.dat d, .dat e] [] = .exc ⟨c, []⟩ [] := call_exc rfl rfl rfl h
  have t : (den ⟨cs9, con, exc, sub⟩ (.cons (.set 3 (.cal 8 (.cons (.var 0) (.cons (.var 1) (.nil))))) (.nil))).s [some (.dat d), some (.dat e), some (.dat (.str "fine")), some (.dat .none)] [] = .exc ⟨c, []⟩ [some (.dat d), some (.dat e), some (.dat (.str "fine")), some (.dat .none)] [] := by
    simp only [b_ok, b_exc, st_ok, st_exc, sq_nx, sq_rt, sq_bk, sq_ct, sq_exc, of_some, nox_ok, lk_dat, lk_fre, kp_dat, kp_fre, asB_b, asI_i, dB_, tR, s_nil, s_cons, s_pass, s_ret, s_xpr, s_set, s_setO, s_unp, s_sti, s_ifs, s_fo, s_rai, e_var, e_lit, e_dct, e_glb, e_bin, e_neg, e_nt, e_cmp, e_chn, e_bop, c_one, c_and, c_or, e_ife, e_tup, e_lst, e_idx, e_sli, e_blt, e_isi, e_lc0, k_nil, k_cons, bl_nil, bl_cons, a_nil, a_cons, o_nil, o_var, o_lit, intO_i, av_dat, av_fre, av_own, av_var, av_lit, av_glb, av_bin, av_idx, av_lst, av_tup, av_cal, av_blt, av_lend, i_seq, i_rng, sl_0, sl_s, lks_nil, s_par, pn_nil, pn_f, pn_t, st_nil, st_cons, s_app2, ow_0, ow_s, cm_eqi, cm_nei, cm_nes, cm_eqs, cm_neb, rv_dat, rv_fre, lk_0, lk_1, lk_2, i3_0, i3_1, i3_2, t3_1, t3_2, ka_dat, ka_fre, ka_own, tn_fre, tg_nm, bi_add, bi_sub, cm_lt, cm_le, cm_gt, cm_ge, cm_is, bt_len, bt_lenT, bt_int, bt_list, bt_tuple, bt_min, List.set_cons_zero, List.set_cons_succ, cond_true, cond_false, e_cal g8, e8]
  unfold ir__law_answer
  simp only [b_ok, b_exc, st_ok, st_exc, sq_nx, sq_rt, sq_bk, sq_ct, sq_exc, of_some, nox_ok, lk_dat, lk_fre, kp_dat, kp_fre, asB_b, asI_i, dB_, tR, s_nil, s_cons, s_pass, s_ret, s_xpr, s_set, s_setO, s_unp, s_sti, s_ifs, s_fo, s_rai, e_var, e_lit, e_dct, e_glb, e_bin, e_neg, e_nt, e_cmp, e_chn, e_bop, c_one, c_and, c_or, e_ife, e_tup, e_lst, e_idx, e_sli, e_blt, e_isi, e_lc0, k_nil, k_cons, bl_nil, bl_cons, a_nil, a_cons, o_nil, o_var, o_lit, intO_i, av_dat, av_fre, av_own, av_var, av_lit, av_glb, av_bin, av_idx, av_lst, av_tup, av_cal, av_blt, av_lend, i_seq, i_rng, sl_0, sl_s, lks_nil, s_par, pn_nil, pn_f, pn_t, st_nil, st_cons, s_app2, ow_0, ow_s, cm_eqi, cm_nei, cm_nes, cm_eqs, cm_neb, rv_dat, rv_fre, lk_0, lk_1, lk_2, i3_0, i3_1, i3_2, t3_1, t3_2, ka_dat, ka_fre, ka_own, tn_fre, tg_nm, bi_add, bi_sub, cm_lt, cm_le, cm_gt, cm_ge, cm_is, bt_len, bt_lenT, bt_int, bt_list, bt_tuple, bt_min, List.set_cons_zero, List.set_cons_succ, cond_true, cond_false, List.map_cons, List.map_nil]
  rw [s_try_exc t h1 (h2 _ rfl)]
  simp only [b_ok, b_exc, st_ok, st_exc, sq_nx, sq_rt, sq_bk, sq_ct, sq_exc, of_some, nox_ok, lk_dat, lk_fre, kp_dat, kp_fre, asB_b, asI_i, dB_, tR, s_nil, s_cons, s_pass, s_ret, s_xpr, s_set, s_setO, s_unp, s_sti, s_ifs, s_fo, s_rai, e_var, e_lit, e_dct, e_glb, e_bin, e_neg, e_nt, e_cmp, e_chn, e_bop, c_one, c_and, c_or, e_ife, e_tup, e_lst, e_idx, e_sli, e_blt, e_isi, e_lc0, k_nil, k_cons, bl_nil, bl_cons, a_nil, a_cons, o_nil, o_var, o_lit, intO_i, av_dat, av_fre, av_own, av_var, av_lit, av_glb, av_bin, av_idx, av_lst, av_tup, av_cal, av_blt, av_lend, i_seq, i_rng, sl_0, sl_s, lks_nil, s_par, pn_nil, pn_f, pn_t, st_nil, st_cons, s_app2, ow_0, ow_s, cm_eqi, cm_nei, cm_nes, cm_eqs, cm_neb, rv_dat, rv_fre, lk_0, lk_1, lk_2, i3_0, i3_1, i3_2, t3_1, t3_2, ka_dat, ka_fre, ka_own, tn_fre, tg_nm, bi_add, bi_sub, cm_lt, cm_le, cm_gt, cm_ge, cm_is, bt_len, bt_lenT, bt_int, bt_list, bt_tuple, bt_min, List.set_cons_zero, List.set_cons_succ, cond_true, cond_false, RS.noX]
  rfl
theorem ans_idx {l : List Int} (g : Good l) (h : prod l ≤ M40) {d : D} (hd : isint d 0 (prod l - 1) = false) : c9.sem [.dat (dI l), .dat d] = some (.ret (.dat (.tuple [.str "index", .none])) []) :=
  ans_exc (co_idx g h hd) (by decide +kernel) (fun _ _ => .stuck) fun G e => by
    have h1 : sub "NoIndex" "NoSizes" = false := by decide +kernel
    have h2 : sub "NoIndex" "NoIndex" = true := by decide +kernel
    rw [e]
    show (if sub "NoIndex" "NoSizes" = true then _ else if sub "NoIndex" "NoIndex" = true then _ else _) = _
    rw [h1, h2]
    rfl
theorem ans_bad {d e : D} (b : Bad d) : c9.sem [.dat d, .dat e] = some (.ret (.dat (.tuple [.str "sizes", .none])) []) :=
  ans_exc (co_bad b) (by decide +kernel) (fun _ _ => .stuck) fun G e => by
    have h1 : sub "NoSizes" "NoSizes" = true := by decide +kernel
    rw [e]
    show (if sub "NoSizes" "NoSizes" = true then _ else _) = _
    rw [h1]
    rfl
/-! ### one of -/
theorem one_sem {n : Nat} {ds L : List D} (p : Pen n ds) (hn : n ≤ 100000) (h0 : 0 < L.length) (h1 : L.length < 1000) : ∃ (d : D) (ds' : List D), d ∈ L ∧ Pen (n + 1) ds' ∧ c10.sem [.own ds, .dat (.list L)] = some (.ret (.dat d) [ds']) := by
  obtain ⟨r, ds', z1, z2, z3, e⟩ := take_sem p hn (m := (L.length : Int)) (by omega) (by omega)
  have hr : r.toNat < L.length := by omega
  refine ⟨L[r.toNat], ds', List.getElem_mem hr, z3, ?_⟩
  show outOf 1 ((den ⟨cs10, con, exc, sub⟩ ir__law_one_of).s [some (.own 0), some (.dat (.list L))] [⟨.arg, ds⟩]) = _
  have g2 : (⟨cs10, con, exc, sub⟩ : Ge).ces[2]? = some c2 := rfl
  have e2 : callR c2 [.own 0, .dat (.int (L.length : Int))] [⟨.arg, ds⟩] = .ok (.dat (.int r)) [⟨.arg, ds'⟩] := call_own (k := 0) (cl := ⟨.arg, ds⟩) rfl rfl rfl rfl e rfl
  have ei : idxD (.list L) (.int r) = some L[r.toNat] := by
    show atI L r = _
    unfold atI
    rw [ix_nn z1 z2]
    show L[r.toNat]? = _
    rw [List.getElem?_eq_getElem hr]
  unfold ir__law_one_of
  simp only [b_ok, b_exc, st_ok, st_exc, sq_nx, sq_rt, sq_bk, sq_ct, sq_exc, of_some, nox_ok, lk_dat, lk_fre, kp_dat, kp_fre, asB_b, asI_i, dB_, tR, s_nil, s_cons, s_pass, s_ret, s_xpr, s_set, s_setO, s_unp, s_sti, s_ifs, s_fo, s_rai, e_var, e_lit, e_dct, e_glb, e_bin, e_neg, e_nt, e_cmp, e_chn, e_bop, c_one, c_and, c_or, e_ife, e_tup, e_lst, e_idx, e_sli, e_blt, e_isi, e_lc0, k_nil, k_cons, bl_nil, bl_cons, a_nil, a_cons, o_nil, o_var, o_lit, intO_i, av_dat, av_fre, av_own, av_var, av_lit, av_glb, av_bin, av_idx, av_lst, av_tup, av_cal, av_blt, av_lend, i_seq, i_rng, sl_0, sl_s, lks_nil, s_par, pn_nil, pn_f, pn_t, st_nil, st_cons, s_app2, ow_0, ow_s, cm_eqi, cm_nei, cm_nes, cm_eqs, cm_neb, rv_dat, rv_fre, lk_0, lk_1, lk_2, i3_0, i3_1, i3_2, t3_1, t3_2, ka_dat, ka_fre, ka_own, tn_fre, tg_nm, bi_add, bi_sub, cm_lt, cm_le, cm_gt, cm_ge, cm_is, bt_len, bt_lenT, bt_int, bt_list, bt_tuple, bt_min, List.set_cons_zero, List.set_cons_succ, cond_true, cond_false, lks_dat lks_nil, e_cal g2, e2, ei]
  rfl
/-! ### the same -/
theorem same_int (m : Nat) (a : Int) : recF cs11 con exc sub "_law_same" 2 ir__law_same 4 (m + 1) [.dat (.int a), .dat (.int a)] = some (.ret (.dat (.bool true)) []) := by
  show outOf 0 ((den ⟨cs11 ++ [⟨"_law_same", 2, recF cs11 con exc sub "_law_same" 2 ir__law_same 4 m⟩], con, exc, sub⟩ ir__law_same).s [some (.dat (.int a)), some (.dat (.int a)), none, none] []) = _
  unfold ir__law_same
  simp only [b_ok, b_exc, st_ok, st_exc, sq_nx, sq_rt, sq_bk, sq_ct, sq_exc, of_some, nox_ok, lk_dat, lk_fre, kp_dat, kp_fre, asB_b, asI_i, dB_, tR, s_nil, s_cons, s_pass, s_ret, s_xpr, s_set, s_setO, s_unp, s_sti, s_ifs, s_fo, s_rai, e_var, e_lit, e_dct, e_glb, e_bin, e_neg, e_nt, e_cmp, e_chn, e_bop, c_one, c_and, c_or, e_ife, e_tup, e_lst, e_idx, e_sli, e_blt, e_isi, e_lc0, k_nil, k_cons, bl_nil, bl_cons, a_nil, a_cons, o_nil, o_var, o_lit, intO_i, av_dat, av_fre, av_own, av_var, av_lit, av_glb, av_bin, av_idx, av_lst, av_tup, av_cal, av_blt, av_lend, i_seq, i_rng, sl_0, sl_s, lks_nil, s_par, pn_nil, pn_f, pn_t, st_nil, st_cons, s_app2, ow_0, ow_s, cm_eqi, cm_nei, cm_nes, cm_eqs, cm_neb, rv_dat, rv_fre, lk_0, lk_1, lk_2, i3_0, i3_1, i3_2, t3_1, t3_2, ka_dat, ka_fre, ka_own, tn_fre, tg_nm, bi_add, bi_sub, cm_lt, cm_le, cm_gt, cm_ge, cm_is, bt_len, bt_lenT, bt_int, bt_list, bt_tuple, bt_min, List.set_cons_zero, List.set_cons_succ, cond_true, cond_false, isN, List.any_cons, List.any_nil, isTy, Bool.or_false, Bool.or_true, Bool.false_or, Bool.true_or, decide_true, Bool.not_true]
  rfl
theorem zip_same : ∀ l : List Int, zipD (l.map PyData.int) (l.map PyData.int) = l.map fun a => .tuple [.int a, .int a]
  | [] => rfl
  | a :: l => by
    show PyData.tuple [.int a, .int a] :: zipD (l.map PyData.int) (l.map PyData.int) = _
    rw [zip_same l]
    rfl
theorem same_tupG {G : Ge} {f : Fn} (g11 : G.ces[11]? = some ⟨"_law_same", 2, f⟩) (hf : ∀ a : Int, f [.dat (.int a), .dat (.int a)] = some (.ret (.dat (.bool true)) [])) (l : List Int) (hl : l.length ≤ 1000) : semOf G ir__law_same 4 [.dat (.tuple (l.map PyData.int)), .dat (.tuple (l.map PyData.int))] = some (.ret (.dat (.bool true)) []) := by
  show outOf 0 ((den G ir__law_same).s [some (.dat (.tuple (l.map PyData.int))), some (.dat (.tuple (l.map PyData.int))), none, none] []) = _
  have ez : (den G (.iZip none (.var 0) (.var 1))).i [some (.dat (.tuple (l.map PyData.int))), some (.dat (.tuple (l.map PyData.int))), none, none] [] = .ok (l.map fun a => .tuple [.int a, .int a]) [] := by
    rw [← zip_same l]
    exact i_zip (v := .dat (.tuple (l.map PyData.int))) (w := .dat (.tuple (l.map PyData.int))) rfl rfl rfl rfl rfl rfl
  have lc : lcR (Tg.cons (.nm 2) (.cons (.nm 3) .nil)).f.one (fun _ μ2 => .ok true μ2) (fun ρ1 μ2 => ((den G (.cal 11 (.cons (.var 2) (.cons (.var 3) (.nil))))).e ρ1 μ2).bind fun v μ3 => (v.keep μ3).bind fun d μ4 => .ok [d] μ4) [some (.dat (.tuple (l.map PyData.int))), some (.dat (.tuple (l.map PyData.int))), none, none] (l.map fun a => .tuple [.int a, .int a]) [] = .ok ((l.map fun a => PyData.tuple [.int a, .int a]).map fun _ => .bool true) [] := by
    refine lcR_map fun d hd => ?_
    obtain ⟨a, _, rfl⟩ := List.mem_map.mp hd
    refine ⟨[some (.dat (.tuple (l.map PyData.int))), some (.dat (.tuple (l.map PyData.int))), some (.dat (.int a)), some (.dat (.int a))], rfl, ?_⟩
    have ec : callR ⟨"_law_same", 2, f⟩ [.dat (.int a), .dat (.int a)] [] = .ok (.dat (.bool true)) [] := call_dat (r := .dat (.bool true)) (as := [.dat (.int a), .dat (.int a)]) rfl rfl rfl (hf a) (.inr rfl)
    simp only [b_ok, b_exc, st_ok, st_exc, sq_nx, sq_rt, sq_bk, sq_ct, sq_exc, of_some, nox_ok, lk_dat, lk_fre, kp_dat, kp_fre, asB_b, asI_i, dB_, tR, s_nil, s_cons, s_pass, s_ret, s_xpr, s_set, s_setO, s_unp, s_sti, s_ifs, s_fo, s_rai, e_var, e_lit, e_dct, e_glb, e_bin, e_neg, e_nt, e_cmp, e_chn, e_bop, c_one, c_and, c_or, e_ife, e_tup, e_lst, e_idx, e_sli, e_blt, e_isi, e_lc0, k_nil, k_cons, bl_nil, bl_cons, a_nil, a_cons, o_nil, o_var, o_lit, intO_i, av_dat, av_fre, av_own, av_var, av_lit, av_glb, av_bin, av_idx, av_lst, av_tup, av_cal, av_blt, av_lend, i_seq, i_rng, sl_0, sl_s, lks_nil, s_par, pn_nil, pn_f, pn_t, st_nil, st_cons, s_app2, ow_0, ow_s, cm_eqi, cm_nei, cm_nes, cm_eqs, cm_neb, rv_dat, rv_fre, lk_0, lk_1, lk_2, i3_0, i3_1, i3_2, t3_1, t3_2, ka_dat, ka_fre, ka_own, tn_fre, tg_nm, bi_add, bi_sub, cm_lt, cm_le, cm_gt, cm_ge, cm_is, bt_len, bt_lenT, bt_int, bt_list, bt_tuple, bt_min, List.set_cons_zero, List.set_cons_succ, cond_true, cond_false, e_cal g11, ec]
  have w : wipeR [some (.dat (.tuple (l.map PyData.int))), some (.dat (.tuple (l.map PyData.int))), none, none] ([(("_law_one" : Str), 2), ("_law_other", 3)].map (·.2)) = [some (.dat (.tuple (l.map PyData.int))), some (.dat (.tuple (l.map PyData.int))), none, none] := rfl
  have hl2 : (l.map fun a => PyData.tuple [.int a, .int a]).length ≤ 10000000 := by
    rw [List.length_map]
    omega
  have hni : cmp2 .NotIn (.bool false) (.list ((l.map fun a => PyData.tuple [.int a, .int a]).map fun _ => .bool true)) = some true := by
    have h1 : ((l.map fun a => PyData.tuple [.int a, .int a]).map fun _ => PyData.bool true).all flatD = true := List.all_eq_true.mpr fun d hd => by
      obtain ⟨_, _, rfl⟩ := List.mem_map.mp hd
      rfl
    have h2 : memD (.bool false) ((l.map fun a => PyData.tuple [.int a, .int a]).map fun _ => PyData.bool true) = false := by
      unfold memD
      rw [List.any_eq_false]
      intro d hd
      obtain ⟨_, _, rfl⟩ := List.mem_map.mp hd
      simp [PyData.eqv]
    show (if (flatD (.bool false) && ((l.map fun a => PyData.tuple [.int a, .int a]).map fun _ => PyData.bool true).all flatD) = true then some (!memD (.bool false) ((l.map fun a => PyData.tuple [.int a, .int a]).map fun _ => PyData.bool true)) else none) = _
    rw [h1, h2]
    rfl
  unfold ir__law_same
  simp only [b_ok, b_exc, st_ok, st_exc, sq_nx, sq_rt, sq_bk, sq_ct, sq_exc, of_some, nox_ok, lk_dat, lk_fre, kp_dat, kp_fre, asB_b, asI_i, dB_, tR, s_nil, s_cons, s_pass, s_ret, s_xpr, s_set, s_setO, s_unp, s_sti, s_ifs, s_fo, s_rai, e_var, e_lit, e_dct, e_glb, e_bin, e_neg, e_nt, e_cmp, e_chn, e_bop, c_one, c_and, c_or, e_ife, e_tup, e_lst, e_idx, e_sli, e_blt, e_isi, e_lc0, k_nil, k_cons, bl_nil, bl_cons, a_nil, a_cons, o_nil, o_var, o_lit, intO_i, av_dat, av_fre, av_own, av_var, av_lit, av_glb, av_bin, av_idx, av_lst, av_tup, av_cal, av_blt, av_lend, i_seq, i_rng, sl_0, sl_s, lks_nil, s_par, pn_nil, pn_f, pn_t, st_nil, st_cons, s_app2, ow_0, ow_s, cm_eqi, cm_nei, cm_nes, cm_eqs, cm_neb, rv_dat, rv_fre, lk_0, lk_1, lk_2, i3_0, i3_1, i3_2, t3_1, t3_2, ka_dat, ka_fre, ka_own, tn_fre, tg_nm, bi_add, bi_sub, cm_lt, cm_le, cm_gt, cm_ge, cm_is, bt_len, bt_lenT, bt_int, bt_list, bt_tuple, bt_min, List.set_cons_zero, List.set_cons_succ, cond_true, cond_false, isN, List.any_cons, List.any_nil, isTy, Bool.or_false, Bool.or_true, Bool.false_or, Bool.true_or, decide_true, Bool.not_true, lks_dat lks_nil, ez, hl2, if_true, w, lc, hni]
  rfl
theorem rec_succ {cs : List Ce} {cn : List (Str × Int)} {ex : List Str} {sb : Str → Str → Bool} {x : Str} {a : Nat} {b : IR} {n m : Nat} : recF cs cn ex sb x a b n (m + 1) = semOf ⟨cs ++ [⟨x, a, recF cs cn ex sb x a b n m⟩], cn, ex, sb⟩ b n := rfl
theorem same_tup (l : List Int) (hl : l.length ≤ 1000) : c11.sem [.dat (.tuple (l.map PyData.int)), .dat (.tuple (l.map PyData.int))] = some (.ret (.dat (.bool true)) []) := by
  show recF cs11 con exc sub "_law_same" 2 ir__law_same 4 (3 + 1) _ = _
  rw [rec_succ]
  exact same_tupG rfl (same_int 2) l hl
/-! ### the law's own coordinates -/
theorem own_loop {G : Ge} {v w : Option SV} : ∀ (l acc : List Int) (x : Int) (z : Option SV), (∀ s ∈ l, 1 ≤ s ∧ s.natAbs < 2 ^ 133) → acc.length + l.length ≤ 1000 → 0 ≤ x → x.natAbs < 2 ^ 133 →
    ∃ (x' : Int) (z' : Option SV), forR (Tg.nm 2).f.one (den G (.cons (.app 3 (.bin .Sub (.var 4) (.bin .Mult (.bin .FloorDiv (.var 4) (.var 2)) (.var 2)))) (.cons (.set 4 (.bin .FloorDiv (.var 4) (.var 2))) (.nil)))).s (l.map PyData.int) [v, w, z, some (.own 0), some (.dat (.int x))] [⟨.live, acc.map PyData.int⟩] =
      .nx [v, w, z', some (.own 0), some (.dat (.int x'))] [⟨.live, (acc ++ coords l x).map PyData.int⟩]
  | [], acc, x, z, _, _, _, _ => ⟨x, z, by rw [show coords [] x = [] from rfl, List.append_nil]; rfl⟩
  | s :: l, acc, x, z, h, hl, x0, x1 => by
    obtain ⟨h1, h2⟩ := h s (List.mem_cons_self ..)
    have p0 : (0 : Int) < s := by omega
    have d0 : okDiv s = true := okDiv_of p0 h2 (by decide) (by decide)
    have q0 : 0 ≤ x / s := Int.ediv_nonneg x0 (by omega)
    have q1 : x / s ≤ x := Int.ediv_le_self _ x0
    have qa : (x / s).natAbs < 2 ^ 133 := by omega
    have hm : okMul (x / s) s = true := okMul_of qa h2 (by decide) (by decide) (by decide)
    have e0 : x - x / s * s = x % s := by rw [Int.emod_def, Int.mul_comm]
    obtain ⟨x', z', e⟩ := own_loop (G := G) (v := v) (w := w) l (acc ++ [x % s]) (x / s) (some (.dat (.int s))) (fun y hy => h y (List.mem_cons_of_mem _ hy)) (by simp at hl ⊢; omega) q0 qa
    refine ⟨x', z', ?_⟩
    rw [show acc ++ coords (s :: l) x = acc ++ [x % s] ++ coords l (x / s) from by rw [List.append_assoc]; rfl, ← e]
    refine for_nx (ρ1 := [v, w, some (.dat (.int s)), some (.own 0), some (.dat (.int x))]) rfl ?_
    have ha : appR 0 (.int (x % s)) [⟨.live, acc.map PyData.int⟩] = some [⟨.live, (acc ++ [x % s]).map PyData.int⟩] := by
      rw [app_of (c := ⟨.live, acc.map PyData.int⟩) rfl (fun z => nomatch z) (by rw [List.length_map]; simp at hl; omega)]
      simp
    simp only [b_ok, b_exc, st_ok, st_exc, sq_nx, sq_rt, sq_bk, sq_ct, sq_exc, of_some, nox_ok, lk_dat, lk_fre, kp_dat, kp_fre, asB_b, asI_i, dB_, tR, s_nil, s_cons, s_pass, s_ret, s_xpr, s_set, s_setO, s_unp, s_sti, s_ifs, s_fo, s_rai, e_var, e_lit, e_dct, e_glb, e_bin, e_neg, e_nt, e_cmp, e_chn, e_bop, c_one, c_and, c_or, e_ife, e_tup, e_lst, e_idx, e_sli, e_blt, e_isi, e_lc0, k_nil, k_cons, bl_nil, bl_cons, a_nil, a_cons, o_nil, o_var, o_lit, intO_i, av_dat, av_fre, av_own, av_var, av_lit, av_glb, av_bin, av_idx, av_lst, av_tup, av_cal, av_blt, av_lend, i_seq, i_rng, sl_0, sl_s, lks_nil, s_par, pn_nil, pn_f, pn_t, st_nil, st_cons, s_app2, ow_0, ow_s, cm_eqi, cm_nei, cm_nes, cm_eqs, cm_neb, rv_dat, rv_fre, lk_0, lk_1, lk_2, i3_0, i3_1, i3_2, t3_1, t3_2, ka_dat, ka_fre, ka_own, tn_fre, tg_nm, bi_add, bi_sub, cm_lt, cm_le, cm_gt, cm_ge, cm_is, bt_len, bt_lenT, bt_int, bt_list, bt_tuple, bt_min, List.set_cons_zero, List.set_cons_succ, cond_true, cond_false, bi_div d0, bi_mul hm, e0, ha]
theorem own_sem {l : List Int} (g : Good l) {x : Int} (x0 : 0 ≤ x) (x1 : x.natAbs < 2 ^ 133) : c12.sem [.dat (dI l), .dat (.int x)] = some (.ret (.dat (.tuple ((coords l x).map PyData.int))) []) := by
  obtain ⟨x', z', e⟩ := own_loop (G := ⟨cs12, con, exc, sub⟩) (v := some (.dat (dI l))) (w := some (.dat (.int x))) l [] x none (fun s hs => ⟨(g.ent s hs).1, g.abs s hs⟩) (by have := g.len; simp; omega) x0 x1
  show outOf 0 ((den ⟨cs12, con, exc, sub⟩ ir__law_coordinates).s [some (.dat (dI l)), some (.dat (.int x)), none, none, none] []) = _
  unfold ir__law_coordinates
  simp only [b_ok, b_exc, st_ok, st_exc, sq_nx, sq_rt, sq_bk, sq_ct, sq_exc, of_some, nox_ok, lk_dat, lk_fre, kp_dat, kp_fre, asB_b, asI_i, dB_, tR, s_nil, s_cons, s_pass, s_ret, s_xpr, s_set, s_setO, s_unp, s_sti, s_ifs, s_fo, s_rai, e_var, e_lit, e_dct, e_glb, e_bin, e_neg, e_nt, e_cmp, e_chn, e_bop, c_one, c_and, c_or, e_ife, e_tup, e_lst, e_idx, e_sli, e_blt, e_isi, e_lc0, k_nil, k_cons, bl_nil, bl_cons, a_nil, a_cons, o_nil, o_var, o_lit, intO_i, av_dat, av_fre, av_own, av_var, av_lit, av_glb, av_bin, av_idx, av_lst, av_tup, av_cal, av_blt, av_lend, i_seq, i_rng, sl_0, sl_s, lks_nil, s_par, pn_nil, pn_f, pn_t, st_nil, st_cons, s_app2, ow_0, ow_s, cm_eqi, cm_nei, cm_nes, cm_eqs, cm_neb, rv_dat, rv_fre, lk_0, lk_1, lk_2, i3_0, i3_1, i3_2, t3_1, t3_2, ka_dat, ka_fre, ka_own, tn_fre, tg_nm, bi_add, bi_sub, cm_lt, cm_le, cm_gt, cm_ge, cm_is, bt_len, bt_lenT, bt_int, bt_list, bt_tuple, bt_min, List.set_cons_zero, List.set_cons_succ, cond_true, cond_false, List.map_cons, List.map_nil, List.length_nil, List.nil_append, itemsD]
  rw [show [(⟨.live, []⟩ : Cell)] = [⟨.live, ([] : List Int).map PyData.int⟩] from rfl, e]
  have el : looks [(⟨CS.live, ([] ++ coords l x).map PyData.int⟩ : Cell)] [.own 0] = some [dI (coords l x)] := rfl
  simp only [b_ok, b_exc, st_ok, st_exc, sq_nx, sq_rt, sq_bk, sq_ct, sq_exc, of_some, nox_ok, lk_dat, lk_fre, kp_dat, kp_fre, asB_b, asI_i, dB_, tR, s_nil, s_cons, s_pass, s_ret, s_xpr, s_set, s_setO, s_unp, s_sti, s_ifs, s_fo, s_rai, e_var, e_lit, e_dct, e_glb, e_bin, e_neg, e_nt, e_cmp, e_chn, e_bop, c_one, c_and, c_or, e_ife, e_tup, e_lst, e_idx, e_sli, e_blt, e_isi, e_lc0, k_nil, k_cons, bl_nil, bl_cons, a_nil, a_cons, o_nil, o_var, o_lit, intO_i, av_dat, av_fre, av_own, av_var, av_lit, av_glb, av_bin, av_idx, av_lst, av_tup, av_cal, av_blt, av_lend, i_seq, i_rng, sl_0, sl_s, lks_nil, s_par, pn_nil, pn_f, pn_t, st_nil, st_cons, s_app2, ow_0, ow_s, cm_eqi, cm_nei, cm_nes, cm_eqs, cm_neb, rv_dat, rv_fre, lk_0, lk_1, lk_2, i3_0, i3_1, i3_2, t3_1, t3_2, ka_dat, ka_fre, ka_own, tn_fre, tg_nm, bi_add, bi_sub, cm_lt, cm_le, cm_gt, cm_ge, cm_is, bt_len, bt_lenT, bt_int, bt_list, bt_tuple, bt_min, List.set_cons_zero, List.set_cons_succ, cond_true, cond_false, el]
  rfl
end K10

set_option maxHeartbeats 400000
namespace K10
open DL
open PySem PySem.Spec PyProof.Rows L2
noncomputable abbrev GL : Ge := ⟨cs13, con, exc, sub⟩
theorem gl2 : GL.ces[2]? = some c2 := rfl
theorem gl3 : GL.ces[3]? = some c3 := rfl
theorem gl9 : GL.ces[9]? = some c9 := rfl
theorem gl10 : GL.ces[10]? = some c10 := rfl
theorem gl11 : GL.ces[11]? = some c11 := rfl
theorem gl12 : GL.ces[12]? = some c12 := rfl
/-! ### cells: the pen, older ones, the sizes -/
section
variable {p s s' : Cell} {R : List Cell} {d : D}
theorem cell_k : (p :: (R ++ [s]))[R.length + 1]? = some s := by simp
theorem set_k : (p :: (R ++ [s])).set (R.length + 1) s' = p :: (R ++ [s']) := by simp
theorem lk_k : look1 (.own (R.length + 1)) (p :: (R ++ [s])) = .ok (.list s.ds) (p :: (R ++ [s])) := lk_own cell_k
theorem app_k {ds : List D} (h : ds.length < 10000000) : appR (R.length + 1) d (p :: (R ++ [⟨.live, ds⟩])) = some (p :: (R ++ [⟨.live, ds ++ [d]⟩])) := by
  rw [app_of (c := ⟨.live, ds⟩) cell_k (fun z => nomatch z) h, set_k]
end
theorem last_i (l : List Int) (z : Int) : idxD (dI (l ++ [z])) (.int (-1)) = some (.int z) := by
  show atI ((l ++ [z]).map PyData.int) (-1) = _
  have e : ixN ((l ++ [z]).map PyData.int).length (-1) = some l.length := by
    unfold ixN
    rw [if_neg (by decide), if_pos (by simp; omega)]
    simp
    omega
  unfold atI
  rw [e]
  show ((l ++ [z]).map PyData.int)[l.length]? = _
  simp
theorem prod_app (l : List Int) (z : Int) : prod (l ++ [z]) = prod l * z := by
  induction l with
  | nil => simp [prod]
  | cons x l ih => simp [prod, ih, Int.mul_assoc]
theorem prod_pos : ∀ {l : List Int}, (∀ x ∈ l, 1 ≤ x) → 1 ≤ prod l
  | [], _ => by decide
  | x :: l, h => by
    have h1 := h x (List.mem_cons_self ..)
    have h2 := prod_pos (l := l) fun y hy => h y (List.mem_cons_of_mem _ hy)
    have := Int.mul_le_mul h1 h2 (by decide) (by omega)
    simpa [prod] using this
theorem call_take {n : Nat} {ds : List D} {m : Int} (p : Pen n ds) (hn : n ≤ 100000) (h0 : 0 < m) (h1 : m.natAbs < 2 ^ 8000) (R : List Cell) : ∃ (r : Int) (ds' : List D), 0 ≤ r ∧ r < m ∧ Pen (n + 1) ds' ∧ callR c2 [.own 0, .dat (.int m)] (⟨.live, ds⟩ :: R) = .ok (.dat (.int r)) (⟨.live, ds'⟩ :: R) := by
  obtain ⟨r, ds', z1, z2, z3, e⟩ := take_sem p hn h0 h1
  exact ⟨r, ds', z1, z2, z3, call_own (k := 0) (cl := ⟨.live, ds⟩) rfl rfl rfl rfl e rfl⟩
theorem call_one {n : Nat} {ds L : List D} (p : Pen n ds) (hn : n ≤ 100000) (h0 : 0 < L.length) (h1 : L.length < 1000) (R : List Cell) : ∃ (d : D) (ds' : List D), d ∈ L ∧ Pen (n + 1) ds' ∧ callR c10 [.own 0, .dat (.list L)] (⟨.live, ds⟩ :: R) = .ok (.dat d) (⟨.live, ds'⟩ :: R) := by
  obtain ⟨d, ds', z1, z2, e⟩ := one_sem p hn h0 h1
  exact ⟨d, ds', z1, z2, call_own (k := 0) (cl := ⟨.live, ds⟩) rfl rfl rfl rfl e rfl⟩
/-! ### the sizes of a turn -/
abbrev irB1 : IR := .cons (.app 8 (.blt .min2 (.cons (.var 9) (.cons (.cal 10 (.cons (.lend 1) (.cons (.lst (.cons (.lit (.int 1)) (.cons (.lit (.int 2)) (.cons (.lit (.int 3)) (.cons (.lit (.int 10)) (.cons (.bin .Pow (.lit (.int 10)) (.lit (.int 9))) (.cons (.bin .Pow (.lit (.int 10)) (.lit (.int 20))) (.cons (.bin .Add (.lit (.int 1)) (.cal 2 (.cons (.lend 1) (.cons (.lit (.int 1000)) (.nil))))) (.nil))))))))) (.nil)))) (.nil))))) (.cons (.set 9 (.bin .FloorDiv (.var 9) (.idx (.var 8) (.neg (.lit (.int 1)))))) (.nil))
/-- sizes in the making: what is left of 10 ** 40 -/
structure Mkg (l : List Int) (left : Int) : Prop where
  ent : ∀ x ∈ l, 1 ≤ x ∧ x ≤ M40
  lf : 1 ≤ left
  pr : prod l * left ≤ M40
theorem Mkg.leftM {l : List Int} {left : Int} (m : Mkg l left) : left ≤ M40 := by
  have h1 := prod_pos fun x hx => (m.ent x hx).1
  have := Int.mul_le_mul h1 (Int.le_refl left) (by have := m.lf; omega) (by omega)
  have := m.pr
  omega
theorem Mkg.next {l : List Int} {left z : Int} (m : Mkg l left) (h0 : 1 ≤ z) (h1 : z ≤ left)   : Mkg (l ++ [z]) (left / z) where
  ent := fun x hx => by
    rcases List.mem_append.mp hx with q | q
    · exact m.ent x q
    · rw [List.mem_singleton.mp q]
      exact ⟨h0, Int.le_trans h1 m.leftM⟩
  lf := by
    rw [Int.le_ediv_iff_mul_le (by omega)]
    omega
  pr := by
    rw [prod_app, Int.mul_assoc]
    have h2 : z * (left / z) ≤ left := Int.mul_ediv_self_le (by omega)
    have h3 := prod_pos fun x hx => (m.ent x hx).1
    exact Int.le_trans (Int.mul_le_mul_of_nonneg_left h2 (by omega)) m.pr
section
variable {a0 a2 a4 a5 a6 a7 a10 a11 a12 a13 a14 a15 a16 a17 : Option SV}
theorem b1_step {n : Nat} {ds : List D} {l : List Int} {left : Int} {a3 : Option SV} {R : List Cell} (p : Pen n ds) (hn : n ≤ 99000) (m : Mkg l left) (hl : l.length ≤ 100) :
    ∃ (z : Int) (ds' : List D), 1 ≤ z ∧ z ≤ left ∧ Pen (n + 2) ds' ∧ (den GL irB1).s [a0, some (.own 0), a2, a3, a4, a5, a6, a7, some (.own (R.length + 1)), some (.dat (.int left)), a10, a11, a12, a13, a14, a15, a16, a17] (⟨.live, ds⟩ :: (R ++ [⟨.live, l.map PyData.int⟩])) =
      .nx [a0, some (.own 0), a2, a3, a4, a5, a6, a7, some (.own (R.length + 1)), some (.dat (.int (left / z))), a10, a11, a12, a13, a14, a15, a16, a17] (⟨.live, ds'⟩ :: (R ++ [⟨.live, (l ++ [z]).map PyData.int⟩])) := by
  obtain ⟨r, ds1, r0, r1, p1, e1⟩ := call_take p (by omega) (m := 1000) (by decide) (by decide) (R ++ [⟨.live, l.map PyData.int⟩])
  obtain ⟨d, ds2, hd, p2, e2⟩ := call_one p1 (by omega) (L := [.int 1, .int 2, .int 3, .int 10, .int (10 ^ (9 : Int).toNat), .int (10 ^ (20 : Int).toNat), .int (1 + r)]) (by simp) (by simp) (R ++ [⟨.live, l.map PyData.int⟩])
  obtain ⟨y, rfl, y0, y1⟩ : ∃ y : Int, d = .int y ∧ 1 ≤ y ∧ y ≤ M40 := by
    simp only [List.mem_cons, List.not_mem_nil, or_false] at hd
    rcases hd with rfl | rfl | rfl | rfl | rfl | rfl | rfl
    · exact ⟨_, rfl, by decide, by decide⟩
    · exact ⟨_, rfl, by decide, by decide⟩
    · exact ⟨_, rfl, by decide, by decide⟩
    · exact ⟨_, rfl, by decide, by decide⟩
    · exact ⟨_, rfl, by decide, by decide⟩
    · exact ⟨_, rfl, by decide, by decide⟩
    · exact ⟨_, rfl, by omega, by show 1 + r ≤ 10000000000000000000000000000000000000000; omega⟩
  have ml := m.lf
  have mM := m.leftM
  generalize hz : (if y < left then y else left) = z
  have z0 : 1 ≤ z := by
    rw [← hz]
    split <;> omega
  have z1 : z ≤ left := by
    rw [← hz]
    split <;> omega
  refine ⟨z, ds2, z0, z1, p2, ?_⟩
  have k1 : okPow 10 9 = true := by decide
  have k2 : okPow 10 20 = true := by decide
  have ka : appR (R.length + 1) (.int z) (⟨.live, ds2⟩ :: (R ++ [⟨.live, l.map PyData.int⟩])) = some (⟨.live, ds2⟩ :: (R ++ [⟨.live, (l ++ [z]).map PyData.int⟩])) := by
    rw [app_k (by rw [List.length_map]; omega)]
    simp
  have zb : z.natAbs < 2 ^ 133 := abs_lt (by omega) (Int.le_trans z1 mM) (by decide)
  have kd : okDiv z = true := okDiv_of (by omega) zb (by decide) (by decide)
  simp only [b_ok, b_exc, st_ok, st_exc, sq_nx, sq_rt, sq_bk, sq_ct, sq_exc, of_some, nox_ok, lk_dat, lk_fre, kp_dat, kp_fre, asB_b, asI_i, dB_, tR, s_nil, s_cons, s_pass, s_ret, s_xpr, s_set, s_setO, s_unp, s_sti, s_ifs, s_fo, s_rai, e_var, e_lit, e_dct, e_glb, e_bin, e_neg, e_nt, e_cmp, e_chn, e_bop, c_one, c_and, c_or, e_ife, e_tup, e_lst, e_idx, e_sli, e_isi, e_lc0, k_nil, k_cons, bl_nil, bl_cons, a_nil, a_cons, o_nil, o_var, o_lit, intO_i, av_dat, av_fre, av_own, av_var, av_lit, av_glb, av_bin, av_idx, av_lst, av_tup, av_cal, av_blt, av_lend, i_seq, i_rng, sl_0, sl_s, lks_nil, s_par, pn_nil, pn_f, pn_t, st_nil, st_cons, s_app2, ow_0, ow_s, cm_eqi, cm_nei, cm_nes, cm_eqs, cm_neb, rv_dat, rv_fre, lk_0, lk_1, lk_2, i3_0, i3_1, i3_2, t3_1, t3_2, ka_dat, ka_fre, ka_own, tn_fre, tg_nm, bi_add, bi_sub, cm_lt, cm_le, cm_gt, cm_ge, cm_is, bt_len, bt_lenT, bt_int, bt_list, bt_tuple, bt_min, List.set_cons_zero, List.set_cons_succ, cond_true, cond_false, e_blt (b := .min2), e_cal gl2, e_cal gl10, e1, e2, bi_pow k1, bi_pow k2, lks_dat (lks_dat lks_nil), hz, ka, lk_k, last_i, bi_div kd, Int.reduceNeg]
theorem b1_loop : ∀ (m : Nat) (lo : Int) {n : Nat} {ds : List D} {l : List Int} {left : Int} {a3 : Option SV} {R : List Cell}, Pen n ds → n + 2 * m ≤ 90000 → Mkg l left → l.length + m ≤ 100 →
    ∃ (l' : List Int) (left' : Int) (ds' : List D) (a3' : Option SV), Pen (n + 2 * m) ds' ∧ Mkg l' left' ∧ l'.length = l.length + m ∧ forR (Tg.nm 3).f.one (den GL irB1).s (rangeD lo m) [a0, some (.own 0), a2, a3, a4, a5, a6, a7, some (.own (R.length + 1)), some (.dat (.int left)), a10, a11, a12, a13, a14, a15, a16, a17] (⟨.live, ds⟩ :: (R ++ [⟨.live, l.map PyData.int⟩])) =
      .nx [a0, some (.own 0), a2, a3', a4, a5, a6, a7, some (.own (R.length + 1)), some (.dat (.int left')), a10, a11, a12, a13, a14, a15, a16, a17] (⟨.live, ds'⟩ :: (R ++ [⟨.live, l'.map PyData.int⟩]))
  | 0, lo, n, ds, l, left, a3, R, p, _, g, _ => ⟨l, left, ds, a3, p, g, rfl, rfl⟩
  | m + 1, lo, n, ds, l, left, a3, R, p, hn, g, hl => by
    obtain ⟨z, ds1, z0, z1, p1, e1⟩ := b1_step (a0 := a0) (a2 := a2) (a4 := a4) (a5 := a5) (a6 := a6) (a7 := a7) (a10 := a10) (a11 := a11) (a12 := a12) (a13 := a13) (a14 := a14) (a15 := a15) (a16 := a16) (a17 := a17) (a3 := some (.dat (.int lo))) (R := R) p (by omega) g (by omega)
    obtain ⟨l', left', ds', a3', p', g', h', e'⟩ := b1_loop m (lo + 1) (a3 := some (.dat (.int lo))) (R := R) p1 (by omega) (g.next z0 z1) (by simp; omega)
    refine ⟨l', left', ds', a3', ?_, g', by rw [h']; simp; omega, ?_⟩
    · have e : n + 2 * (m + 1) = n + 2 + 2 * m := by omega
      rw [e]
      exact p'
    · rw [← e']
      exact for_nx rfl e1
/-! ### a number from its coordinates -/
def val : List Int → List Int → Int
  | c :: cs, s :: l => c + s * val cs l
  | _, _ => 0
theorem val_coords : ∀ {l : List Int} {x : Int}, (∀ s ∈ l, 1 ≤ s) → 0 ≤ x → x < prod l → val (coords l x) l = x
  | [], x, _, h0, h1 => by
    have : x < 1 := h1
    show (0 : Int) = x
    omega
  | s :: l, x, h, h0, h1 => by
    have hs := h s (List.mem_cons_self ..)
    have q0 : 0 ≤ x / s := Int.ediv_nonneg h0 (by omega)
    have q1 : x / s < prod l := by
      rw [Int.ediv_lt_iff_lt_mul (by omega), Int.mul_comm]
      exact h1
    have ih := val_coords (l := l) (x := x / s) (fun y hy => h y (List.mem_cons_of_mem _ hy)) q0 q1
    show x % s + s * val (coords l (x / s)) l = x
    rw [ih]
    exact Int.emod_add_mul_ediv x s
abbrev irTot : IR := .cons (.par [(14, false), (15, false)] (.cons (.bin .Add (.var 14) (.bin .Mult (.var 16) (.var 15))) (.cons (.bin .Mult (.var 15) (.var 17)) (.nil)))) (.nil)
theorem tot_loop {a1 a3 a8 a9 : Option SV} {μ : List Cell} : ∀ (l : List Int) (x total unit : Int) {a16 a17 : Option SV}, (∀ s ∈ l, 1 ≤ s) → 0 ≤ x → 1 ≤ unit → unit * prod l ≤ M40 → (∀ s ∈ l, s ≤ M40) →
    ∃ (unit' : Int) (a16' a17' : Option SV), forR (Tg.cons (.nm 16) (.cons (.nm 17) .nil)).f.one (den GL irTot).s (zipD ((coords l x).map PyData.int) (l.map PyData.int)) [a0, a1, a2, a3, a4, a5, a6, a7, a8, a9, a10, a11, a12, a13, some (.dat (.int total)), some (.dat (.int unit)), a16, a17] μ =
      .nx [a0, a1, a2, a3, a4, a5, a6, a7, a8, a9, a10, a11, a12, a13, some (.dat (.int (total + unit * val (coords l x) l))), some (.dat (.int unit')), a16', a17'] μ
  | [], x, total, unit, a16, a17, _, _, _, _, _ => ⟨unit, a16, a17, by
    show forR _ _ [] _ _ = _
    rw [show val (coords [] x) [] = 0 from rfl, Int.mul_zero, Int.add_zero]
    rfl⟩
  | s :: l, x, total, unit, a16, a17, h, h0, u0, hu, hM => by
    have hs := h s (List.mem_cons_self ..)
    have sM := hM s (List.mem_cons_self ..)
    obtain ⟨m0, m1⟩ := mod_b x (p := s) (by omega)
    have pp := prod_pos (l := l) fun y hy => h y (List.mem_cons_of_mem _ hy)
    have us : unit * s * prod l ≤ M40 := by
      rw [Int.mul_assoc]
      exact hu
    have us0 : 1 ≤ unit * s := by
      have := Int.mul_le_mul u0 hs (by decide) (by omega)
      omega
    have usM : unit * s ≤ M40 := by
      have := Int.mul_le_mul (Int.le_refl (unit * s)) pp (by decide) (by omega)
      omega
    have uM : unit ≤ M40 := by
      have := Int.mul_le_mul (Int.le_refl unit) hs (by decide) (by omega)
      omega
    have ub : unit.natAbs < 2 ^ 133 := abs_lt (by omega) uM (by decide)
    have sb : s.natAbs < 2 ^ 133 := abs_lt (by omega) sM (by decide)
    have cb : (x % s).natAbs < 2 ^ 133 := abs_lt m0 (b := M40) (by omega) (by decide)
    have k1 : okMul (x % s) unit = true := okMul_of cb ub (by decide) (by decide) (by decide)
    have k2 : okMul unit s = true := okMul_of ub sb (by decide) (by decide) (by decide)
    obtain ⟨unit', b16, b17, e⟩ := tot_loop (a1 := a1) (a3 := a3) (a8 := a8) (a9 := a9) (μ := μ) l (x / s) (total + x % s * unit) (unit * s) (a16 := some (.dat (.int (x % s)))) (a17 := some (.dat (.int s))) (fun y hy => h y (List.mem_cons_of_mem _ hy)) (Int.ediv_nonneg h0 (by omega)) us0 us (fun y hy => hM y (List.mem_cons_of_mem _ hy))
    refine ⟨unit', b16, b17, ?_⟩
    have ev : total + unit * val (coords (s :: l) x) (s :: l) = total + x % s * unit + unit * s * val (coords l (x / s)) l := by
      show total + unit * (x % s + s * val (coords l (x / s)) l) = _
      rw [Int.mul_add, Int.mul_comm (x % s) unit, Int.mul_assoc]
      omega
    rw [ev, ← e]
    refine for_nx (ρ1 := [a0, a1, a2, a3, a4, a5, a6, a7, a8, a9, a10, a11, a12, a13, some (.dat (.int total)), some (.dat (.int unit)), some (.dat (.int (x % s))), some (.dat (.int s))]) rfl ?_
    simp only [b_ok, b_exc, st_ok, st_exc, sq_nx, sq_rt, sq_bk, sq_ct, sq_exc, of_some, nox_ok, lk_dat, lk_fre, kp_dat, kp_fre, asB_b, asI_i, dB_, tR, s_nil, s_cons, s_pass, s_ret, s_xpr, s_set, s_setO, s_unp, s_sti, s_ifs, s_fo, s_rai, e_var, e_lit, e_dct, e_glb, e_bin, e_neg, e_nt, e_cmp, e_chn, e_bop, c_one, c_and, c_or, e_ife, e_tup, e_lst, e_idx, e_sli, e_blt, e_isi, e_lc0, k_nil, k_cons, bl_nil, bl_cons, a_nil, a_cons, o_nil, o_var, o_lit, intO_i, av_dat, av_fre, av_own, av_var, av_lit, av_glb, av_bin, av_idx, av_lst, av_tup, av_cal, av_blt, av_lend, i_seq, i_rng, sl_0, sl_s, lks_nil, s_par, pn_nil, pn_f, pn_t, st_nil, st_cons, s_app2, ow_0, ow_s, cm_eqi, cm_nei, cm_nes, cm_eqs, cm_neb, rv_dat, rv_fre, lk_0, lk_1, lk_2, i3_0, i3_1, i3_2, t3_1, t3_2, ka_dat, ka_fre, ka_own, tn_fre, tg_nm, bi_add, bi_sub, cm_lt, cm_le, cm_gt, cm_ge, cm_is, bt_len, bt_lenT, bt_int, bt_list, bt_tuple, bt_min, List.set_cons_zero, List.set_cons_succ, cond_true, cond_false, bi_mul k1, bi_mul k2, List.map_cons, List.map_nil]
/-! ### one number in a turn -/
theorem noL_ints (l : List Int) : noLists (l.map PyData.int) = true := by
  induction l with
  | nil => simp [noLists]
  | cons x l ih => simp [noLists, noList, ih]
theorem keep_k {p : Cell} {R : List Cell} {st : CS} {ds : List D} (h : st = .live ∨ st = .froz) : (SV.own (R.length + 1)).keep (p :: (R ++ [⟨st, ds⟩])) = .ok (.list ds) (p :: (R ++ [⟨.froz, ds⟩])) := by
  have e : froze (R.length + 1) (p :: (R ++ [⟨st, ds⟩])) = some (ds, p :: (R ++ [⟨.froz, ds⟩])) := by
    unfold froze
    rw [cell_k]
    dsimp only
    rcases h with rfl | rfl
    · dsimp only
      rw [set_k]
    · rfl
  show (match froze (R.length + 1) (p :: (R ++ [⟨st, ds⟩])) with
    | some (ds, μ') => DL.R.ok (PyData.list ds) μ'
    | none => .stuck) = _
  rw [e]
theorem args_k {p s : Cell} {R : List Cell} {d : D} : avArgs (p :: (R ++ [s])) [.tmp (R.length + 1), .dat d] = some [.dat (.list s.ds), .dat d] := by
  simp [avArgs, AV.arg]
theorem args_k1 {p s : Cell} {R : List Cell} : avArgs (p :: (R ++ [s])) [.tmp (R.length + 1)] = some [.dat (.list s.ds)] := by
  simp [avArgs, AV.arg]
theorem tg2 {i j : Nat} {a b : D} {ρ : Rho} : (Tg.cons (.nm i) (.cons (.nm j) .nil)).f.one (.tuple [a, b]) ρ = some ((ρ.set i (some (.dat a))).set j (some (.dat b))) := rfl
abbrev irB2 : IR := .cons (.unp (.cons (.nm 12) (.cons (.nm 13) (.nil))) (.cal 9 (.cons (.var 8) (.cons (.var 4) (.nil))))) (.cons (.ifs (.bop .Or (.cons (.cmp .NotEq (.var 12) (.lit (.str "fine"))) (.cons (.nt (.cal 11 (.cons (.var 13) (.cons (.cal 12 (.cons (.var 8) (.cons (.var 4) (.nil)))) (.nil))))) (.nil)))) (.cons (.ret (.lit (.bool false))) (.nil)) (.nil)) (.cons (.par [(14, false), (15, false)] (.cons (.lit (.int 0)) (.cons (.lit (.int 1)) (.nil)))) (.cons (.fo (.cons (.nm 16) (.cons (.nm 17) (.nil))) (.iZip none (.var 13) (.var 8)) irTot) (.cons (.ifs (.cmp .NotEq (.var 14) (.var 4)) (.cons (.ret (.lit (.bool false))) (.nil)) (.nil)) (.nil)))))
theorem b2_step {p : Cell} {R : List Cell} {st : CS} {l : List Int} {x : Int} {a3 a8 a9 : Option SV} (hst : st = .live ∨ st = .froz) (g : Good l) (hM : prod l ≤ M40) (h0 : 0 ≤ x) (h1 : x ≤ prod l - 1) :
    ∃ b12 b13 b14 b15 b16 b17 : Option SV, (den GL irB2).s [a0, some (.own 0), a2, a3, some (.dat (.int x)), a5, a6, a7, some (.own (R.length + 1)), a9, a10, a11, a12, a13, a14, a15, a16, a17] (p :: (R ++ [⟨st, l.map PyData.int⟩])) =
      .nx [a0, some (.own 0), a2, a3, some (.dat (.int x)), a5, a6, a7, some (.own (R.length + 1)), a9, a10, a11, b12, b13, b14, b15, b16, b17] (p :: (R ++ [⟨.froz, l.map PyData.int⟩])) := by
  have pos : ∀ s ∈ l, 1 ≤ s := fun s hs => (g.ent s hs).1
  have xb : x.natAbs < 2 ^ 133 := abs_lt h0 (b := M40) (by omega) (by decide)
  have c9' : callR c9 [.tmp (R.length + 1), .dat (.int x)] (p :: (R ++ [⟨st, l.map PyData.int⟩])) = .ok (.dat (.tuple [.str "fine", .tuple ((coords l x).map PyData.int)])) (p :: (R ++ [⟨st, l.map PyData.int⟩])) :=
    call_dat (r := .dat (.tuple [.str "fine", .tuple ((coords l x).map PyData.int)])) rfl args_k rfl (ans_ok g hM h0 h1) (.inl (by simp [Rv.noL, noList, noLists, noL_ints]))
  have c12' : callR c12 [.tmp (R.length + 1), .dat (.int x)] (p :: (R ++ [⟨st, l.map PyData.int⟩])) = .ok (.dat (.tuple ((coords l x).map PyData.int))) (p :: (R ++ [⟨st, l.map PyData.int⟩])) :=
    call_dat (r := .dat (.tuple ((coords l x).map PyData.int))) rfl args_k rfl (own_sem g h0 xb) (.inl (by simp [Rv.noL, noList, noL_ints]))
  have c11' : callR c11 [.dat (.tuple ((coords l x).map PyData.int)), .dat (.tuple ((coords l x).map PyData.int))] (p :: (R ++ [⟨st, l.map PyData.int⟩])) = .ok (.dat (.bool true)) (p :: (R ++ [⟨st, l.map PyData.int⟩])) :=
    call_dat (r := .dat (.bool true)) (as := [.dat (.tuple ((coords l x).map PyData.int)), .dat (.tuple ((coords l x).map PyData.int))]) rfl rfl rfl (same_tup _ (by rw [coords_len]; have := g.len; omega)) (.inl rfl)
  obtain ⟨unit', b16, b17, e⟩ := tot_loop (a0 := a0) (a1 := some (.own 0)) (a2 := a2) (a3 := a3) (a4 := some (.dat (.int x))) (a5 := a5) (a6 := a6) (a7 := a7) (a8 := some (.own (R.length + 1))) (a9 := a9) (a10 := a10) (a11 := a11) (a12 := some (.dat (.str "fine"))) (a13 := some (.dat (.tuple ((coords l x).map PyData.int)))) (a16 := a16) (a17 := a17) (μ := p :: (R ++ [⟨.froz, l.map PyData.int⟩])) l x 0 1 pos h0 (by decide) (by omega) (fun s hs => (g.ent s hs).2)
  rw [val_coords pos h0 (by omega), Int.one_mul, Int.zero_add] at e
  refine ⟨some (.dat (.str "fine")), some (.dat (.tuple ((coords l x).map PyData.int))), some (.dat (.int x)), some (.dat (.int unit')), b16, b17, ?_⟩
  have ez : (den GL (.iZip none (.var 13) (.var 8))).i [a0, some (.own 0), a2, a3, some (.dat (.int x)), a5, a6, a7, some (.own (R.length + 1)), a9, a10, a11, some (.dat (.str "fine")), some (.dat (.tuple ((coords l x).map PyData.int))), some (.dat (.int 0)), some (.dat (.int 1)), a16, a17] (p :: (R ++ [⟨st, l.map PyData.int⟩])) = .ok (zipD ((coords l x).map PyData.int) (l.map PyData.int)) (p :: (R ++ [⟨.froz, l.map PyData.int⟩])) :=
    i_zip (v := .dat (.tuple ((coords l x).map PyData.int))) (w := .own (R.length + 1)) rfl rfl rfl (keep_k hst) rfl rfl
  simp only [b_ok, b_exc, st_ok, st_exc, sq_nx, sq_rt, sq_bk, sq_ct, sq_exc, of_some, nox_ok, lk_dat, lk_fre, kp_dat, kp_fre, asB_b, asI_i, dB_, tR, s_nil, s_cons, s_pass, s_ret, s_xpr, s_set, s_setO, s_unp, s_sti, s_ifs, s_fo, s_rai, e_var, e_lit, e_dct, e_glb, e_bin, e_neg, e_nt, e_cmp, e_chn, e_bop, c_one, c_and, c_or, e_ife, e_tup, e_lst, e_idx, e_sli, e_blt, e_isi, e_lc0, k_nil, k_cons, bl_nil, bl_cons, a_nil, a_cons, o_nil, o_var, o_lit, intO_i, av_dat, av_fre, av_own, av_var, av_lit, av_glb, av_bin, av_idx, av_lst, av_tup, av_cal, av_blt, av_lend, i_seq, i_rng, sl_0, sl_s, lks_nil, s_par, pn_nil, pn_f, pn_t, st_nil, st_cons, s_app2, ow_0, ow_s, cm_eqi, cm_nei, cm_nes, cm_eqs, cm_neb, rv_dat, rv_fre, lk_0, lk_1, lk_2, i3_0, i3_1, i3_2, t3_1, t3_2, ka_dat, ka_fre, ka_own, tn_fre, tg_nm, bi_add, bi_sub, cm_lt, cm_le, cm_gt, cm_ge, cm_is, bt_len, bt_lenT, bt_int, bt_list, bt_tuple, bt_min, List.set_cons_zero, List.set_cons_succ, cond_true, cond_false, e_cal gl9, e_cal gl11, e_cal gl12, c9', c12', c11', tg2, Bool.not_true, decide_true, List.map_cons, List.map_nil, ez, e]
/-! ### what is no index, what is no sizes -/
theorem for_inv {asg : D → Rho → Option Rho} {b : Rho → List Cell → RS} (P : Nat → Rho → List Cell → Prop) : ∀ {ds : List D} {n : Nat} {ρ : Rho} {μ : List Cell}, (∀ d ∈ ds, ∀ n ρ μ, P n ρ μ → ∃ ρ1 ρ2 μ2, asg d ρ = some ρ1 ∧ b ρ1 μ = .nx ρ2 μ2 ∧ P (n + 1) ρ2 μ2) → P n ρ μ → ∃ ρ' μ', forR asg b ds ρ μ = .nx ρ' μ' ∧ P (n + ds.length) ρ' μ'
  | [], n, ρ, μ, _, p => ⟨ρ, μ, rfl, p⟩
  | d :: ds, n, ρ, μ, h, p => by
    obtain ⟨ρ1, ρ2, μ2, h1, h2, p2⟩ := h d (List.mem_cons_self ..) n ρ μ p
    obtain ⟨ρ', μ', h3, p3⟩ := for_inv P (fun e he => h e (List.mem_cons_of_mem _ he)) p2
    refine ⟨ρ', μ', (for_nx h1 h2).trans h3, ?_⟩
    have e : n + (d :: ds).length = n + 1 + ds.length := by rw [List.length_cons]; omega
    rw [e]
    exact p3
theorem i2_0 {a b : D} : idxD (.tuple [a, b]) (.int 0) = some a := rfl
theorem lks_k {p s : Cell} {R : List Cell} : looks (p :: (R ++ [s])) [.own (R.length + 1)] = some [.list s.ds] := by
  simp [looks, SV.look]
abbrev irB3 : IR := .cons (.ifs (.cmp .NotEq (.idx (.cal 9 (.cons (.var 8) (.cons (.var 4) (.nil)))) (.lit (.int 0))) (.lit (.str "index"))) (.cons (.ret (.lit (.bool false))) (.nil)) (.nil)) (.nil)
theorem b3_step {p : Cell} {R : List Cell} {st : CS} {l : List Int} {d : D} {a3 a8 a9 : Option SV} (g : Good l) (hM : prod l ≤ M40) (hd : isint d 0 (prod l - 1) = false) :
    (den GL irB3).s [a0, some (.own 0), a2, a3, some (.dat d), a5, a6, a7, some (.own (R.length + 1)), a9, a10, a11, a12, a13, a14, a15, a16, a17] (p :: (R ++ [⟨st, l.map PyData.int⟩])) = .nx [a0, some (.own 0), a2, a3, some (.dat d), a5, a6, a7, some (.own (R.length + 1)), a9, a10, a11, a12, a13, a14, a15, a16, a17] (p :: (R ++ [⟨st, l.map PyData.int⟩])) := by
  have c9' : callR c9 [.tmp (R.length + 1), .dat d] (p :: (R ++ [⟨st, l.map PyData.int⟩])) = .ok (.dat (.tuple [.str "index", .none])) (p :: (R ++ [⟨st, l.map PyData.int⟩])) :=
    call_dat (r := .dat (.tuple [.str "index", .none])) rfl args_k rfl (ans_idx g hM hd) (.inl (by simp [Rv.noL, noList, noLists]))
  simp only [b_ok, b_exc, st_ok, st_exc, sq_nx, sq_rt, sq_bk, sq_ct, sq_exc, of_some, nox_ok, lk_dat, lk_fre, kp_dat, kp_fre, asB_b, asI_i, dB_, tR, s_nil, s_cons, s_pass, s_ret, s_xpr, s_set, s_setO, s_unp, s_sti, s_ifs, s_fo, s_rai, e_var, e_lit, e_dct, e_glb, e_bin, e_neg, e_nt, e_cmp, e_chn, e_bop, c_one, c_and, c_or, e_ife, e_tup, e_lst, e_idx, e_sli, e_blt, e_isi, e_lc0, k_nil, k_cons, bl_nil, bl_cons, a_nil, a_cons, o_nil, o_var, o_lit, intO_i, av_dat, av_fre, av_own, av_var, av_lit, av_glb, av_bin, av_idx, av_lst, av_tup, av_cal, av_blt, av_lend, i_seq, i_rng, sl_0, sl_s, lks_nil, s_par, pn_nil, pn_f, pn_t, st_nil, st_cons, s_app2, ow_0, ow_s, cm_eqi, cm_nei, cm_nes, cm_eqs, cm_neb, rv_dat, rv_fre, lk_0, lk_1, lk_2, i3_0, i3_1, i3_2, t3_1, t3_2, ka_dat, ka_fre, ka_own, tn_fre, tg_nm, bi_add, bi_sub, cm_lt, cm_le, cm_gt, cm_ge, cm_is, bt_len, bt_lenT, bt_int, bt_list, bt_tuple, bt_min, List.set_cons_zero, List.set_cons_succ, cond_true, cond_false, e_cal gl9, c9', i2_0, Bool.not_true, decide_true]
abbrev irB4 : IR := .cons (.ifs (.bop .Or (.cons (.cmp .NotEq (.idx (.cal 9 (.cons (.var 7) (.cons (.cal 10 (.cons (.lend 1) (.cons (.lst (.cons (.lit (.int 0)) (.cons (.neg (.lit (.int 1))) (.cons (.lit .none) (.nil))))) (.nil)))) (.nil)))) (.lit (.int 0))) (.lit (.str "sizes"))) (.cons (.cmp .NotEq (.blt .repr1 (.cons (.var 8) (.nil))) (.var 11)) (.nil)))) (.cons (.ret (.lit (.bool false))) (.nil)) (.nil)) (.nil)
theorem b4_step {n : Nat} {ds : List D} {R : List Cell} {st : CS} {l : List Int} {d : D} {a3 a8 a9 : Option SV} (p : Pen n ds) (hn : n ≤ 99000) (g : Good l) (hl : l.length ≤ 100) (bd : Bad d) :
    ∃ ds' : List D, Pen (n + 1) ds' ∧ (den GL irB4).s [a0, some (.own 0), a2, a3, a4, a5, a6, some (.dat d), some (.own (R.length + 1)), a9, a10, some (.dat (.str (PyData.list (l.map PyData.int)).shown)), a12, a13, a14, a15, a16, a17] (⟨.live, ds⟩ :: (R ++ [⟨st, l.map PyData.int⟩])) =
      .nx [a0, some (.own 0), a2, a3, a4, a5, a6, some (.dat d), some (.own (R.length + 1)), a9, a10, some (.dat (.str (PyData.list (l.map PyData.int)).shown)), a12, a13, a14, a15, a16, a17] (⟨.live, ds'⟩ :: (R ++ [⟨st, l.map PyData.int⟩])) := by
  obtain ⟨e, ds1, _, p1, e1⟩ := call_one p (by omega) (L := [.int 0, .int (-1), .none]) (by simp) (by simp) (R ++ [⟨st, l.map PyData.int⟩])
  refine ⟨ds1, p1, ?_⟩
  have c9' : callR c9 [.dat d, .dat e] (⟨.live, ds1⟩ :: (R ++ [⟨st, l.map PyData.int⟩])) = .ok (.dat (.tuple [.str "sizes", .none])) (⟨.live, ds1⟩ :: (R ++ [⟨st, l.map PyData.int⟩])) :=
    call_dat (r := .dat (.tuple [.str "sizes", .none])) (as := [.dat d, .dat e]) rfl rfl rfl (ans_bad bd) (.inr rfl)
  have rp := repr_ints (l := l) (fun x hx => Nat.lt_of_lt_of_le (g.abs x hx) (Nat.pow_le_pow_right (by decide) (by decide))) hl
  simp only [b_ok, b_exc, st_ok, st_exc, sq_nx, sq_rt, sq_bk, sq_ct, sq_exc, of_some, nox_ok, lk_dat, lk_fre, kp_dat, kp_fre, asB_b, asI_i, dB_, tR, s_nil, s_cons, s_pass, s_ret, s_xpr, s_set, s_setO, s_unp, s_sti, s_ifs, s_fo, s_rai, e_var, e_lit, e_dct, e_glb, e_bin, e_neg, e_nt, e_cmp, e_chn, e_bop, c_one, c_and, c_or, e_ife, e_tup, e_lst, e_idx, e_sli, e_blt, e_isi, e_lc0, k_nil, k_cons, bl_nil, bl_cons, a_nil, a_cons, o_nil, o_var, o_lit, intO_i, av_dat, av_fre, av_own, av_var, av_lit, av_glb, av_bin, av_idx, av_lst, av_tup, av_cal, av_blt, av_lend, i_seq, i_rng, sl_0, sl_s, lks_nil, s_par, pn_nil, pn_f, pn_t, st_nil, st_cons, s_app2, ow_0, ow_s, cm_eqi, cm_nei, cm_nes, cm_eqs, cm_neb, rv_dat, rv_fre, lk_0, lk_1, lk_2, i3_0, i3_1, i3_2, t3_1, t3_2, ka_dat, ka_fre, ka_own, tn_fre, tg_nm, bi_add, bi_sub, cm_lt, cm_le, cm_gt, cm_ge, cm_is, bt_len, bt_lenT, bt_int, bt_list, bt_tuple, bt_min, List.set_cons_zero, List.set_cons_succ, cond_true, cond_false, e_cal gl9, e_cal gl10, Int.reduceNeg, e1, c9', i2_0, Bool.not_true, decide_true, lks_k, rp]
end
end K10

set_option maxHeartbeats 400000
namespace K10
open DL
open PySem PySem.Spec PyProof.Rows L2
section
variable {a0 a2 a3 a4 a5 a6 a7 a8 a9 a10 a11 a12 a13 a14 a15 a16 a17 : Option SV}
abbrev irA1 : IR := .par [(8, true), (9, false)] (.cons (.lst (.nil)) (.cons (.bin .Pow (.lit (.int 10)) (.lit (.int 40))) (.nil)))
abbrev irA2 : IR := .fo (.nm 3) (.iRng (.cons (.cal 2 (.cons (.lend 1) (.cons (.lit (.int 9)) (.nil)))) (.nil))) irB1
abbrev irA3 : IR := .par [(10, false), (11, false)] (.cons (.cal 3 (.cons (.var 8) (.nil))) (.cons (.blt .repr1 (.cons (.var 8) (.nil))) (.nil)))
theorem sA1 {p : Cell} {R : List Cell} : (den GL irA1).s [a0, some (.own 0), a2, a3, a4, a5, a6, a7, a8, a9, a10, a11, a12, a13, a14, a15, a16, a17] (p :: R) = .nx [a0, some (.own 0), a2, a3, a4, a5, a6, a7, some (.own (R.length + 1)), some (.dat (.int M40)), a10, a11, a12, a13, a14, a15, a16, a17] (p :: (R ++ [⟨.live, ([] : List Int).map PyData.int⟩])) := by
  have k : okPow 10 40 = true := by decide
  have e : (10 : Int) ^ (40 : Int).toNat = M40 := by decide
  simp only [b_ok, b_exc, st_ok, st_exc, sq_nx, sq_rt, sq_bk, sq_ct, sq_exc, of_some, nox_ok, lk_dat, lk_fre, kp_dat, kp_fre, asB_b, asI_i, dB_, tR, s_nil, s_cons, s_pass, s_ret, s_xpr, s_set, s_setO, s_unp, s_sti, s_ifs, s_fo, s_rai, e_var, e_lit, e_dct, e_glb, e_bin, e_neg, e_nt, e_cmp, e_chn, e_bop, c_one, c_and, c_or, e_ife, e_tup, e_lst, e_idx, e_sli, e_blt, e_isi, e_lc0, k_nil, k_cons, bl_nil, bl_cons, a_nil, a_cons, o_nil, o_var, o_lit, intO_i, av_dat, av_fre, av_own, av_var, av_lit, av_glb, av_bin, av_idx, av_lst, av_tup, av_cal, av_blt, av_lend, i_seq, i_rng, sl_0, sl_s, lks_nil, s_par, pn_nil, pn_f, pn_t, st_nil, st_cons, s_app2, ow_0, ow_s, cm_eqi, cm_nei, cm_nes, cm_eqs, cm_neb, rv_dat, rv_fre, lk_0, lk_1, lk_2, i3_0, i3_1, i3_2, t3_1, t3_2, ka_dat, ka_fre, ka_own, tn_fre, tg_nm, bi_add, bi_sub, cm_lt, cm_le, cm_gt, cm_ge, cm_is, bt_len, bt_lenT, bt_int, bt_list, bt_tuple, bt_min, List.set_cons_zero, List.set_cons_succ, cond_true, cond_false, bi_pow k, e, List.map_cons, List.map_nil, List.length_cons, List.cons_append]
theorem rng1 {r : Int} (h0 : 0 ≤ r) (h1 : r < 1000000) : rngD [.int r] = some (rangeD 0 r.toNat) := by
  have : smallI r = true := by
    unfold smallI
    rw [decide_eq_true (by omega), decide_eq_true (by omega)]
    rfl
  show (if smallI r = true then some (rangeD 0 r.toNat) else none) = _
  rw [if_pos this]
theorem mkg0 : Mkg [] M40 := ⟨fun _ h => (nomatch h), by decide, by decide⟩
theorem sA2 {n : Nat} {ds : List D} {R : List Cell} (p : Pen n ds) (hn : n ≤ 80000) : ∃ (l : List Int) (left : Int) (ds' : List D) (b3 : Option SV), Pen (n + 20) ds' ∧ Mkg l left ∧ l.length ≤ 8 ∧ (den GL irA2).s [a0, some (.own 0), a2, a3, a4, a5, a6, a7, some (.own (R.length + 1)), some (.dat (.int M40)), a10, a11, a12, a13, a14, a15, a16, a17] (⟨.live, ds⟩ :: (R ++ [⟨.live, ([] : List Int).map PyData.int⟩])) =
    .nx [a0, some (.own 0), a2, b3, a4, a5, a6, a7, some (.own (R.length + 1)), some (.dat (.int left)), a10, a11, a12, a13, a14, a15, a16, a17] (⟨.live, ds'⟩ :: (R ++ [⟨.live, l.map PyData.int⟩])) := by
  obtain ⟨r, ds1, r0, r1, p1, e1⟩ := call_take p (by omega) (m := 9) (by decide) (by decide) (R ++ [⟨.live, ([] : List Int).map PyData.int⟩])
  obtain ⟨l, left, ds2, b3, p2, g, hl, e2⟩ := b1_loop (a0 := a0) (a2 := a2) (a4 := a4) (a5 := a5) (a6 := a6) (a7 := a7) (a10 := a10) (a11 := a11) (a12 := a12) (a13 := a13) (a14 := a14) (a15 := a15) (a16 := a16) (a17 := a17) (a3 := a3) (R := R) r.toNat 0 p1 (by omega) mkg0 (by simp; omega)
  refine ⟨l, left, ds2, b3, ?_, g, by rw [hl]; simp; omega, ?_⟩
  · obtain ⟨cells, at_, v, q1, q2, q3, q4⟩ := p2.ex
    exact ⟨cells, at_, v, q1, q2, by omega, q4⟩
  · simp only [b_ok, b_exc, st_ok, st_exc, sq_nx, sq_rt, sq_bk, sq_ct, sq_exc, of_some, nox_ok, lk_dat, lk_fre, kp_dat, kp_fre, asB_b, asI_i, dB_, tR, s_nil, s_cons, s_pass, s_ret, s_xpr, s_set, s_setO, s_unp, s_sti, s_ifs, s_fo, s_rai, e_var, e_lit, e_dct, e_glb, e_bin, e_neg, e_nt, e_cmp, e_chn, e_bop, c_one, c_and, c_or, e_ife, e_tup, e_lst, e_idx, e_sli, e_blt, e_isi, e_lc0, k_nil, k_cons, bl_nil, bl_cons, a_nil, a_cons, o_nil, o_var, o_lit, intO_i, av_dat, av_fre, av_own, av_var, av_lit, av_glb, av_bin, av_idx, av_lst, av_tup, av_cal, av_blt, av_lend, i_seq, i_rng, sl_0, sl_s, lks_nil, s_par, pn_nil, pn_f, pn_t, st_nil, st_cons, s_app2, ow_0, ow_s, cm_eqi, cm_nei, cm_nes, cm_eqs, cm_neb, rv_dat, rv_fre, lk_0, lk_1, lk_2, i3_0, i3_1, i3_2, t3_1, t3_2, ka_dat, ka_fre, ka_own, tn_fre, tg_nm, bi_add, bi_sub, cm_lt, cm_le, cm_gt, cm_ge, cm_is, bt_len, bt_lenT, bt_int, bt_list, bt_tuple, bt_min, List.set_cons_zero, List.set_cons_succ, cond_true, cond_false, e_cal gl2, e1, lks_dat lks_nil, rng1 r0 (show r < 1000000 by omega), e2]
theorem Mkg.good {l : List Int} {left : Int} (m : Mkg l left) (h : l.length ≤ 8) : Good l ∧ prod l ≤ M40 ∧ 1 ≤ prod l := by
  have h1 := prod_pos fun x hx => (m.ent x hx).1
  have h2 := m.pr
  have h3 := Int.mul_le_mul (Int.le_refl (prod l)) m.lf (by decide) (by omega)
  exact ⟨⟨by omega, m.ent⟩, by omega, h1⟩
theorem sA3 {p : Cell} {R : List Cell} {l : List Int} (g : Good l) (hl : l.length ≤ 100) : (den GL irA3).s [a0, some (.own 0), a2, a3, a4, a5, a6, a7, some (.own (R.length + 1)), a9, a10, a11, a12, a13, a14, a15, a16, a17] (p :: (R ++ [⟨.live, l.map PyData.int⟩])) = .nx [a0, some (.own 0), a2, a3, a4, a5, a6, a7, some (.own (R.length + 1)), a9, some (.dat (.int (prod l))), some (.dat (.str (PyData.list (l.map PyData.int)).shown)), a12, a13, a14, a15, a16, a17] (p :: (R ++ [⟨.live, l.map PyData.int⟩])) := by
  have c3' : callR c3 [.tmp (R.length + 1)] (p :: (R ++ [⟨.live, l.map PyData.int⟩])) = .ok (.dat (.int (prod l))) (p :: (R ++ [⟨.live, l.map PyData.int⟩])) :=
    call_dat (r := .dat (.int (prod l))) rfl args_k1 rfl g.prodL (.inl rfl)
  have rp := repr_ints (l := l) (fun x hx => Nat.lt_of_lt_of_le (g.abs x hx) (Nat.pow_le_pow_right (by decide) (by decide))) hl
  simp only [b_ok, b_exc, st_ok, st_exc, sq_nx, sq_rt, sq_bk, sq_ct, sq_exc, of_some, nox_ok, lk_dat, lk_fre, kp_dat, kp_fre, asB_b, asI_i, dB_, tR, s_nil, s_cons, s_pass, s_ret, s_xpr, s_set, s_setO, s_unp, s_sti, s_ifs, s_fo, s_rai, e_var, e_lit, e_dct, e_glb, e_bin, e_neg, e_nt, e_cmp, e_chn, e_bop, c_one, c_and, c_or, e_ife, e_tup, e_lst, e_idx, e_sli, e_blt, e_isi, e_lc0, k_nil, k_cons, bl_nil, bl_cons, a_nil, a_cons, o_nil, o_var, o_lit, intO_i, av_dat, av_fre, av_own, av_var, av_lit, av_glb, av_bin, av_idx, av_lst, av_tup, av_cal, av_blt, av_lend, i_seq, i_rng, sl_0, sl_s, lks_nil, s_par, pn_nil, pn_f, pn_t, st_nil, st_cons, s_app2, ow_0, ow_s, cm_eqi, cm_nei, cm_nes, cm_eqs, cm_neb, rv_dat, rv_fre, lk_0, lk_1, lk_2, i3_0, i3_1, i3_2, t3_1, t3_2, ka_dat, ka_fre, ka_own, tn_fre, tg_nm, bi_add, bi_sub, cm_lt, cm_le, cm_gt, cm_ge, cm_is, bt_len, bt_lenT, bt_int, bt_list, bt_tuple, bt_min, List.set_cons_zero, List.set_cons_succ, cond_true, cond_false, e_cal gl3, c3', lks_k, rp, List.map_cons, List.map_nil]
/-! ### the four numbers -/
abbrev irA4 : IR := .fo (.nm 4) (.iSeq (.lst (.cons (.lit (.int 0)) (.cons (.bin .Sub (.var 10) (.lit (.int 1))) (.cons (.cal 2 (.cons (.lend 1) (.cons (.var 10) (.nil)))) (.cons (.cal 2 (.cons (.lend 1) (.cons (.var 10) (.nil)))) (.nil))))))) irB2
theorem sA4 {n : Nat} {ds : List D} {R : List Cell} {l : List Int} (p : Pen n ds) (hn : n ≤ 90000) (g : Good l) (hM : prod l ≤ M40) (h1 : 1 ≤ prod l) : ∃ (ds' : List D) (st : CS) (b4 b12 b13 b14 b15 b16 b17 : Option SV), Pen (n + 2) ds' ∧ (st = .live ∨ st = .froz) ∧ (den GL irA4).s [a0, some (.own 0), a2, a3, a4, a5, a6, a7, some (.own (R.length + 1)), a9, some (.dat (.int (prod l))), some (.dat (.str (PyData.list (l.map PyData.int)).shown)), a12, a13, a14, a15, a16, a17] (⟨.live, ds⟩ :: (R ++ [⟨.live, l.map PyData.int⟩])) =
    .nx [a0, some (.own 0), a2, a3, b4, a5, a6, a7, some (.own (R.length + 1)), a9, some (.dat (.int (prod l))), some (.dat (.str (PyData.list (l.map PyData.int)).shown)), b12, b13, b14, b15, b16, b17] (⟨.live, ds'⟩ :: (R ++ [⟨st, l.map PyData.int⟩])) := by
  have pb : (prod l).natAbs < 2 ^ 8000 := abs_lt (by omega) hM (by decide)
  obtain ⟨r, ds1, r0, r1, p1, e1⟩ := call_take p (by omega) (m := prod l) (by omega) pb (R ++ [⟨.live, l.map PyData.int⟩])
  obtain ⟨s, ds2, s0, s1, p2, e2⟩ := call_take p1 (by omega) (m := prod l) (by omega) pb (R ++ [⟨.live, l.map PyData.int⟩])
  obtain ⟨ρ', μ', e3, b4, b12, b13, b14, b15, b16, b17, st, hst, rfl, rfl⟩ := for_inv (asg := (Tg.nm 4).f.one) (b := (den GL irB2).s) (ds := [.int 0, .int (prod l - 1), .int r, .int s]) (n := 0)
    (ρ := [a0, some (.own 0), a2, a3, a4, a5, a6, a7, some (.own (R.length + 1)), a9, some (.dat (.int (prod l))), some (.dat (.str (PyData.list (l.map PyData.int)).shown)), a12, a13, a14, a15, a16, a17]) (μ := ⟨.live, ds2⟩ :: (R ++ [⟨.live, l.map PyData.int⟩]))
    (fun _ ρ μ => ∃ (b4 b12 b13 b14 b15 b16 b17 : Option SV) (st : CS), (st = .live ∨ st = .froz) ∧ ρ = [a0, some (.own 0), a2, a3, b4, a5, a6, a7, some (.own (R.length + 1)), a9, some (.dat (.int (prod l))), some (.dat (.str (PyData.list (l.map PyData.int)).shown)), b12, b13, b14, b15, b16, b17] ∧ μ = ⟨.live, ds2⟩ :: (R ++ [⟨st, l.map PyData.int⟩]))
    (fun d hd n ρ μ ⟨b4, b12, b13, b14, b15, b16, b17, st, hst, hρ, hμ⟩ => by
      obtain ⟨x, rfl, x0, x1⟩ : ∃ x : Int, d = .int x ∧ 0 ≤ x ∧ x ≤ prod l - 1 := by
        simp only [List.mem_cons, List.not_mem_nil, or_false] at hd
        rcases hd with rfl | rfl | rfl | rfl
        · exact ⟨_, rfl, by decide, by omega⟩
        · exact ⟨_, rfl, by omega, by omega⟩
        · exact ⟨_, rfl, by omega, by omega⟩
        · exact ⟨_, rfl, by omega, by omega⟩
      subst hρ hμ
      obtain ⟨d12, d13, d14, d15, d16, d17, e⟩ := b2_step (a0 := a0) (a2 := a2) (a3 := a3) (a5 := a5) (a6 := a6) (a7 := a7) (a9 := a9) (a10 := some (.dat (.int (prod l)))) (a11 := some (.dat (.str (PyData.list (l.map PyData.int)).shown))) (a12 := b12) (a13 := b13) (a14 := b14) (a15 := b15) (a16 := b16) (a17 := b17) (p := ⟨.live, ds2⟩) (R := R) (a8 := none) hst g hM x0 x1
      exact ⟨_, _, _, rfl, e, _, d12, d13, d14, d15, d16, d17, .froz, .inr rfl, rfl, rfl⟩)
    ⟨a4, a12, a13, a14, a15, a16, a17, .live, .inl rfl, rfl, rfl⟩
  refine ⟨ds2, st, b4, b12, b13, b14, b15, b16, b17, p2, hst, ?_⟩
  simp only [b_ok, b_exc, st_ok, st_exc, sq_nx, sq_rt, sq_bk, sq_ct, sq_exc, of_some, nox_ok, lk_dat, lk_fre, kp_dat, kp_fre, asB_b, asI_i, dB_, tR, s_nil, s_cons, s_pass, s_ret, s_xpr, s_set, s_setO, s_unp, s_sti, s_ifs, s_fo, s_rai, e_var, e_lit, e_dct, e_glb, e_bin, e_neg, e_nt, e_cmp, e_chn, e_bop, c_one, c_and, c_or, e_ife, e_tup, e_lst, e_idx, e_sli, e_blt, e_isi, e_lc0, k_nil, k_cons, bl_nil, bl_cons, a_nil, a_cons, o_nil, o_var, o_lit, intO_i, av_dat, av_fre, av_own, av_var, av_lit, av_glb, av_bin, av_idx, av_lst, av_tup, av_cal, av_blt, av_lend, i_seq, i_rng, sl_0, sl_s, lks_nil, s_par, pn_nil, pn_f, pn_t, st_nil, st_cons, s_app2, ow_0, ow_s, cm_eqi, cm_nei, cm_nes, cm_eqs, cm_neb, rv_dat, rv_fre, lk_0, lk_1, lk_2, i3_0, i3_1, i3_2, t3_1, t3_2, ka_dat, ka_fre, ka_own, tn_fre, tg_nm, bi_add, bi_sub, cm_lt, cm_le, cm_gt, cm_ge, cm_is, bt_len, bt_lenT, bt_int, bt_list, bt_tuple, bt_min, List.set_cons_zero, List.set_cons_succ, cond_true, cond_false, e_cal gl2, e1, e2, itemsD, e3]
end
end K10

set_option maxHeartbeats 400000
namespace K10
open DL
open PySem PySem.Spec PyProof.Rows L2
section
variable {a0 a2 a3 a4 a5 a6 a7 a8 a9 a10 a11 a12 a13 a14 a15 a16 a17 : Option SV}
abbrev irA5 : IR := .fo (.nm 4) (.iSeq (.lst (.cons (.var 10) (.cons (.neg (.lit (.int 1))) (.cons (.lit (.bool true)) (.cons (.lit .none) (.cons (.lit (.str "0")) (.cons (.tup (.cons (.lit (.int 0)) (.nil))) (.nil))))))))) irB3
theorem sA5 {p : Cell} {R : List Cell} {st : CS} {l : List Int} (g : Good l) (hM : prod l ≤ M40) : ∃ b4 : Option SV, (den GL irA5).s [a0, some (.own 0), a2, a3, a4, a5, a6, a7, some (.own (R.length + 1)), a9, some (.dat (.int (prod l))), a11, a12, a13, a14, a15, a16, a17] (p :: (R ++ [⟨st, l.map PyData.int⟩])) =
    .nx [a0, some (.own 0), a2, a3, b4, a5, a6, a7, some (.own (R.length + 1)), a9, some (.dat (.int (prod l))), a11, a12, a13, a14, a15, a16, a17] (p :: (R ++ [⟨st, l.map PyData.int⟩])) := by
  obtain ⟨ρ', μ', e3, b4, rfl, rfl⟩ := for_inv (asg := (Tg.nm 4).f.one) (b := (den GL irB3).s) (ds := [.int (prod l), .int (-1), .bool true, .none, .str "0", .tuple [.int 0]]) (n := 0)
    (ρ := [a0, some (.own 0), a2, a3, a4, a5, a6, a7, some (.own (R.length + 1)), a9, some (.dat (.int (prod l))), a11, a12, a13, a14, a15, a16, a17]) (μ := p :: (R ++ [⟨st, l.map PyData.int⟩]))
    (fun _ ρ μ => ∃ b4 : Option SV, ρ = [a0, some (.own 0), a2, a3, b4, a5, a6, a7, some (.own (R.length + 1)), a9, some (.dat (.int (prod l))), a11, a12, a13, a14, a15, a16, a17] ∧ μ = p :: (R ++ [⟨st, l.map PyData.int⟩]))
    (fun d hd n ρ μ ⟨b4, hρ, hμ⟩ => by
      have hi : isint d 0 (prod l - 1) = false := by
        simp only [List.mem_cons, List.not_mem_nil, or_false] at hd
        rcases hd with rfl | rfl | rfl | rfl | rfl | rfl
        · show (decide (0 ≤ prod l) && decide (prod l ≤ prod l - 1)) = false
          rw [decide_eq_false (show ¬prod l ≤ prod l - 1 by omega), Bool.and_false]
        · rfl
        · rfl
        · rfl
        · rfl
        · rfl
      subst hρ hμ
      exact ⟨_, _, _, rfl, b3_step (a0 := a0) (a2 := a2) (a3 := a3) (a5 := a5) (a6 := a6) (a7 := a7) (a9 := a9) (a10 := some (.dat (.int (prod l)))) (a11 := a11) (a12 := a12) (a13 := a13) (a14 := a14) (a15 := a15) (a16 := a16) (a17 := a17) (a8 := none) g hM hi, _, rfl, rfl⟩)
    ⟨a4, rfl, rfl⟩
  refine ⟨b4, ?_⟩
  simp only [b_ok, b_exc, st_ok, st_exc, sq_nx, sq_rt, sq_bk, sq_ct, sq_exc, of_some, nox_ok, lk_dat, lk_fre, kp_dat, kp_fre, asB_b, asI_i, dB_, tR, s_nil, s_cons, s_pass, s_ret, s_xpr, s_set, s_setO, s_unp, s_sti, s_ifs, s_fo, s_rai, e_var, e_lit, e_dct, e_glb, e_bin, e_neg, e_nt, e_cmp, e_chn, e_bop, c_one, c_and, c_or, e_ife, e_tup, e_lst, e_idx, e_sli, e_blt, e_isi, e_lc0, k_nil, k_cons, bl_nil, bl_cons, a_nil, a_cons, o_nil, o_var, o_lit, intO_i, av_dat, av_fre, av_own, av_var, av_lit, av_glb, av_bin, av_idx, av_lst, av_tup, av_cal, av_blt, av_lend, i_seq, i_rng, sl_0, sl_s, lks_nil, s_par, pn_nil, pn_f, pn_t, st_nil, st_cons, s_app2, ow_0, ow_s, cm_eqi, cm_nei, cm_nes, cm_eqs, cm_neb, rv_dat, rv_fre, lk_0, lk_1, lk_2, i3_0, i3_1, i3_2, t3_1, t3_2, ka_dat, ka_fre, ka_own, tn_fre, tg_nm, bi_add, bi_sub, cm_lt, cm_le, cm_gt, cm_ge, cm_is, bt_len, bt_lenT, bt_int, bt_list, bt_tuple, bt_min, List.set_cons_zero, List.set_cons_succ, cond_true, cond_false, Int.reduceNeg, itemsD, e3]
abbrev irS5 : IR := .set 5 (.cal 2 (.cons (.lend 1) (.cons (.bin .Add (.blt .len (.cons (.var 8) (.nil))) (.lit (.int 1))) (.nil))))
theorem sS5 {n : Nat} {ds : List D} {R : List Cell} {st : CS} {l : List Int} (p : Pen n ds) (hn : n ≤ 90000) (hl : l.length ≤ 100) : ∃ (r : Int) (ds' : List D), Pen (n + 1) ds' ∧ 0 ≤ r ∧ r ≤ l.length ∧ (den GL irS5).s [a0, some (.own 0), a2, a3, a4, a5, a6, a7, some (.own (R.length + 1)), a9, a10, a11, a12, a13, a14, a15, a16, a17] (⟨.live, ds⟩ :: (R ++ [⟨st, l.map PyData.int⟩])) =
    .nx [a0, some (.own 0), a2, a3, a4, some (.dat (.int r)), a6, a7, some (.own (R.length + 1)), a9, a10, a11, a12, a13, a14, a15, a16, a17] (⟨.live, ds'⟩ :: (R ++ [⟨st, l.map PyData.int⟩])) := by
  obtain ⟨r, ds1, r0, r1, p1, e1⟩ := call_take p (by omega) (m := ((l.map PyData.int).length : Int) + 1) (by omega) (abs_lt (b := 1000) (by omega) (by rw [List.length_map]; omega) (by decide)) (R ++ [⟨st, l.map PyData.int⟩])
  refine ⟨r, ds1, p1, r0, by rw [List.length_map] at r1; omega, ?_⟩
  simp only [b_ok, b_exc, st_ok, st_exc, sq_nx, sq_rt, sq_bk, sq_ct, sq_exc, of_some, nox_ok, lk_dat, lk_fre, kp_dat, kp_fre, asB_b, asI_i, dB_, tR, s_nil, s_cons, s_pass, s_ret, s_xpr, s_set, s_setO, s_unp, s_sti, s_ifs, s_fo, s_rai, e_var, e_lit, e_dct, e_glb, e_bin, e_neg, e_nt, e_cmp, e_chn, e_bop, c_one, c_and, c_or, e_ife, e_tup, e_lst, e_idx, e_sli, e_blt, e_isi, e_lc0, k_nil, k_cons, bl_nil, bl_cons, a_nil, a_cons, o_nil, o_var, o_lit, intO_i, av_dat, av_fre, av_own, av_var, av_lit, av_glb, av_bin, av_idx, av_lst, av_tup, av_cal, av_blt, av_lend, i_seq, i_rng, sl_0, sl_s, lks_nil, s_par, pn_nil, pn_f, pn_t, st_nil, st_cons, s_app2, ow_0, ow_s, cm_eqi, cm_nei, cm_nes, cm_eqs, cm_neb, rv_dat, rv_fre, lk_0, lk_1, lk_2, i3_0, i3_1, i3_2, t3_1, t3_2, ka_dat, ka_fre, ka_own, tn_fre, tg_nm, bi_add, bi_sub, cm_lt, cm_le, cm_gt, cm_ge, cm_is, bt_len, bt_lenT, bt_int, bt_list, bt_tuple, bt_min, List.set_cons_zero, List.set_cons_succ, cond_true, cond_false, lks_k, e_cal gl2, e1]
theorem cut1 {l : List Int} {r : Int} : ∃ T : List D, T.length ≤ l.length ∧ cutD (dI l) none (some r) = some (.fre T) := ⟨_, by
  rw [List.length_take, List.length_drop, List.length_map]
  omega, rfl⟩
theorem cut2 {l : List Int} {r : Int} : ∃ T : List D, T.length ≤ l.length ∧ cutD (dI l) (some r) none = some (.fre T) := ⟨_, by
  rw [List.length_take, List.length_drop, List.length_map]
  omega, rfl⟩
abbrev irS6 : IR := .set 6 (.lc [("_law_odd", 7)] (.nm 7) (.iSeq (.lst (.cons (.lit (.int 0)) (.cons (.neg (.lit (.int 1))) (.cons (.bin .Add (.bin .Pow (.lit (.int 10)) (.lit (.int 40))) (.lit (.int 1))) (.cons (.lit .none) (.cons (.lit (.bool true)) (.cons (.lit (.str "2")) (.cons (.tup (.cons (.lit (.int 2)) (.nil))) (.nil)))))))))) (.nil) (.bin .Add (.bin .Add (.sli (.var 8) (.nil) (.var 5)) (.lst (.cons (.var 7) (.nil)))) (.sli (.var 8) (.var 5) (.nil))))
theorem sS6 {p : Cell} {R : List Cell} {st : CS} {l : List Int} {r : Int} (hl : l.length ≤ 90) : ∃ W : List D, W.length = 7 ∧ (∀ d ∈ W, Bad d) ∧ (den GL irS6).s [a0, some (.own 0), a2, a3, a4, some (.dat (.int r)), a6, a7, some (.own (R.length + 1)), a9, a10, a11, a12, a13, a14, a15, a16, a17] (p :: (R ++ [⟨st, l.map PyData.int⟩])) =
    .nx [a0, some (.own 0), a2, a3, a4, some (.dat (.int r)), some (.dat (.list W)), a7, some (.own (R.length + 1)), a9, a10, a11, a12, a13, a14, a15, a16, a17] (p :: (R ++ [⟨st, l.map PyData.int⟩])) := by
  obtain ⟨T, hT, eT⟩ := cut1 (l := l) (r := r)
  obtain ⟨U, hU, eU⟩ := cut2 (l := l) (r := r)
  have k : okPow 10 40 = true := by decide
  have lc : lcR (Tg.nm 7).f.one (fun _ μ2 => .ok true μ2) (fun ρ1 μ2 => ((den GL (.bin .Add (.bin .Add (.sli (.var 8) (.nil) (.var 5)) (.lst (.cons (.var 7) (.nil)))) (.sli (.var 8) (.var 5) (.nil)))).e ρ1 μ2).bind fun v μ3 => (v.keep μ3).bind fun d μ4 => .ok [d] μ4) [a0, some (.own 0), a2, a3, a4, some (.dat (.int r)), a6, none, some (.own (R.length + 1)), a9, a10, a11, a12, a13, a14, a15, a16, a17] [.int 0, .int (-1), .int (10 ^ (40 : Int).toNat + 1), .none, .bool true, .str "2", .tuple [.int 2]] (p :: (R ++ [⟨st, l.map PyData.int⟩])) =
      .ok ([.int 0, .int (-1), .int (10 ^ (40 : Int).toNat + 1), .none, .bool true, .str "2", .tuple [.int 2]].map fun d => .list (T ++ [d] ++ U)) (p :: (R ++ [⟨st, l.map PyData.int⟩])) := by
    refine lcR_map fun d _ => ⟨_, rfl, ?_⟩
    have c1 : bin2 .Add (.list T) (.list [d]) = some (.fre (T ++ [d])) := bi_cat (by have := size7 (n := T.length + [d].length) (by simp; omega); exact this)
    have c2 : bin2 .Add (.list (T ++ [d])) (.list U) = some (.fre (T ++ [d] ++ U)) := bi_cat (by have := size7 (n := (T ++ [d]).length + U.length) (by simp; omega); exact this)
    show ((den GL (.bin .Add (.bin .Add (.sli (.var 8) (.nil) (.var 5)) (.lst (.cons (.var 7) (.nil)))) (.sli (.var 8) (.var 5) (.nil)))).e [a0, some (.own 0), a2, a3, a4, some (.dat (.int r)), a6, some (.dat d), some (.own (R.length + 1)), a9, a10, a11, a12, a13, a14, a15, a16, a17] (p :: (R ++ [⟨st, l.map PyData.int⟩]))).bind _ = _
    simp only [b_ok, b_exc, st_ok, st_exc, sq_nx, sq_rt, sq_bk, sq_ct, sq_exc, of_some, nox_ok, lk_dat, lk_fre, kp_dat, kp_fre, asB_b, asI_i, dB_, tR, s_nil, s_cons, s_pass, s_ret, s_xpr, s_set, s_setO, s_unp, s_sti, s_ifs, s_fo, s_rai, e_var, e_lit, e_dct, e_glb, e_bin, e_neg, e_nt, e_cmp, e_chn, e_bop, c_one, c_and, c_or, e_ife, e_tup, e_lst, e_idx, e_sli, e_blt, e_isi, e_lc0, k_nil, k_cons, bl_nil, bl_cons, a_nil, a_cons, o_nil, o_var, o_lit, intO_i, av_dat, av_fre, av_own, av_var, av_lit, av_glb, av_bin, av_idx, av_lst, av_tup, av_cal, av_blt, av_lend, i_seq, i_rng, sl_0, sl_s, lks_nil, s_par, pn_nil, pn_f, pn_t, st_nil, st_cons, s_app2, ow_0, ow_s, cm_eqi, cm_nei, cm_nes, cm_eqs, cm_neb, rv_dat, rv_fre, lk_0, lk_1, lk_2, i3_0, i3_1, i3_2, t3_1, t3_2, ka_dat, ka_fre, ka_own, tn_fre, tg_nm, bi_add, bi_sub, cm_lt, cm_le, cm_gt, cm_ge, cm_is, bt_len, bt_lenT, bt_int, bt_list, bt_tuple, bt_min, List.set_cons_zero, List.set_cons_succ, cond_true, cond_false, lk_k, eT, eU, c1, c2]
  refine ⟨[.int 0, .int (-1), .int (10 ^ (40 : Int).toNat + 1), .none, .bool true, .str "2", .tuple [.int 2]].map fun d => .list (T ++ [d] ++ U), by simp, fun e he => ?_, ?_⟩
  rotate_left
  · have w : wipeR [a0, some (.own 0), a2, a3, a4, some (.dat (.int r)), a6, a7, some (.own (R.length + 1)), a9, a10, a11, a12, a13, a14, a15, a16, a17] ([(("_law_odd" : Str), 7)].map (·.2)) = [a0, some (.own 0), a2, a3, a4, some (.dat (.int r)), a6, none, some (.own (R.length + 1)), a9, a10, a11, a12, a13, a14, a15, a16, a17] := rfl
    have h7 : ([.int 0, .int (-1), .int (10 ^ (40 : Int).toNat + 1), .none, .bool true, .str "2", .tuple [.int 2]] : List D).length ≤ 10000000 := by simp
    have ei : (den GL (.iSeq (.lst (.cons (.lit (.int 0)) (.cons (.neg (.lit (.int 1))) (.cons (.bin .Add (.bin .Pow (.lit (.int 10)) (.lit (.int 40))) (.lit (.int 1))) (.cons (.lit .none) (.cons (.lit (.bool true)) (.cons (.lit (.str "2")) (.cons (.tup (.cons (.lit (.int 2)) (.nil))) (.nil))))))))))).i [a0, some (.own 0), a2, a3, a4, some (.dat (.int r)), a6, a7, some (.own (R.length + 1)), a9, a10, a11, a12, a13, a14, a15, a16, a17] (p :: (R ++ [⟨st, l.map PyData.int⟩])) = .ok [.int 0, .int (-1), .int (10 ^ (40 : Int).toNat + 1), .none, .bool true, .str "2", .tuple [.int 2]] (p :: (R ++ [⟨st, l.map PyData.int⟩])) := by
      simp only [b_ok, b_exc, st_ok, st_exc, sq_nx, sq_rt, sq_bk, sq_ct, sq_exc, of_some, nox_ok, lk_dat, lk_fre, kp_dat, kp_fre, asB_b, asI_i, dB_, tR, s_nil, s_cons, s_pass, s_ret, s_xpr, s_set, s_setO, s_unp, s_sti, s_ifs, s_fo, s_rai, e_var, e_lit, e_dct, e_glb, e_bin, e_neg, e_nt, e_cmp, e_chn, e_bop, c_one, c_and, c_or, e_ife, e_tup, e_lst, e_idx, e_sli, e_blt, e_isi, e_lc0, k_nil, k_cons, bl_nil, bl_cons, a_nil, a_cons, o_nil, o_var, o_lit, intO_i, av_dat, av_fre, av_own, av_var, av_lit, av_glb, av_bin, av_idx, av_lst, av_tup, av_cal, av_blt, av_lend, i_seq, i_rng, sl_0, sl_s, lks_nil, s_par, pn_nil, pn_f, pn_t, st_nil, st_cons, s_app2, ow_0, ow_s, cm_eqi, cm_nei, cm_nes, cm_eqs, cm_neb, rv_dat, rv_fre, lk_0, lk_1, lk_2, i3_0, i3_1, i3_2, t3_1, t3_2, ka_dat, ka_fre, ka_own, tn_fre, tg_nm, bi_add, bi_sub, cm_lt, cm_le, cm_gt, cm_ge, cm_is, bt_len, bt_lenT, bt_int, bt_list, bt_tuple, bt_min, List.set_cons_zero, List.set_cons_succ, cond_true, cond_false, bi_pow k, Int.reduceNeg, itemsD]
    rw [s_set, e_lc0, ei, nox_ok, b_ok, if_pos h7, w, lc]
    rfl
  · obtain ⟨d, hd, rfl⟩ := List.mem_map.mp he
    have hi : isint d 1 M40 = false := by
      have e : (10 : Int) ^ (40 : Int).toNat = M40 := by decide
      rw [e] at hd
      simp only [List.mem_cons, List.not_mem_nil, or_false] at hd
      rcases hd with rfl | rfl | rfl | rfl | rfl | rfl | rfl <;> first
        | rfl
        | decide
    refine .odd (by simp; omega) ?_
    rw [List.all_append, List.all_append, List.all_cons, hi]
    simp
end
end K10

set_option maxHeartbeats 400000
namespace K10
open DL
open PySem PySem.Spec PyProof.Rows L2
section
variable {a0 a2 a3 a4 a5 a6 a7 a8 a9 a10 a11 a12 a13 a14 a15 a16 a17 : Option SV}
abbrev irS7 : IR := .set 6 (.bin .Add (.var 6) (.lst (.cons (.blt .tuple1 (.cons (.var 8) (.nil))) (.cons (.lit .none) (.cons (.dct) (.cons (.bin .Mult (.lst (.cons (.lit (.int 1)) (.nil))) (.lit (.int 201))) (.cons (.lst (.cons (.bin .Pow (.lit (.int 10)) (.lit (.int 20))) (.cons (.bin .Add (.bin .Pow (.lit (.int 10)) (.lit (.int 20))) (.lit (.int 1))) (.nil)))) (.cons (.lit (.int 5)) (.nil)))))))))
theorem sS7 {p : Cell} {R : List Cell} {st : CS} {l : List Int} {W : List D} (hW : W.length = 7) (bW : ∀ d ∈ W, Bad d) : ∃ V : List D, V.length = 13 ∧ (∀ d ∈ V, Bad d) ∧ (den GL irS7).s [a0, some (.own 0), a2, a3, a4, a5, some (.dat (.list W)), a7, some (.own (R.length + 1)), a9, a10, a11, a12, a13, a14, a15, a16, a17] (p :: (R ++ [⟨st, l.map PyData.int⟩])) =
    .nx [a0, some (.own 0), a2, a3, a4, a5, some (.dat (.list V)), a7, some (.own (R.length + 1)), a9, a10, a11, a12, a13, a14, a15, a16, a17] (p :: (R ++ [⟨st, l.map PyData.int⟩])) := by
  have k : okPow 10 20 = true := by decide
  have e20 : (10 : Int) ^ (20 : Int).toNat = 100000000000000000000 := by decide
  have rep : bin2 .Mult (.list [.int 1]) (.int 201) = some (.fre (List.replicate 201 [PyData.int 1]).flatten) := by
    show (if (decide (-(2 ^ 63) ≤ (201 : Int)) && decide ((201 : Int) < 2 ^ 63) && decide ([PyData.int 1].length * (201 : Int).toNat ≤ sizeLine)) = true then some (SV.fre (List.replicate (201 : Int).toNat [PyData.int 1]).flatten) else none) = _
    rw [if_pos (by simp [sizeLine_eq])]
    rfl
  have fl : (List.replicate 201 [PyData.int 1]).flatten.length = 201 := by decide
  have cat : bin2 .Add (.list W) (.list [.tuple (l.map PyData.int), .none, .dict [], .list (List.replicate 201 [PyData.int 1]).flatten, .list [.int 100000000000000000000, .int (100000000000000000000 + 1)], .int 5]) = some (.fre (W ++ [.tuple (l.map PyData.int), .none, .dict [], .list (List.replicate 201 [PyData.int 1]).flatten, .list [.int 100000000000000000000, .int (100000000000000000000 + 1)], .int 5])) :=
    bi_cat (by have := size7 (n := 13) (by decide); simp only [hW, List.length_cons, List.length_nil]; exact this)
  refine ⟨W ++ [.tuple (l.map PyData.int), .none, .dict [], .list (List.replicate 201 [PyData.int 1]).flatten, .list [.int 100000000000000000000, .int (100000000000000000000 + 1)], .int 5], by simp [hW], fun d hd => ?_, ?_⟩
  · rcases List.mem_append.mp hd with h | h
    · exact bW d h
    · simp only [List.mem_cons, List.not_mem_nil, or_false] at h
      rcases h with rfl | rfl | rfl | rfl | rfl | rfl
      · exact .other rfl
      · exact .other rfl
      · exact .other rfl
      · exact .long (by rw [fl]; decide)
      · exact .big (l := [100000000000000000000, 100000000000000000000 + 1]) ⟨by decide, by decide⟩ (by decide)
      · exact .other rfl
  · simp only [b_ok, b_exc, st_ok, st_exc, sq_nx, sq_rt, sq_bk, sq_ct, sq_exc, of_some, nox_ok, lk_dat, lk_fre, kp_dat, kp_fre, asB_b, asI_i, dB_, tR, s_nil, s_cons, s_pass, s_ret, s_xpr, s_set, s_setO, s_unp, s_sti, s_ifs, s_fo, s_rai, e_var, e_lit, e_dct, e_glb, e_bin, e_neg, e_nt, e_cmp, e_chn, e_bop, c_one, c_and, c_or, e_ife, e_tup, e_lst, e_idx, e_sli, e_blt, e_isi, e_lc0, k_nil, k_cons, bl_nil, bl_cons, a_nil, a_cons, o_nil, o_var, o_lit, intO_i, av_dat, av_fre, av_own, av_var, av_lit, av_glb, av_bin, av_idx, av_lst, av_tup, av_cal, av_blt, av_lend, i_seq, i_rng, sl_0, sl_s, lks_nil, s_par, pn_nil, pn_f, pn_t, st_nil, st_cons, s_app2, ow_0, ow_s, cm_eqi, cm_nei, cm_nes, cm_eqs, cm_neb, rv_dat, rv_fre, lk_0, lk_1, lk_2, i3_0, i3_1, i3_2, t3_1, t3_2, ka_dat, ka_fre, ka_own, tn_fre, tg_nm, bi_add, bi_sub, cm_lt, cm_le, cm_gt, cm_ge, cm_is, bt_len, bt_lenT, bt_int, bt_list, bt_tuple, bt_min, List.set_cons_zero, List.set_cons_succ, cond_true, cond_false, lks_k, bi_pow k, e20, rep, cat]
theorem a6_loop {R : List Cell} {st : CS} {l : List Int} (g : Good l) (hl : l.length ≤ 100) : ∀ {V : List D} {n : Nat} {ds : List D} {a7 : Option SV}, Pen n ds → n + V.length ≤ 99000 → (∀ d ∈ V, Bad d) → ∃ (ds' : List D) (b7 : Option SV), Pen (n + V.length) ds' ∧
    forR (Tg.nm 7).f.one (den GL irB4).s V [a0, some (.own 0), a2, a3, a4, a5, a6, a7, some (.own (R.length + 1)), a9, a10, some (.dat (.str (PyData.list (l.map PyData.int)).shown)), a12, a13, a14, a15, a16, a17] (⟨.live, ds⟩ :: (R ++ [⟨st, l.map PyData.int⟩])) =
      .nx [a0, some (.own 0), a2, a3, a4, a5, a6, b7, some (.own (R.length + 1)), a9, a10, some (.dat (.str (PyData.list (l.map PyData.int)).shown)), a12, a13, a14, a15, a16, a17] (⟨.live, ds'⟩ :: (R ++ [⟨st, l.map PyData.int⟩]))
  | [], n, ds, a7, p, _, _ => ⟨ds, a7, p, rfl⟩
  | d :: V, n, ds, a7, p, hn, bV => by
    rw [List.length_cons] at hn
    obtain ⟨ds1, p1, e1⟩ := b4_step (a0 := a0) (a2 := a2) (a3 := a3) (a4 := a4) (a5 := a5) (a6 := a6) (a9 := a9) (a10 := a10) (a12 := a12) (a13 := a13) (a14 := a14) (a15 := a15) (a16 := a16) (a17 := a17) (a8 := none) (R := R) (st := st) p (by omega) g hl (bV d (List.mem_cons_self ..))
    obtain ⟨ds2, b7, p2, e2⟩ := a6_loop g hl (V := V) (a7 := some (.dat d)) (R := R) (st := st) p1 (by omega) (fun e he => bV e (List.mem_cons_of_mem _ he))
    refine ⟨ds2, b7, ?_, (for_nx rfl e1).trans e2⟩
    have e : n + (d :: V).length = n + 1 + V.length := by rw [List.length_cons]; omega
    rw [e]
    exact p2
abbrev irA6 : IR := .fo (.nm 7) (.iSeq (.var 6)) irB4
theorem sA6 {n : Nat} {ds : List D} {R : List Cell} {st : CS} {l : List Int} {V : List D} (p : Pen n ds) (hn : n ≤ 90000) (hV : V.length = 13) (bV : ∀ d ∈ V, Bad d) (g : Good l) (hl : l.length ≤ 100) : ∃ (ds' : List D) (b7 : Option SV), Pen (n + 13) ds' ∧
    (den GL irA6).s [a0, some (.own 0), a2, a3, a4, a5, some (.dat (.list V)), a7, some (.own (R.length + 1)), a9, a10, some (.dat (.str (PyData.list (l.map PyData.int)).shown)), a12, a13, a14, a15, a16, a17] (⟨.live, ds⟩ :: (R ++ [⟨st, l.map PyData.int⟩])) =
      .nx [a0, some (.own 0), a2, a3, a4, a5, some (.dat (.list V)), b7, some (.own (R.length + 1)), a9, a10, some (.dat (.str (PyData.list (l.map PyData.int)).shown)), a12, a13, a14, a15, a16, a17] (⟨.live, ds'⟩ :: (R ++ [⟨st, l.map PyData.int⟩])) := by
  obtain ⟨ds', b7, p', e⟩ := a6_loop (a0 := a0) (a2 := a2) (a3 := a3) (a4 := a4) (a5 := a5) (a6 := some (.dat (.list V))) (a7 := a7) (a9 := a9) (a10 := a10) (a12 := a12) (a13 := a13) (a14 := a14) (a15 := a15) (a16 := a16) (a17 := a17) (R := R) (st := st) g hl p (by omega) bV
  rw [hV] at p'
  refine ⟨ds', b7, p', ?_⟩
  simp only [b_ok, b_exc, st_ok, st_exc, sq_nx, sq_rt, sq_bk, sq_ct, sq_exc, of_some, nox_ok, lk_dat, lk_fre, kp_dat, kp_fre, asB_b, asI_i, dB_, tR, s_nil, s_cons, s_pass, s_ret, s_xpr, s_set, s_setO, s_unp, s_sti, s_ifs, s_fo, s_rai, e_var, e_lit, e_dct, e_glb, e_bin, e_neg, e_nt, e_cmp, e_chn, e_bop, c_one, c_and, c_or, e_ife, e_tup, e_lst, e_idx, e_sli, e_blt, e_isi, e_lc0, k_nil, k_cons, bl_nil, bl_cons, a_nil, a_cons, o_nil, o_var, o_lit, intO_i, av_dat, av_fre, av_own, av_var, av_lit, av_glb, av_bin, av_idx, av_lst, av_tup, av_cal, av_blt, av_lend, i_seq, i_rng, sl_0, sl_s, lks_nil, s_par, pn_nil, pn_f, pn_t, st_nil, st_cons, s_app2, ow_0, ow_s, cm_eqi, cm_nei, cm_nes, cm_eqs, cm_neb, rv_dat, rv_fre, lk_0, lk_1, lk_2, i3_0, i3_1, i3_2, t3_1, t3_2, ka_dat, ka_fre, ka_own, tn_fre, tg_nm, bi_add, bi_sub, cm_lt, cm_le, cm_gt, cm_ge, cm_is, bt_len, bt_lenT, bt_int, bt_list, bt_tuple, bt_min, List.set_cons_zero, List.set_cons_succ, cond_true, cond_false, itemsD, e]
/-! ### a turn -/
abbrev irT : IR := .cons irA1 (.cons irA2 (.cons irA3 (.cons irA4 (.cons irA5 (.cons irS5 (.cons irS6 (.cons irS7 (.cons irA6 .nil))))))))
theorem turn {n : Nat} {ds : List D} {R : List Cell} (p : Pen n ds) (hn : n ≤ 70000) : ∃ (ds' : List D) (s : Cell) (b3 b4 b5 b6 b7 b8 b9 b10 b11 b12 b13 b14 b15 b16 b17 : Option SV), Pen (n + 40) ds' ∧
    (den GL irT).s [a0, some (.own 0), a2, a3, a4, a5, a6, a7, a8, a9, a10, a11, a12, a13, a14, a15, a16, a17] (⟨.live, ds⟩ :: R) = .nx [a0, some (.own 0), a2, b3, b4, b5, b6, b7, b8, b9, b10, b11, b12, b13, b14, b15, b16, b17] (⟨.live, ds'⟩ :: (R ++ [s])) := by
  have q1 := sA1 (a0 := a0) (a2 := a2) (a3 := a3) (a4 := a4) (a5 := a5) (a6 := a6) (a7 := a7) (a8 := a8) (a9 := a9) (a10 := a10) (a11 := a11) (a12 := a12) (a13 := a13) (a14 := a14) (a15 := a15) (a16 := a16) (a17 := a17) (p := ⟨.live, ds⟩) (R := R)
  obtain ⟨l, left, ds2, b3, p2, mk, hl, q2⟩ := sA2 (a0 := a0) (a2 := a2) (a3 := a3) (a4 := a4) (a5 := a5) (a6 := a6) (a7 := a7) (a10 := a10) (a11 := a11) (a12 := a12) (a13 := a13) (a14 := a14) (a15 := a15) (a16 := a16) (a17 := a17) (R := R) p (by omega)
  obtain ⟨g, hM, h1⟩ := mk.good hl
  have q3 := sA3 (a0 := a0) (a2 := a2) (a3 := b3) (a4 := a4) (a5 := a5) (a6 := a6) (a7 := a7) (a9 := some (.dat (.int left))) (a10 := a10) (a11 := a11) (a12 := a12) (a13 := a13) (a14 := a14) (a15 := a15) (a16 := a16) (a17 := a17) (p := ⟨.live, ds2⟩) (R := R) g (by omega)
  obtain ⟨ds4, st, b4, b12, b13, b14, b15, b16, b17, p4, hst, q4⟩ := sA4 (a0 := a0) (a2 := a2) (a3 := b3) (a4 := a4) (a5 := a5) (a6 := a6) (a7 := a7) (a9 := some (.dat (.int left))) (a12 := a12) (a13 := a13) (a14 := a14) (a15 := a15) (a16 := a16) (a17 := a17) (R := R) p2 (by omega) g hM h1
  obtain ⟨c4, q5⟩ := sA5 (a0 := a0) (a2 := a2) (a3 := b3) (a4 := b4) (a5 := a5) (a6 := a6) (a7 := a7) (a9 := some (.dat (.int left))) (a11 := some (.dat (.str (PyData.list (l.map PyData.int)).shown))) (a12 := b12) (a13 := b13) (a14 := b14) (a15 := b15) (a16 := b16) (a17 := b17) (p := ⟨.live, ds4⟩) (R := R) (st := st) g hM
  obtain ⟨r, ds5, p5, r0, r1, q6⟩ := sS5 (a0 := a0) (a2 := a2) (a3 := b3) (a4 := c4) (a5 := a5) (a6 := a6) (a7 := a7) (a9 := some (.dat (.int left))) (a10 := some (.dat (.int (prod l)))) (a11 := some (.dat (.str (PyData.list (l.map PyData.int)).shown))) (a12 := b12) (a13 := b13) (a14 := b14) (a15 := b15) (a16 := b16) (a17 := b17) (R := R) (st := st) (l := l) p4 (by omega) (by omega)
  obtain ⟨W, hW, bW, q7⟩ := sS6 (a0 := a0) (a2 := a2) (a3 := b3) (a4 := c4) (a6 := a6) (a7 := a7) (a9 := some (.dat (.int left))) (a10 := some (.dat (.int (prod l)))) (a11 := some (.dat (.str (PyData.list (l.map PyData.int)).shown))) (a12 := b12) (a13 := b13) (a14 := b14) (a15 := b15) (a16 := b16) (a17 := b17) (p := ⟨.live, ds5⟩) (R := R) (st := st) (l := l) (r := r) (by omega)
  obtain ⟨V, hV, bV, q8⟩ := sS7 (a0 := a0) (a2 := a2) (a3 := b3) (a4 := c4) (a5 := some (.dat (.int r))) (a7 := a7) (a9 := some (.dat (.int left))) (a10 := some (.dat (.int (prod l)))) (a11 := some (.dat (.str (PyData.list (l.map PyData.int)).shown))) (a12 := b12) (a13 := b13) (a14 := b14) (a15 := b15) (a16 := b16) (a17 := b17) (p := ⟨.live, ds5⟩) (R := R) (st := st) (l := l) hW bW
  obtain ⟨ds6, b7, p6, q9⟩ := sA6 (a0 := a0) (a2 := a2) (a3 := b3) (a4 := c4) (a5 := some (.dat (.int r))) (a7 := a7) (a9 := some (.dat (.int left))) (a10 := some (.dat (.int (prod l)))) (a12 := b12) (a13 := b13) (a14 := b14) (a15 := b15) (a16 := b16) (a17 := b17) (R := R) (st := st) p5 (by omega) hV bV g (by omega)
  refine ⟨ds6, ⟨st, l.map PyData.int⟩, b3, c4, some (.dat (.int r)), some (.dat (.list V)), b7, some (.own (R.length + 1)), some (.dat (.int left)), some (.dat (.int (prod l))), some (.dat (.str (PyData.list (l.map PyData.int)).shown)), b12, b13, b14, b15, b16, b17, ?_, ?_⟩
  · obtain ⟨cells, at_, v, y1, y2, y3, y4⟩ := p6.ex
    exact ⟨cells, at_, v, y1, y2, by omega, y4⟩
  · rw [s_cons, q1, sq_nx, s_cons, q2, sq_nx, s_cons, q3, sq_nx, s_cons, q4, sq_nx, s_cons, q5, sq_nx, s_cons, q6, sq_nx, s_cons, q7, sq_nx, s_cons, q8, sq_nx, s_cons, q9, sq_nx, s_nil]
end
end K10

set_option maxHeartbeats 400000
namespace K10
open DL
open PySem PySem.Spec PyProof.Rows L2
section
variable {a0 : Option SV}
theorem turns : ∀ (m : Nat) (lo : Int) {n : Nat} {ds : List D} {R : List Cell} {a2 a3 a4 a5 a6 a7 a8 a9 a10 a11 a12 a13 a14 a15 a16 a17 : Option SV}, Pen n ds → n + 40 * m ≤ 70000 → ∃ (ds' : List D) (R' : List Cell) (b2 b3 b4 b5 b6 b7 b8 b9 b10 b11 b12 b13 b14 b15 b16 b17 : Option SV),
    forR (Tg.nm 2).f.one (den GL irT).s (rangeD lo m) [a0, some (.own 0), a2, a3, a4, a5, a6, a7, a8, a9, a10, a11, a12, a13, a14, a15, a16, a17] (⟨.live, ds⟩ :: R) = .nx [a0, some (.own 0), b2, b3, b4, b5, b6, b7, b8, b9, b10, b11, b12, b13, b14, b15, b16, b17] (⟨.live, ds'⟩ :: R')
  | 0, lo, n, ds, R, a2, a3, a4, a5, a6, a7, a8, a9, a10, a11, a12, a13, a14, a15, a16, a17, p, _ => ⟨ds, R, a2, a3, a4, a5, a6, a7, a8, a9, a10, a11, a12, a13, a14, a15, a16, a17, rfl⟩
  | m + 1, lo, n, ds, R, a2, a3, a4, a5, a6, a7, a8, a9, a10, a11, a12, a13, a14, a15, a16, a17, p, hn => by
    obtain ⟨ds1, s, b3, b4, b5, b6, b7, b8, b9, b10, b11, b12, b13, b14, b15, b16, b17, p1, e1⟩ := turn (a0 := a0) (a2 := some (.dat (.int lo))) (a3 := a3) (a4 := a4) (a5 := a5) (a6 := a6) (a7 := a7) (a8 := a8) (a9 := a9) (a10 := a10) (a11 := a11) (a12 := a12) (a13 := a13) (a14 := a14) (a15 := a15) (a16 := a16) (a17 := a17) (R := R) p (by omega)
    obtain ⟨ds2, R2, c2, c3, c4, c5, c6, c7, c8, c9, c10, c11, c12, c13, c14, c15, c16, c17, e2⟩ := turns m (lo + 1) (a2 := some (.dat (.int lo))) (a3 := b3) (a4 := b4) (a5 := b5) (a6 := b6) (a7 := b7) (a8 := b8) (a9 := b9) (a10 := b10) (a11 := b11) (a12 := b12) (a13 := b13) (a14 := b14) (a15 := b15) (a16 := b16) (a17 := b17) (R := R ++ [s]) p1 (by omega)
    exact ⟨ds2, R2, c2, c3, c4, c5, c6, c7, c8, c9, c10, c11, c12, c13, c14, c15, c16, c17, (for_nx rfl e1).trans e2⟩
end
theorem gl0 : GL.ces[0]? = some c0 := rfl
abbrev ones : List Int := List.replicate 200 1
theorem ones_rep : (List.replicate 200 [PyData.int 1]).flatten = ones.map PyData.int := rfl
theorem ones_good : Good ones := ⟨by decide, by decide⟩
theorem ones_prod : prod ones = 1 := by decide
theorem eq1 : cmp2 .Eq (.tuple [.str "fine", .tuple ((coords ones 0).map PyData.int)]) (.tuple [.str "fine", .tuple (List.replicate 200 [PyData.int 0]).flatten]) = some true := by decide +kernel
theorem eq2 : cmp2 .Eq (.tuple [.str "fine", .tuple ((coords [] 0).map PyData.int)]) (.tuple [.str "fine", .tuple []]) = some true := by decide +kernel
abbrev irEnd : IR := .ret (.bop .And (.cons (.cmp .Eq (.cal 9 (.cons (.bin .Mult (.lst (.cons (.lit (.int 1)) (.nil))) (.lit (.int 200))) (.cons (.lit (.int 0)) (.nil)))) (.tup (.cons (.lit (.str "fine")) (.cons (.bin .Mult (.tup (.cons (.lit (.int 0)) (.nil))) (.lit (.int 200))) (.nil))))) (.cons (.cmp .Eq (.cal 9 (.cons (.lst (.nil)) (.cons (.lit (.int 0)) (.nil)))) (.tup (.cons (.lit (.str "fine")) (.cons (.tup (.nil)) (.nil))))) (.nil))))
theorem the_end {ρ : Rho} {μ : List Cell} : (den GL irEnd).s ρ μ = .rt (.dat (.bool true)) μ := by
  have r1 : bin2 .Mult (.list [.int 1]) (.int 200) = some (.fre (ones.map PyData.int)) := by
    rw [← ones_rep]
    show (if (decide (-(2 ^ 63) ≤ (200 : Int)) && decide ((200 : Int) < 2 ^ 63) && decide ([PyData.int 1].length * (200 : Int).toNat ≤ sizeLine)) = true then some (SV.fre (List.replicate (200 : Int).toNat [PyData.int 1]).flatten) else none) = _
    rw [if_pos (by simp [sizeLine_eq])]
    rfl
  have r2 : bin2 .Mult (.tuple [.int 0]) (.int 200) = some (.dat (.tuple (List.replicate 200 [PyData.int 0]).flatten)) := by
    show (if (decide ([PyData.int 0] ≠ []) && decide (2 ≤ (200 : Int)) && decide ((200 : Int) ≤ 1000) && decide ([PyData.int 0].length ≤ 1000)) = true then some (SV.dat (.tuple (List.replicate (200 : Int).toNat [PyData.int 0]).flatten)) else none) = _
    rw [if_pos (by simp)]
    rfl
  have x1 : callR c9 [.dat (dI ones), .dat (.int 0)] μ = .ok (.dat (.tuple [.str "fine", .tuple ((coords ones 0).map PyData.int)])) μ :=
    call_dat (r := .dat (.tuple [.str "fine", .tuple ((coords ones 0).map PyData.int)])) (as := [.dat (dI ones), .dat (.int 0)]) rfl rfl rfl (ans_ok ones_good (by rw [ones_prod]; decide) (by decide) (by rw [ones_prod]; decide)) (.inr rfl)
  have x2 : callR c9 [.dat (dI []), .dat (.int 0)] μ = .ok (.dat (.tuple [.str "fine", .tuple ((coords [] 0).map PyData.int)])) μ :=
    call_dat (r := .dat (.tuple [.str "fine", .tuple ((coords [] 0).map PyData.int)])) (as := [.dat (dI []), .dat (.int 0)]) rfl rfl rfl (ans_ok (l := []) ⟨by decide, by decide⟩ (by decide) (by decide) (by decide)) (.inr rfl)
  have x2' : callR c9 [.dat (.list []), .dat (.int 0)] μ = .ok (.dat (.tuple [.str "fine", .tuple ((coords [] 0).map PyData.int)])) μ := x2
  simp only [b_ok, b_exc, st_ok, st_exc, sq_nx, sq_rt, sq_bk, sq_ct, sq_exc, of_some, nox_ok, lk_dat, lk_fre, kp_dat, kp_fre, asB_b, asI_i, dB_, tR, s_nil, s_cons, s_pass, s_ret, s_xpr, s_set, s_setO, s_unp, s_sti, s_ifs, s_fo, s_rai, e_var, e_lit, e_dct, e_glb, e_bin, e_neg, e_nt, e_cmp, e_chn, e_bop, c_one, c_and, c_or, e_ife, e_tup, e_lst, e_idx, e_sli, e_blt, e_isi, e_lc0, k_nil, k_cons, bl_nil, bl_cons, a_nil, a_cons, o_nil, o_var, o_lit, intO_i, av_dat, av_fre, av_own, av_var, av_lit, av_glb, av_bin, av_idx, av_lst, av_tup, av_cal, av_blt, av_lend, i_seq, i_rng, sl_0, sl_s, lks_nil, s_par, pn_nil, pn_f, pn_t, st_nil, st_cons, s_app2, ow_0, ow_s, cm_eqi, cm_nei, cm_nes, cm_eqs, cm_neb, rv_dat, rv_fre, lk_0, lk_1, lk_2, i3_0, i3_1, i3_2, t3_1, t3_2, ka_dat, ka_fre, ka_own, tn_fre, tg_nm, bi_add, bi_sub, cm_lt, cm_le, cm_gt, cm_ge, cm_is, bt_len, bt_lenT, bt_int, bt_list, bt_tuple, bt_min, List.set_cons_zero, List.set_cons_succ, cond_true, cond_false, r1, r2, e_cal gl9, x1, x2', eq1, eq2]
theorem law_eq : ir_law = .cons (.setO 1 (.cal 0 (.cons (.var 0) (.nil)))) (.cons (.fo (.nm 2) (.iRng (.cons (.lit (.int 4)) (.nil))) irT) (.cons irEnd .nil)) := rfl
theorem due : ∀ ns : List Int, ns.length ≤ 63 → (∀ z ∈ ns, Builtin.Int.intBits z ≤ 1048576) → lawF [.dat (.list (ns.map PyData.int))] = some (.ret (.dat (.bool true)) []) := fun ns _ _ => by
  obtain ⟨ds, p, e0⟩ := open_sem ns
  show outOf 0 ((den GL ir_law).s [some (.dat (dI ns)), none, none, none, none, none, none, none, none, none, none, none, none, none, none, none, none, none] []) = _
  have x0 : callR c0 [.dat (dI ns)] [] = .ok (.fre ds) [] := call_dat (r := .fre ds) (as := [.dat (dI ns)]) rfl rfl rfl e0 (.inr rfl)
  have q1 : (den GL (.setO 1 (.cal 0 (.cons (.var 0) (.nil))))).s [some (.dat (dI ns)), none, none, none, none, none, none, none, none, none, none, none, none, none, none, none, none, none] [] =
      .nx [some (.dat (dI ns)), some (.own 0), none, none, none, none, none, none, none, none, none, none, none, none, none, none, none, none] [⟨.live, ds⟩] := by
    simp only [b_ok, b_exc, st_ok, st_exc, sq_nx, sq_rt, sq_bk, sq_ct, sq_exc, of_some, nox_ok, lk_dat, lk_fre, kp_dat, kp_fre, asB_b, asI_i, dB_, tR, s_nil, s_cons, s_pass, s_ret, s_xpr, s_set, s_setO, s_unp, s_sti, s_ifs, s_fo, s_rai, e_var, e_lit, e_dct, e_glb, e_bin, e_neg, e_nt, e_cmp, e_chn, e_bop, c_one, c_and, c_or, e_ife, e_tup, e_lst, e_idx, e_sli, e_blt, e_isi, e_lc0, k_nil, k_cons, bl_nil, bl_cons, a_nil, a_cons, o_nil, o_var, o_lit, intO_i, av_dat, av_fre, av_own, av_var, av_lit, av_glb, av_bin, av_idx, av_lst, av_tup, av_cal, av_blt, av_lend, i_seq, i_rng, sl_0, sl_s, lks_nil, s_par, pn_nil, pn_f, pn_t, st_nil, st_cons, s_app2, ow_0, ow_s, cm_eqi, cm_nei, cm_nes, cm_eqs, cm_neb, rv_dat, rv_fre, lk_0, lk_1, lk_2, i3_0, i3_1, i3_2, t3_1, t3_2, ka_dat, ka_fre, ka_own, tn_fre, tg_nm, bi_add, bi_sub, cm_lt, cm_le, cm_gt, cm_ge, cm_is, bt_len, bt_lenT, bt_int, bt_list, bt_tuple, bt_min, List.set_cons_zero, List.set_cons_succ, cond_true, cond_false, e_cal gl0, x0, List.length_nil, List.nil_append]
  obtain ⟨ds', R', b2, b3, b4, b5, b6, b7, b8, b9, b10, b11, b12, b13, b14, b15, b16, b17, e2⟩ := turns 4 0 (a0 := some (.dat (dI ns))) (a2 := none) (a3 := none) (a4 := none) (a5 := none) (a6 := none) (a7 := none) (a8 := none) (a9 := none) (a10 := none) (a11 := none) (a12 := none) (a13 := none) (a14 := none) (a15 := none) (a16 := none) (a17 := none) (R := []) p (by decide)
  have ei : (den GL (.iRng (.cons (.lit (.int 4)) (.nil)))).i [some (.dat (dI ns)), some (.own 0), none, none, none, none, none, none, none, none, none, none, none, none, none, none, none, none] [⟨.live, ds⟩] = .ok (rangeD 0 4) [⟨.live, ds⟩] := by
    simp only [b_ok, b_exc, st_ok, st_exc, sq_nx, sq_rt, sq_bk, sq_ct, sq_exc, of_some, nox_ok, lk_dat, lk_fre, kp_dat, kp_fre, asB_b, asI_i, dB_, tR, s_nil, s_cons, s_pass, s_ret, s_xpr, s_set, s_setO, s_unp, s_sti, s_ifs, s_fo, s_rai, e_var, e_lit, e_dct, e_glb, e_bin, e_neg, e_nt, e_cmp, e_chn, e_bop, c_one, c_and, c_or, e_ife, e_tup, e_lst, e_idx, e_sli, e_blt, e_isi, e_lc0, k_nil, k_cons, bl_nil, bl_cons, a_nil, a_cons, o_nil, o_var, o_lit, intO_i, av_dat, av_fre, av_own, av_var, av_lit, av_glb, av_bin, av_idx, av_lst, av_tup, av_cal, av_blt, av_lend, i_seq, i_rng, sl_0, sl_s, lks_nil, s_par, pn_nil, pn_f, pn_t, st_nil, st_cons, s_app2, ow_0, ow_s, cm_eqi, cm_nei, cm_nes, cm_eqs, cm_neb, rv_dat, rv_fre, lk_0, lk_1, lk_2, i3_0, i3_1, i3_2, t3_1, t3_2, ka_dat, ka_fre, ka_own, tn_fre, tg_nm, bi_add, bi_sub, cm_lt, cm_le, cm_gt, cm_ge, cm_is, bt_len, bt_lenT, bt_int, bt_list, bt_tuple, bt_min, List.set_cons_zero, List.set_cons_succ, cond_true, cond_false, lks_dat lks_nil, rng1 (r := 4) (by decide) (by decide)]
    rfl
  rw [law_eq, s_cons, q1, sq_nx, s_cons, s_fo, ei, st_ok, e2, sq_nx, s_cons, the_end, sq_rt]
  rfl
end K10

namespace K10
open DL
open PySem PySem.Spec PyProof.Rows L2
abbrev R : PySem.W.OpenRow := PySem.W.OpenLaw.row PySem.Challenge.rw_pacefold_k10_coordinates
def fa : List He.Fa := faOf defs con exc sub
abbrev hk : PySem.W.Hook := hookN 4 fa fn
def ob (s : PySem.W.SharedT) : AlN := obsN 4 fa fn (HandSHeadRun.getT s)
theorem ob_eq (s : PySem.W.SharedT) : ob s = hk.obs s.abs := obsN_eq (HandSHeadRun.getT_eq s)
def names : List Str := (["FoldError", "NoIndex", "NoSizes", "MOST_SIZE", "MOST_MODES", "is_integer", "end_of", "need_sizes", "raw_coordinates", "coordinates_of", "_law_open", "_law_spread", "_law_take", "_law_same", "_law_one_of", "_law_coordinates", "_law_answer", "_law_product"] : List Str)
theorem run (w : World) : HandSHeadRun.RunEq R (PySem.W.view R.prog [22]) hk ob 6000 names w := by
  intro os
  kernel_rfl
end K10
open PySem PySem.W PySem.Calls PyProof.Rows in
theorem PySem.Challenge.cw_pacefold_k10_coordinates_holds : PySem.Challenge.rw_pacefold_k10_coordinates.Holds := by
  w_on; o_law
  refine HandSHeadRun.head_any (r := OpenLaw.row PySem.Challenge.rw_pacefold_k10_coordinates) (q := view (OpenLaw.row PySem.Challenge.rw_pacefold_k10_coordinates).prog [22]) (H := K10.hk) (ob := K10.ob) (M := 6000) (loose := K10.names) (d := HandSHeadRun.topDef (OpenLaw.row PySem.Challenge.rw_pacefold_k10_coordinates).prog 22) (kwd := []) K10.ob_eq
    (by kernel_rfl) (fun s => by kernel_rfl) K10.run (by kernel_rfl) (by kernel_rfl) (by kernel_rfl) (by rfl) (by first | assumption | decide +kernel) (by decide +kernel) ⟨rfl, rfl, rfl, rfl, rfl, by decide +kernel⟩ ?hw ?hc
  case hw => w_witness2
  case hc =>
    refine DL.walk_ofG (l := PySem.Challenge.rw_pacefold_k10_coordinates) (n := 63) (k := 17) (x := "_law_script") (f := K10.lawF) (defs := K10.defs) (con := K10.con) (exc := K10.exc) (sub := K10.sub) (fn := K10.fn) rfl (by decide) (by kernel_rfl) ⟨rfl, by decide, by decide⟩ K10.due ?_
    intro w mg K h s fa e
    have en : (HandSHeadRun.topDef (OpenLaw.row PySem.Challenge.rw_pacefold_k10_coordinates).prog 22).name = ("law" : PySem.Str) := by kernel_rfl
    rw [en] at e
    exact K10.lawG s fa e

