import PyProof.Rows.All
import Wide.All
import OpenK.AllK
import Wide.FinOn
import HandS.ForMost
import HandS.ForExc
import HandS.IsInst
import HandS.Wide
import HandS.Walk
import HandS.TryMany
import HandS.TupMul
import HandS.TupAny
import HandS.Zip
import HandS.WideMore
import HandS.Conv
import HandS.Style
import HandS.FStr
import HandS.Text
import KE.GoesMore
import KE.GoesZip
import KE.GoesEnumKw
import PyProof.Rows.CallKwBuiltin
import KE.GoesEnum
import HandS.ExcOwn
import PyProof.ExcBaseAll.ValueError
import HandS.Defaults
import HandS.Head0
import HandS.Head1
import HandS.Head2
import HandS.HeadEnd
import HandS.HeadHook1
import HandS.HeadHook2
import HandS.HeadHook4
import HandS.EndBits
import HandS.Codes
import PyProof.FitsReplace
import PySem.Challenge.RW_pacefold_k04_functions_compared
set_option Elab.async false
set_option linter.all false
set_option maxRecDepth 100000
/-! DL1: programs over plain data, by a function of the text. -/
namespace DL
open PySem PySem.Spec PyProof.Rows L2

abbrev D := PyData
/-- how a list of one's own stands: given up to be data, still changed, or a caller's -/
inductive CS where
  | froz | live | arg | nest
  deriving DecidableEq
def CS.shut : CS → Bool
  | .froz => true
  | .nest => true
  | _ => false
def CS.op : CS → CS
  | .nest => .live
  | s => s
structure Cell where
  st : CS
  ds : List D
/-- what an expression is worth: data, a list of one's own, a list that was just made -/
inductive SV where
  | dat (d : D) | own (k : Nat) | fre (ds : List D) | nst (o : Nat) | frn (dss : List (List D))
structure Exn where
  cls : Str
  flds : List (Str × D)
abbrev Rho := List (Option SV)
inductive R (α : Type) where
  | ok (a : α) (μ : List Cell)
  | exc (x : Exn) (μ : List Cell)
  | stuck
def R.bind {α β : Type} (r : R α) (f : α → List Cell → R β) : R β := match r with
  | .ok a μ => f a μ
  | .exc x μ => .exc x μ
  | .stuck => .stuck
def R.of {α : Type} (o : Option α) (μ : List Cell) : R α := match o with
  | some a => .ok a μ
  | none => .stuck
/-- a value as data, without giving anything up -/
def SV.look (μ : List Cell) : SV → Option D
  | .dat d => some d
  | .fre ds => some (.list ds)
  | .own k => match μ[k]? with
    | some c => if c.st = .nest then none else some (.list c.ds)
    | none => none
  | .nst _ => none
  | .frn _ => none
def looks (μ : List Cell) : List SV → Option (List D)
  | [] => some []
  | v :: vs => match v.look μ, looks μ vs with
    | some d, some ds => some (d :: ds)
    | _, _ => none
/-- a list of one's own is given up -/
def froze (k : Nat) (μ : List Cell) : Option (List D × List Cell) := match μ[k]? with
  | some c => match c.st with
    | .arg => none
    | .live => some (c.ds, μ.set k ⟨.froz, c.ds⟩)
    | .froz => some (c.ds, μ)
    | .nest => none
  | none => none
/-- a value to be kept, as data -/
def SV.keep (μ : List Cell) : SV → R D
  | .dat d => .ok d μ
  | .fre ds => .ok (.list ds) μ
  | .own k => match froze k μ with
    | some (ds, μ') => .ok (.list ds) μ'
    | none => .stuck
  | .nst _ => .stuck
  | .frn _ => .stuck
/-- the lists of a nest are given up -/
def nfz : List D → List Cell → Option (List D × List Cell)
  | [], μ => some ([], μ)
  | .int k :: r, μ => match froze k.toNat μ with
    | some (ds, μ1) => match nfz r μ1 with
      | some (es, μ2) => some (.list ds :: es, μ2)
      | none => none
    | none => none
  | _ :: _, _ => none
/-- a nest, as data -/
def SV.nkeep (μ : List Cell) : SV → R SV
  | .nst o => match μ[o]? with
    | some c => if c.st = .froz then .ok (.dat (.list c.ds)) μ else if c.st = .nest then (match nfz c.ds μ with
      | some (es, μ') => .ok (.dat (.list es)) (μ'.set o ⟨.froz, es⟩)
      | none => .stuck) else .stuck
    | none => .stuck
  | .dat d => .ok (.dat d) μ
  | _ => .stuck

/-! ### defs -/
inductive Arg where
  | dat (d : D) | own (ds : List D)
inductive Rv where
  | dat (d : D) | fre (ds : List D)
inductive Out where
  | ret (r : Rv) (cs : List (List D))
  | exc (x : Exn) (cs : List (List D))
abbrev Fn := List Arg → Option Out
structure Ce where
  name : Str
  arity : Nat
  sem : Fn
/-- an argument: data, a list of one's own that is lent, a list of one's own that is lent to be changed -/
inductive AV where
  | dat (d : D) | tmp (k : Nat) | own (k : Nat)
def AV.arg (μ : List Cell) : AV → Option Arg
  | .dat d => some (.dat d)
  | .tmp k => match μ[k]? with
    | some c => if c.st = .nest then none else some (.dat (.list c.ds))
    | none => none
  | .own k => match μ[k]? with
    | some c => if c.st.shut = true then none else some (.own c.ds)
    | none => none
def avArgs (μ : List Cell) : List AV → Option (List Arg)
  | [] => some []
  | v :: vs => match v.arg μ, avArgs μ vs with
    | some d, some ds => some (d :: ds)
    | _, _ => none
def owns : List AV → List Nat
  | [] => []
  | .own k :: r => k :: owns r
  | _ :: r => owns r
def tmps : List AV → List Nat
  | [] => []
  | .tmp k :: r => k :: tmps r
  | _ :: r => tmps r
/-- the lists that were lent to be changed, as they come back -/
def wback : List Nat → List (List D) → List Cell → List Cell
  | k :: ks, ds :: r, μ => wback ks r (match μ[k]? with
    | some c => μ.set k ⟨c.st.op, ds⟩
    | none => μ)
  | _, _, μ => μ
def frozes : List Nat → List Cell → Option (List Cell)
  | [], μ => some μ
  | k :: ks, μ => match froze k μ with
    | some (_, μ') => frozes ks μ'
    | none => none
mutual
/-- data in which no list stands -/
def noList : D → Bool
  | .none => true
  | .bool _ => true
  | .int _ => true
  | .str _ => true
  | .list _ => false
  | .dict _ => false
  | .tuple xs => noLists xs
def noLists : List D → Bool
  | [] => true
  | x :: xs => noList x && noLists xs
end
def Rv.noL : Rv → Bool
  | .dat d => noList d
  | .fre ds => noLists ds
def Rv.sv : Rv → SV
  | .dat d => .dat d
  | .fre ds => .fre ds
def disj (as bs : List Nat) : Bool := as.all fun a => !bs.contains a
def callR (c : Ce) (vs : List AV) (μ : List Cell) : R SV :=
  if (owns vs).Nodup ∧ disj (owns vs) (tmps vs) = true ∧ vs.length = c.arity then
    match avArgs μ vs with
    | none => .stuck
    | some as => match c.sem as with
      | none => .stuck
      | some (.ret r cs) => if cs.length = (owns vs).length then
          if (r.noL && cs.all noLists) = true then .ok r.sv (wback (owns vs) cs μ)
          else match frozes (tmps vs) (wback (owns vs) cs μ) with
            | some μ' => .ok r.sv μ'
            | none => .stuck
        else .stuck
      | some (.exc x cs) => if cs.length = (owns vs).length then
          if (noLists (x.flds.map (·.2)) && cs.all noLists) = true then .exc x (wback (owns vs) cs μ)
          else match frozes (tmps vs) (wback (owns vs) cs μ) with
            | some μ' => .exc x μ'
            | none => .stuck
        else .stuck
  else .stuck

/-! ### operators -/
def okMul (i j : Int) : Bool := decide (i.natAbs.log2 + j.natAbs.log2 < 1000000)
def okDiv (j : Int) : Bool := decide (0 < j) && decide (j.natAbs.log2 < 9000)
def okPow (i j : Int) : Bool := decide (0 ≤ j) && decide (j ≤ 1000000) && decide (i.natAbs < 2 ^ 64)
/-- a op b on data -/
def bin2 (o : Operator) (x y : D) : Option SV := match o, x, y with
  | .Add, .int i, .int j => some (.dat (.int (i + j)))
  | .Add, .list a, .list b => if a.length + b.length ≤ sizeLine then some (.fre (a ++ b)) else none
  | .Add, .tuple a, .tuple b => if a.length + b.length ≤ sizeLine then some (.dat (.tuple (a ++ b))) else none
  | .Add, .str a, .str b => if a.length + b.length ≤ sizeLine then some (.dat (.str (a ++ b))) else none
  | .Sub, .int i, .int j => some (.dat (.int (i - j)))
  | .Mult, .int i, .int j => if okMul i j = true then some (.dat (.int (i * j))) else none
  | .Mult, .list a, .int j => if decide (-(2 ^ 63) ≤ j) && decide (j < 2 ^ 63) && decide (a.length * j.toNat ≤ sizeLine) then some (.fre (List.replicate j.toNat a).flatten) else none
  | .Mult, .tuple a, .int j => if decide (a ≠ []) && decide (2 ≤ j) && decide (j ≤ 1000) && decide (a.length ≤ 1000) then some (.dat (.tuple (List.replicate j.toNat a).flatten)) else none
  | .FloorDiv, .int i, .int j => if okDiv j = true then some (.dat (.int (i / j))) else none
  | .Mod, .int i, .int j => if decide (0 < j) = true then some (.dat (.int (i % j))) else none
  | .Pow, .int i, .int j => if okPow i j = true then some (.dat (.int (i ^ j.toNat))) else none
  | _, _, _ => none

/-! ### comparisons, built-ins -/
def flatD : D → Bool
  | .none => true
  | .bool _ => true
  | .int _ => true
  | .str _ => true
  | _ => false
def memD (x : D) (ys : List D) : Bool := ys.any fun y => PyData.eqv y x
def isN : D → Bool
  | .none => true
  | _ => false
def cmp2 (o : CmpOp) (x y : D) : Option Bool := match o, x, y with
  | .Lt, .int i, .int j => some (decide (i < j))
  | .LtE, .int i, .int j => some (decide (i ≤ j))
  | .Gt, .int i, .int j => some (decide (j < i))
  | .GtE, .int i, .int j => some (decide (j ≤ i))
  | .Eq, .str x, .str y => some (decide (x = y))
  | .NotEq, .str x, .str y => some (!decide (x = y))
  | .Eq, x, y => if SeqAt.shaped x && SeqAt.shaped y then some (PyData.eqv x y) else none
  | .NotEq, x, y => if SeqAt.shaped x && SeqAt.shaped y then some (!PyData.eqv x y) else none
  | .Is, x, .none => some (isN x)
  | .IsNot, x, .none => some (!isN x)
  | .In, x, .list ys => if flatD x && ys.all flatD then some (memD x ys) else none
  | .In, x, .tuple ys => if flatD x && ys.all flatD then some (memD x ys) else none
  | .NotIn, x, .list ys => if flatD x && ys.all flatD then some (!memD x ys) else none
  | .NotIn, x, .tuple ys => if flatD x && ys.all flatD then some (!memD x ys) else none
  | _, _, _ => none
def tyD : D → String
  | .none => "NoneType"
  | .bool _ => "bool"
  | .int _ => "int"
  | .str _ => "str"
  | .list _ => "list"
  | .tuple _ => "tuple"
  | .dict _ => "dict"
/-- the built-in classes that a program asks for -/
inductive Ty where
  | int | bool | str | list | tuple | dict
  deriving DecidableEq
def Ty.nm : Ty → String
  | .int => "int"
  | .bool => "bool"
  | .str => "str"
  | .list => "list"
  | .tuple => "tuple"
  | .dict => "dict"
def isTy (d : D) (t : Ty) : Bool := match d, t with
  | .bool _, .bool => true
  | .bool _, .int => true
  | .int _, .int => true
  | .str _, .str => true
  | .list _, .list => true
  | .tuple _, .tuple => true
  | .dict _, .dict => true
  | _, _ => false
inductive Blt where
  | len | abs | min2 | max2 | int1 | list1 | tuple1 | all1 | any1 | sum1 | min1 | max1 | repr1
  deriving DecidableEq
def Blt.nm : Blt → String
  | .len => "len"
  | .abs => "abs"
  | .min2 => "min"
  | .max2 => "max"
  | .int1 => "int"
  | .list1 => "list"
  | .tuple1 => "tuple"
  | .all1 => "all"
  | .any1 => "any"
  | .sum1 => "sum"
  | .min1 => "min"
  | .max1 => "max"
  | .repr1 => "repr"
def toInts : List D → Option (List Int)
  | [] => some []
  | .int i :: r => (toInts r).map (i :: ·)
  | _ :: _ => none
def toBools : List D → Option (List Bool)
  | [] => some []
  | .bool b :: r => (toBools r).map (b :: ·)
  | _ :: _ => none
def leastI : Int → List Int → Int
  | m, [] => m
  | m, x :: r => leastI (if x < m then x else m) r
def mostI : Int → List Int → Int
  | m, [] => m
  | m, x :: r => mostI (if x > m then x else m) r
def bltD (b : Blt) (xs : List D) : Option SV := match b, xs with
  | .len, [.list a] => some (.dat (.int a.length))
  | .len, [.tuple a] => some (.dat (.int a.length))
  | .len, [.str a] => if a.length ≤ sizeLine then some (.dat (.int a.length)) else none
  | .abs, [.int i] => some (.dat (.int (if i < 0 then -i else i)))
  | .min2, [.int i, .int j] => some (.dat (.int (if j < i then j else i)))
  | .max2, [.int i, .int j] => some (.dat (.int (if j > i then j else i)))
  | .int1, [.int i] => some (.dat (.int i))
  | .int1, [.bool b] => some (.dat (.int (if b then 1 else 0)))
  | .list1, [.list a] => some (.fre a)
  | .list1, [.tuple a] => some (.fre a)
  | .tuple1, [.list a] => some (.dat (.tuple a))
  | .tuple1, [.tuple a] => some (.dat (.tuple a))
  | .all1, [.list a] => (toBools a).map fun bs => .dat (.bool (bs.all id))
  | .any1, [.list a] => (toBools a).map fun bs => .dat (.bool (bs.any id))
  | .sum1, [.list a] => (toInts a).map fun ns => .dat (.int ns.sum)
  | .min1, [.list a] => match toInts a with
    | some (n :: ns) => some (.dat (.int (leastI n ns)))
    | _ => none
  | .max1, [.list a] => match toInts a with
    | some (n :: ns) => some (.dat (.int (mostI n ns)))
    | _ => none
  | .repr1, [d] => if d.showable && !d.hasDict && decide (d.depth ≤ 64) && decide (d.shown.length ≤ 1000000) then some (.dat (.str d.shown)) else none
  | _, _ => none
/-- places in a list or a tuple -/
def idxD (x y : D) : Option D := match x, y with
  | .list a, .int i => atI a i
  | .tuple a, .int i => atI a i
  | _, _ => none
def cutD (x : D) (lo hi : Option Int) : Option SV := match x with
  | .list a => some (.fre ((a.drop (HT.sIx a.length 0 lo)).take (HT.sIx a.length a.length hi - HT.sIx a.length 0 lo)))
  | .tuple a => some (.dat (.tuple ((a.drop (HT.sIx a.length 0 lo)).take (HT.sIx a.length a.length hi - HT.sIx a.length 0 lo))))
  | _ => none

/-- a list backwards -/
def revD : D → Option SV
  | .list a => some (.fre a.reverse)
  | _ => none
/-- a part of a text -/
def fmtD : D → Option Str
  | .str y => if y.length ≤ sizeLine then some y else none
  | .int i => if i.natAbs.log2 < 1920 then some (toString i) else none
  | _ => none
def toStrs : List D → Option (List Str)
  | [] => some []
  | .str x :: r => (toStrs r).map (x :: ·)
  | _ :: _ => none
def joinD (x : Str) : D → Option Str
  | .list a => match toStrs a with
    | some ys => if (ys.map (·.length)).sum + ys.length * x.length ≤ 16777216 then some (Txt.join x ys) else none
    | none => none
  | _ => none
def augI (o : Operator) (p q : Int) : Option Int := match o with
  | .Add => some (p + q)
  | .Sub => some (p - q)
  | .FloorDiv => if okDiv q = true then some (p / q) else none
  | _ => none
def slotI (ρ : Rho) (i : Nat) : Option Int := match ρ[i]? with
  | some (some (.dat (.int p))) => some p
  | _ => none
/-! ### the text -/
/-- a target: a name's place, a tuple of targets -/
inductive Tg where
  | nm (i : Nat) | nil | cons (a b : Tg)
structure TgF where
  one : D → Rho → Option Rho
  all : List D → Rho → Option Rho
def Tg.f : Tg → TgF
  | .nm i => ⟨fun d ρ => some (ρ.set i (some (.dat d))), fun _ _ => none⟩
  | .nil => ⟨fun d ρ => match d with
      | .tuple [] => some ρ
      | _ => none, fun ds ρ => match ds with
      | [] => some ρ
      | _ => none⟩
  | .cons a b => ⟨fun d ρ => match d with
      | .tuple (x :: ds) => match a.f.one x ρ with
        | some ρ' => b.f.all ds ρ'
        | none => none
      | _ => none, fun ds ρ => match ds with
      | x :: ds => match a.f.one x ρ with
        | some ρ' => b.f.all ds ρ'
        | none => none
      | [] => none⟩
inductive IR where
  | nil | cons (a b : IR)
  | var (i : Nat) | lend (i : Nat)
  | dct | lit (d : D) | glb (x : Str) (d : D)
  | bin (o : Operator) (a b : IR) | neg (a : IR) | nt (a : IR)
  | cmp (o : CmpOp) (a b : IR) | chn (o o' : CmpOp) (a b c : IR)
  | bop (o : BoolOp) (es : IR) | ife (c a b : IR)
  | tup (es : IR) | lst (es : IR)
  | idx (a b : IR) | sli (a lo hi : IR) | rev (a : IR)
  | fmt (a : IR) | jst (es : IR) | joi (x : Str) (e : IR) | lrg (a : IR)
  | cal (j : Nat) (es : IR) | blt (b : Blt) (es : IR) | isi (a : IR) (ts : List Ty)
  | lc (vs : List (Str × Nat)) (tg : Tg) (it t e : IR)
  | lc2 (vs : List (Str × Nat)) (vs1 : List Nat) (tg : Tg) (it : IR) (tg' : Tg) (it' e : IR)
  | iSeq (e : IR) | iRng (es : IR) | iEnu (e : IR) | iZip (strict : Option Bool) (a b : IR)
  | pass | ret (e : IR) | retN | xpr (e : IR)
  | set (i : Nat) (e : IR) | setO (i : Nat) (e : IR) | par (ts : List (Nat × Bool)) (es : IR) | unp (tg : Tg) (e : IR)
  | aug (i : Nat) (o : Operator) (e : IR) | sti (i : Nat) (a e : IR) | app (i : Nat) (e : IR)
  | ifs (c a b : IR) | fo (tg : Tg) (it b : IR) | whl (c b : IR) | brk | ctn
  | rai (x : Str) (m : Str) | tryM (b hs : IR) | hdl (x : Str) (b : IR)
  | nlc (vs : List (Str × Nat)) (i : Nat) (it : IR) | frz (e : IR) | idxN (a b : IR) | sti2 (i : Nat) (a b e : IR) | stn (i : Nat) (a e : IR) | foN (i1 i2 j : Nat) (b : IR)

/-! ### what the text does -/
inductive RS where
  | nx (ρ : Rho) (μ : List Cell) | rt (v : SV) (μ : List Cell) | bk (ρ : Rho) (μ : List Cell) | ct (ρ : Rho) (μ : List Cell)
  | exc (x : Exn) (ρ : Rho) (μ : List Cell) | stuck
def RS.seq (r : RS) (f : Rho → List Cell → RS) : RS := match r with
  | .nx ρ μ => f ρ μ
  | r => r
def R.st {α : Type} (r : R α) (ρ : Rho) (f : α → List Cell → RS) : RS := match r with
  | .ok a μ => f a μ
  | .exc x μ => .exc x ρ μ
  | .stuck => .stuck
def asB : SV → List Cell → R Bool
  | .dat (.bool b), μ => .ok b μ
  | _, _ => .stuck
def asI : SV → List Cell → R Int
  | .dat (.int b), μ => .ok b μ
  | _, _ => .stuck
def lcR (asg : D → Rho → Option Rho) (tt : Rho → List Cell → R Bool) (te : Rho → List Cell → R (List D)) (ρ : Rho) : List D → List Cell → R (List D)
  | [], μ => .ok [] μ
  | d :: ds, μ => match asg d ρ with
    | none => .stuck
    | some ρ1 => (tt ρ1 μ).bind fun b μ1 => match b with
      | true => (te ρ1 μ1).bind fun y μ2 => (lcR asg tt te ρ ds μ2).bind fun ys μ3 => .ok (y ++ ys) μ3
      | false => lcR asg tt te ρ ds μ1
def R.noX {α : Type} (r : R α) : R α := match r with
  | .ok a μ => .ok a μ
  | _ => .stuck
def wipeR (ρ : Rho) : List Nat → Rho
  | [] => ρ
  | v :: vs => (wipeR ρ vs).set v none
def forR (asg : D → Rho → Option Rho) (b : Rho → List Cell → RS) : List D → Rho → List Cell → RS
  | [], ρ, μ => .nx ρ μ
  | d :: ds, ρ, μ => match asg d ρ with
    | none => .stuck
    | some ρ1 => match b ρ1 μ with
      | .nx ρ2 μ2 => forR asg b ds ρ2 μ2
      | .ct ρ2 μ2 => forR asg b ds ρ2 μ2
      | .bk ρ2 μ2 => .nx ρ2 μ2
      | r => r
def whileN (c : Rho → List Cell → R Bool) (b : Rho → List Cell → RS) : Nat → Rho → List Cell → RS
  | 0, _, _ => .stuck
  | n + 1, ρ, μ => (c ρ μ).st ρ fun k μ1 => match k with
    | true => match b ρ μ1 with
      | .nx ρ2 μ2 => whileN c b n ρ2 μ2
      | .ct ρ2 μ2 => whileN c b n ρ2 μ2
      | .bk ρ2 μ2 => .nx ρ2 μ2
      | r => r
    | false => .nx ρ μ1
open Classical in
noncomputable def whileR (c : Rho → List Cell → R Bool) (b : Rho → List Cell → RS) (ρ : Rho) (μ : List Cell) : RS :=
  if h : ∃ n, whileN c b n ρ μ ≠ .stuck then whileN c b (choose h) ρ μ else .stuck
def rangeD (lo : Int) : Nat → List D
  | 0 => []
  | n + 1 => .int lo :: rangeD (lo + 1) n
def rangeC (lo c : Int) : Nat → List D
  | 0 => []
  | n + 1 => .int lo :: rangeC (lo + c) c n
def smallI (i : Int) : Bool := decide (-(2 ^ 62) ≤ i) && decide (i < 2 ^ 62)
/-- the numbers of a range -/
def rngD (xs : List D) : Option (List D) := match xs with
  | [.int j] => if smallI j = true then some (rangeD 0 j.toNat) else none
  | [.int i, .int j] => if smallI i && smallI j then some (rangeD i (j - i).toNat) else none
  | [.int i, .int j, .int (-1)] => if smallI i && smallI j then some (rangeC i (-1) (i - j).toNat) else none
  | _ => none
def itemsD : D → Option (List D)
  | .list a => some a
  | .tuple a => some a
  | _ => none
def enuD (i : Nat) : List D → List D
  | [] => []
  | d :: r => .tuple [.int i, d] :: enuD (i + 1) r
def zipD : List D → List D → List D
  | x :: xs, y :: ys => .tuple [x, y] :: zipD xs ys
  | _, _ => []
/-- an assignment of several values, some to lists of one's own -/
def parS : List (Nat × Bool) → List SV → Rho → List Cell → RS
  | [], [], ρ, μ => .nx ρ μ
  | (i, false) :: ts, v :: vs, ρ, μ => (v.keep μ).st ρ fun d μ1 => parS ts vs (ρ.set i (some (.dat d))) μ1
  | (i, true) :: ts, .fre ds :: vs, ρ, μ => parS ts vs (ρ.set i (some (.own μ.length))) (μ ++ [⟨.live, ds⟩])
  | _, _, _, _ => .stuck
/-- x[i] = v of a list of one's own -/
def stiR (k : Nat) (i : Int) (d : D) (μ : List Cell) : Option (List Cell) := match μ[k]? with
  | some c => if c.st.shut = true then none else match ixN c.ds.length i with
    | some j => some (μ.set k ⟨c.st, c.ds.set j d⟩)
    | none => none
  | none => none
def appR (k : Nat) (d : D) (μ : List Cell) : Option (List Cell) := match μ[k]? with
  | some c => if c.st.shut = true then none else if c.ds.length < 10000000 then some (μ.set k ⟨c.st, c.ds ++ [d]⟩) else none
  | none => none
/-- the lists of one's own that stand in a nest -/
def nidx : SV → SV → List Cell → R SV
  | .nst o, .dat (.int i), μ => match μ[o]? with
    | some c => if c.st = .nest then (match ixN c.ds.length i with
      | some j => (match c.ds[j]? with
        | some (.int k) => .ok (.own k.toNat) μ
        | _ => .stuck)
      | none => .stuck) else .stuck
    | none => .stuck
  | _, _, _ => .stuck
/-- another list comes to stand in a nest -/
def stnR (o : Nat) (i : Int) (ds : List D) (μ : List Cell) : Option (List Cell) := match μ[o]? with
  | some c => if c.st = .nest then (match ixN c.ds.length i with
    | some j => some ((μ ++ [(⟨.live, ds⟩ : Cell)]).set o ⟨.nest, c.ds.set j (.int μ.length)⟩)
    | none => none) else none
  | none => none
/-- the items of each -/
def rowsD : List D → Option (List (List D))
  | [] => some []
  | .list a :: r => (rowsD r).map (a :: ·)
  | .tuple a :: r => (rowsD r).map (a :: ·)
  | _ => none
open Classical in
/-- a loop over the lists of a nest -/
noncomputable def forN (o i1 i2 : Nat) (b : Rho → List Cell → RS) (cs : List D) : Nat → List D → Rho → List Cell → RS
  | _, [], ρ, μ => if μ[o]? = some ⟨.nest, cs⟩ then .nx ρ μ else .stuck
  | n, .int k :: r, ρ, μ => if μ[o]? = some ⟨.nest, cs⟩ then (match b ((ρ.set i1 (some (.dat (.int n)))).set i2 (some (.own k.toNat))) μ with
      | .nx ρ2 μ2 => forN o i1 i2 b cs (n + 1) r ρ2 μ2
      | .ct ρ2 μ2 => forN o i1 i2 b cs (n + 1) r ρ2 μ2
      | _ => .stuck) else .stuck
  | _, _, _, _ => .stuck
def hdlPick (sub : Str → Str → Bool) (x : Str) : List (Str × (Rho → List Cell → RS)) → Option (Rho → List Cell → RS)
  | [] => none
  | (c, h) :: r => if sub x c = true then some h else hdlPick sub x r
end DL

/-! DL2: what a text does, and how it fits the program's own text. -/
namespace DL
open PySem PySem.Spec PyProof.Rows L2
structure Ge where
  ces : List Ce
  con : List (Str × Int)
  exc : List Str
  sub : Str → Str → Bool
structure Den where
  e : Rho → List Cell → R SV
  av : Rho → List Cell → R AV
  o : Rho → List Cell → R (Option Int)
  b : Rho → List Cell → R (List SV)
  bc : BoolOp → Rho → List Cell → R SV
  k : Rho → List Cell → R (List D)
  a : Rho → List Cell → R (List AV)
  i : Rho → List Cell → R (List D)
  s : Rho → List Cell → RS
  j : Str → Rho → List Cell → R Str
  h : List (Str × (Rho → List Cell → RS))
def Den.no : Den := ⟨fun _ _ => .stuck, fun _ _ => .stuck, fun _ _ => .stuck, fun _ _ => .stuck, fun _ _ _ => .stuck, fun _ _ => .stuck, fun _ _ => .stuck, fun _ _ => .stuck, fun _ _ => .stuck, fun _ _ _ => .stuck, []⟩
def avOf : SV → List Cell → R AV
  | .dat d, μ => .ok (.dat d) μ
  | .fre ds, μ => .ok (.dat (.list ds)) μ
  | .own k, μ => .ok (.tmp k) μ
  | _, _ => .stuck
def intO : SV → List Cell → R (Option Int)
  | .dat (.int i), μ => .ok (some i) μ
  | _, _ => .stuck
def Den.ofE (e : Rho → List Cell → R SV) : Den := { Den.no with e := e, av := fun ρ μ => (e ρ μ).bind avOf, o := fun ρ μ => (e ρ μ).bind intO }
def slot (ρ : Rho) (i : Nat) (μ : List Cell) : R SV := match ρ[i]? with
  | some (some v) => .ok v μ
  | _ => .stuck
def dB (b : Bool) (μ : List Cell) : R SV := .ok (.dat (.bool b)) μ
def look1 (v : SV) (μ : List Cell) : R D := R.of (v.look μ) μ
def boolTail (o : BoolOp) (c : Bool) : Bool := match o with
  | .And => c
  | .Or => !c
def keepA : SV → SV
  | .dat d => .dat d
  | .fre ds => .dat (.list ds)
  | .own k => .own k
  | .nst k => .nst k
  | .frn ds => .frn ds
/-- a value on its way into a name: given a place of its own, or kept -/
def toName : Bool → SV → List Cell → R SV
  | false, .frn _, _ => .stuck
  | false, v, μ => .ok (keepA v) μ
  | true, .frn dss, μ => .ok (.nst (μ.length + dss.length)) (μ ++ (dss.map (fun ds => ⟨.live, ds⟩) ++ [⟨.nest, (List.range' μ.length dss.length).map fun k : Nat => .int k⟩]))
  | true, .fre ds, μ => .ok (.own μ.length) (μ ++ [⟨.live, ds⟩])
  | true, .own k, μ => .ok (.own k) μ
  | true, _, _ => .stuck
/-- several values on their way into names -/
def parN : List Bool → List SV → List Cell → Rho → (List SV → List Cell → RS) → RS
  | [], [], μ, _, c => c [] μ
  | t :: ts, v :: vs, μ, ρ, c => (toName t v μ).st ρ fun w μ1 => parN ts vs μ1 ρ fun ws μ2 => c (w :: ws) μ2
  | _, _, _, _, _ => .stuck
def ownS (ρ : Rho) (i : Nat) : Option Nat := match ρ[i]? with
  | some (some (.own k)) => some k
  | _ => none
def sets : List Nat → List SV → Rho → Option Rho
  | [], [], ρ => some ρ
  | i :: is, v :: vs, ρ => sets is vs (ρ.set i (some v))
  | _, _, _ => none
def stiV (n : Int) (d : D) : SV → List Cell → R (List Cell)
  | .own k, μ => R.of (stiR k n d μ) μ
  | _, _ => .stuck
def stnV (n : Int) : SV → SV → List Cell → R (List Cell)
  | .fre ds, .nst o, μ => R.of (stnR o n ds μ) μ
  | _, _, _ => .stuck
def appV (d : D) : SV → List Cell → R (List Cell)
  | .own k, μ => R.of (appR k d μ) μ
  | _, _ => .stuck
def testR (t : Rho → List Cell → R SV) (ρ : Rho) (μ : List Cell) : R Bool := (t ρ μ).bind asB
def RS.noX : RS → RS
  | .exc _ _ _ => .stuck
  | r => r
noncomputable def den (G : Ge) : IR → Den
  | .nil => { Den.no with o := fun _ μ => .ok none μ, b := fun _ μ => .ok [] μ, k := fun _ μ => .ok [] μ, a := fun _ μ => .ok [] μ, s := fun ρ μ => .nx ρ μ, j := fun acc _ μ => .ok acc μ }
  | .cons x y => { Den.no with
      b := fun ρ μ => ((den G x).e ρ μ).bind fun v μ1 => ((den G y).b ρ μ1).bind fun vs μ2 => .ok (v :: vs) μ2
      bc := fun o ρ μ => match y with
        | .nil => (den G x).e ρ μ
        | _ => ((den G x).e ρ μ).bind fun v μ1 => (asB v μ1).bind fun c μ2 => match boolTail o c with
          | true => (den G y).bc o ρ μ2
          | false => .ok (.dat (.bool c)) μ2
      k := fun ρ μ => ((den G x).e ρ μ).bind fun v μ1 => (v.keep μ1).bind fun d μ2 => ((den G y).k ρ μ2).bind fun ds μ3 => .ok (d :: ds) μ3
      a := fun ρ μ => ((den G x).av ρ μ).bind fun v μ1 => ((den G y).a ρ μ1).bind fun vs μ2 => .ok (v :: vs) μ2
      s := fun ρ μ => ((den G x).s ρ μ).seq (den G y).s
      j := fun acc ρ μ => ((den G x).e ρ μ).bind fun v μ1 => match v with
        | .dat (.str z) => if (acc ++ z).length ≤ sizeLine then (den G y).j (acc ++ z) ρ μ1 else .stuck
        | _ => .stuck
      h := (den G x).h ++ (den G y).h }
  | .var i => Den.ofE fun ρ μ => slot ρ i μ
  | .lend i => { Den.no with av := fun ρ μ => (slot ρ i μ).bind fun v μ1 => match v with
      | .own k => .ok (.own k) μ1
      | _ => .stuck }
  | .lit d => Den.ofE fun _ μ => .ok (.dat d) μ
  | .dct => Den.ofE fun _ μ => .ok (.dat (.dict [])) μ
  | .glb _ d => Den.ofE fun _ μ => .ok (.dat d) μ
  | .bin o x y => Den.ofE fun ρ μ => ((den G x).e ρ μ).bind fun v μ1 => ((den G y).e ρ μ1).bind fun w μ2 => (look1 v μ2).bind fun a μ3 => (look1 w μ3).bind fun b μ4 => R.of (bin2 o a b) μ4
  | .neg x => Den.ofE fun ρ μ => ((den G x).e ρ μ).bind fun v μ1 => (asI v μ1).bind fun i μ2 => .ok (.dat (.int (-i))) μ2
  | .nt x => Den.ofE fun ρ μ => ((den G x).e ρ μ).bind fun v μ1 => (asB v μ1).bind fun c μ2 => dB (!c) μ2
  | .cmp o x y => Den.ofE fun ρ μ => ((den G x).e ρ μ).bind fun v μ1 => ((den G y).e ρ μ1).bind fun w μ2 => (look1 v μ2).bind fun a μ3 => (look1 w μ3).bind fun b μ4 => (R.of (cmp2 o a b) μ4).bind dB
  | .chn o o' x y z => Den.ofE fun ρ μ => ((den G x).e ρ μ).bind fun v μ1 => ((den G y).e ρ μ1).bind fun w μ2 => (look1 v μ2).bind fun a μ3 => (look1 w μ3).bind fun b μ4 => (R.of (cmp2 o a b) μ4).bind fun c μ5 => match c with
      | true => ((den G z).e ρ μ5).bind fun u μ6 => (look1 w μ6).bind fun b' μ7 => (look1 u μ7).bind fun d μ8 => (R.of (cmp2 o' b' d) μ8).bind dB
      | false => dB false μ5
  | .bop o es => Den.ofE ((den G es).bc o)
  | .ife c x y => Den.ofE fun ρ μ => (testR (den G c).e ρ μ).bind fun b μ1 => match b with
      | true => (den G x).e ρ μ1
      | false => (den G y).e ρ μ1
  | .tup es => Den.ofE fun ρ μ => ((den G es).k ρ μ).bind fun ds μ1 => .ok (.dat (.tuple ds)) μ1
  | .lst es => Den.ofE fun ρ μ => ((den G es).k ρ μ).bind fun ds μ1 => .ok (.fre ds) μ1
  | .idx x y => Den.ofE fun ρ μ => ((den G x).e ρ μ).bind fun v μ1 => ((den G y).e ρ μ1).bind fun w μ2 => (look1 v μ2).bind fun a μ3 => (look1 w μ3).bind fun b μ4 => (R.of (idxD a b) μ4).bind fun d μ5 => .ok (.dat d) μ5
  | .sli x lo hi => Den.ofE fun ρ μ => ((den G x).e ρ μ).bind fun v μ1 => ((den G lo).o ρ μ1).bind fun l μ2 => ((den G hi).o ρ μ2).bind fun h μ3 => (look1 v μ3).bind fun a μ4 => R.of (cutD a l h) μ4
  | .rev x => Den.ofE fun ρ μ => ((den G x).e ρ μ).bind fun v μ1 => (look1 v μ1).bind fun a μ2 => R.of (revD a) μ2
  | .fmt x => Den.ofE fun ρ μ => ((den G x).e ρ μ).bind fun v μ1 => (look1 v μ1).bind fun a μ2 => (R.of (fmtD a) μ2).bind fun z μ3 => .ok (.dat (.str z)) μ3
  | .jst es => Den.ofE fun ρ μ => ((den G es).j Str.empty ρ μ).bind fun z μ1 => .ok (.dat (.str z)) μ1
  | .joi x e => Den.ofE fun ρ μ => ((den G e).e ρ μ).bind fun v μ1 => (look1 v μ1).bind fun a μ2 => (R.of (joinD x a) μ2).bind fun z μ3 => .ok (.dat (.str z)) μ3
  | .lrg x => Den.ofE fun ρ μ => ((den G x).e ρ μ).bind fun v μ1 => (asI v μ1).bind fun n μ2 => if smallI n && decide (n ≤ 10000000) then .ok (.fre (rangeD 0 n.toNat)) μ2 else .stuck
  | .cal j es => Den.ofE fun ρ μ => match G.ces[j]? with
      | none => .stuck
      | some c => ((den G es).a ρ μ).bind fun vs μ1 => callR c vs μ1
  | .blt b es => Den.ofE fun ρ μ => ((den G es).b ρ μ).bind fun vs μ1 => (R.of (looks μ1 vs) μ1).bind fun ds μ2 => R.of (bltD b ds) μ2
  | .isi x ts => Den.ofE fun ρ μ => ((den G x).e ρ μ).bind fun v μ1 => (look1 v μ1).bind fun d μ2 => dB (ts.any (isTy d)) μ2
  | .lc vs tg it t e => Den.ofE fun ρ μ => ((den G it).i ρ μ).noX.bind fun ds μ1 =>
      if ds.length ≤ 10000000 then
        (lcR tg.f.one (fun ρ1 μ2 => match t with
          | .nil => .ok true μ2
          | _ => testR (den G t).e ρ1 μ2) (fun ρ1 μ2 => ((den G e).e ρ1 μ2).bind fun v μ3 => (v.keep μ3).bind fun d μ4 => .ok [d] μ4) (wipeR ρ (vs.map (·.2))) ds μ1).noX.bind fun ys μ2 => .ok (.fre ys) μ2
      else .stuck
  | .iSeq e => { Den.no with i := fun ρ μ => ((den G e).e ρ μ).bind fun v μ1 => (v.keep μ1).bind fun d μ2 => R.of (itemsD d) μ2 }
  | .iRng es => { Den.no with i := fun ρ μ => ((den G es).b ρ μ).bind fun vs μ1 => (R.of (looks μ1 vs) μ1).bind fun ds μ2 => R.of (rngD ds) μ2 }
  | .iEnu e => { Den.no with i := fun ρ μ => ((den G e).e ρ μ).bind fun v μ1 => (v.keep μ1).bind fun d μ2 => match d with
      | .list a => .ok (enuD 0 a) μ2
      | _ => .stuck }
  | .iZip st x y => { Den.no with i := fun ρ μ => ((den G x).e ρ μ).bind fun v μ1 => (v.keep μ1).bind fun d μ2 => ((den G y).e ρ μ2).bind fun w μ3 => (w.keep μ3).bind fun d' μ4 => (R.of (itemsD d) μ4).bind fun xs μ5 => (R.of (itemsD d') μ5).bind fun ys μ6 => if st = some true ∧ xs.length ≠ ys.length then .stuck else .ok (zipD xs ys) μ6 }
  | .pass => { Den.no with s := fun ρ μ => .nx ρ μ }
  | .ret e => { Den.no with s := fun ρ μ => ((den G e).e ρ μ).st ρ fun v μ1 => .rt v μ1 }
  | .retN => { Den.no with s := fun _ μ => .rt (.dat .none) μ }
  | .xpr e => { Den.no with s := fun ρ μ => ((den G e).e ρ μ).st ρ fun _ μ1 => .nx ρ μ1 }
  | .set i e => { Den.no with s := fun ρ μ => (((den G e).e ρ μ).bind (toName false)).st ρ fun v μ1 => .nx (ρ.set i (some v)) μ1 }
  | .setO i e => { Den.no with s := fun ρ μ => (((den G e).e ρ μ).bind (toName true)).st ρ fun v μ1 => .nx (ρ.set i (some v)) μ1 }
  | .par ts es => { Den.no with s := fun ρ μ => ((den G es).b ρ μ).st ρ fun vs μ1 => parN (ts.map (·.2)) vs μ1 ρ fun ws μ2 => match sets (ts.map (·.1)) ws ρ with
      | some ρ' => .nx ρ' μ2
      | none => .stuck }
  | .unp tg e => { Den.no with s := fun ρ μ => (((den G e).e ρ μ).bind fun v μ1 => v.keep μ1).st ρ fun d μ1 => match tg.f.one d ρ with
      | some ρ' => .nx ρ' μ1
      | none => .stuck }
  | .aug i o e => { Den.no with s := fun ρ μ => match slotI ρ i with
      | none => .stuck
      | some p => (((den G e).e ρ μ).bind fun w μ3 => (asI w μ3).bind fun q μ4 => R.of (augI o p q) μ4).st ρ fun v μ1 => .nx (ρ.set i (some (.dat (.int v)))) μ1 }
  | .sti i x e => { Den.no with s := fun ρ μ => (((den G e).e ρ μ).bind fun v μ1 => (v.keep μ1).bind fun d μ2 => (slot ρ i μ2).bind fun w μ3 => ((den G x).e ρ μ3).bind fun u μ4 => (asI u μ4).bind fun n μ5 => stiV n d w μ5).st ρ fun r _ => .nx ρ r }
  | .app i e => { Den.no with s := fun ρ μ => match ownS ρ i with
      | some k => (((den G e).e ρ μ).bind fun v μ1 => (v.keep μ1).bind fun d μ2 => R.of (appR k d μ2) μ2).st ρ fun r _ => .nx ρ r
      | none => .stuck }
  | .ifs c x y => { Den.no with s := fun ρ μ => (testR (den G c).e ρ μ).st ρ fun b μ1 => match b with
      | true => (den G x).s ρ μ1
      | false => (den G y).s ρ μ1 }
  | .fo tg it b => { Den.no with s := fun ρ μ => ((den G it).i ρ μ).st ρ fun ds μ1 => forR tg.f.one (den G b).s ds ρ μ1 }
  | .whl c b => { Den.no with s := whileR (testR (den G c).e) (den G b).s }
  | .brk => { Den.no with s := fun ρ μ => .bk ρ μ }
  | .ctn => { Den.no with s := fun ρ μ => .ct ρ μ }
  | .rai x _ => { Den.no with s := fun ρ μ => .exc ⟨x, []⟩ ρ μ }
  | .tryM b hs => { Den.no with s := fun ρ μ => match (den G b).s ρ μ with
      | .exc x ρ1 μ1 => if G.exc.contains x.cls = true then (match hdlPick G.sub x.cls (den G hs).h with
        | some h => (h ρ1 μ1).noX
        | none => .exc x ρ1 μ1) else .stuck
      | r => r }
  | .hdl x b => { Den.no with h := [(x, (den G b).s)] }
  | .nlc _ i it => Den.ofE fun ρ μ => ((den G it).i ρ μ).noX.bind fun ds μ1 => if ds.length ≤ 10000000 ∧ i < ρ.length then (match rowsD ds with
      | some dss => .ok (.frn dss) μ1
      | none => .stuck) else .stuck
  | .frz e => Den.ofE fun ρ μ => ((den G e).e ρ μ).bind fun v μ1 => v.nkeep μ1
  | .idxN a b => Den.ofE fun ρ μ => ((den G a).e ρ μ).bind fun v μ1 => ((den G b).e ρ μ1).bind fun w μ2 => nidx v w μ2
  | .sti2 i a b e => { Den.no with s := fun ρ μ => (((den G e).e ρ μ).bind fun v μ1 => (v.keep μ1).bind fun d μ2 => ((slot ρ i μ2).bind fun w μ3 => ((den G a).e ρ μ3).bind fun x μ4 => nidx w x μ4).bind fun y μ5 => ((den G b).e ρ μ5).bind fun u μ6 => (asI u μ6).bind fun n μ7 => stiV n d y μ7).st ρ fun r _ => .nx ρ r }
  | .stn i a e => { Den.no with s := fun ρ μ => (((den G e).e ρ μ).bind fun v μ1 => (slot ρ i μ1).bind fun w μ3 => ((den G a).e ρ μ3).bind fun x μ4 => (asI x μ4).bind fun n μ5 => stnV n v w μ5).st ρ fun r _ => .nx ρ r }
  | .foN i1 i2 j b => { Den.no with s := fun ρ μ => match ρ[j]? with
      | some (some (.nst o)) => (match μ[o]? with
        | some c => forN o i1 i2 (den G b).s c.ds 0 c.ds ρ μ
        | none => .stuck)
      | _ => .stuck }
  | .lc2 vs vs1 tg it tg' it' e => Den.ofE fun ρ μ => ((den G it).i ρ μ).noX.bind fun ds μ1 =>
      (lcR tg.f.one (fun _ μ2 => .ok true μ2) (fun ρ1 μ2 => ((den G it').i ρ1 μ2).noX.bind fun ds' μ3 =>
        lcR tg'.f.one (fun _ μ4 => .ok true μ4) (fun ρ2 μ4 => ((den G e).e ρ2 μ4).bind fun v μ5 => (v.keep μ5).bind fun d μ6 => .ok [d] μ6) (wipeR ρ1 vs1) ds' μ3) (wipeR ρ (vs.map (·.2))) ds μ1).noX.bind fun ys μ2 => if ys.length ≤ 10000000 then .ok (.fre ys) μ2 else .stuck

/-! ### a def -/
def stR : List Arg → Nat → Rho
  | [], _ => []
  | .dat d :: r, n => some (.dat d) :: stR r n
  | .own _ :: r, n => some (.own n) :: stR r (n + 1)
def stC : List Arg → List Cell
  | [] => []
  | .dat _ :: r => stC r
  | .own ds :: r => ⟨.arg, ds⟩ :: stC r
def outC (n : Nat) (μ : List Cell) : List (List D) := (μ.take n).map (·.ds)
def retV (n : Nat) (μ : List Cell) : SV → Option Rv
  | .dat d => some (.dat d)
  | .fre ds => some (.fre ds)
  | .own k => if k < n then none else match μ[k]? with
    | some c => match c.st with
      | .live => some (.fre c.ds)
      | .froz => some (.dat (.list c.ds))
      | .arg => none
      | .nest => none
    | none => none
  | .nst _ => none
  | .frn _ => none
def argsSt (n : Nat) (μ : List Cell) : Bool := (μ.take n).all fun c => !c.st.shut
def outOf (n : Nat) : RS → Option Out
  | .nx _ μ => if argsSt n μ then some (.ret (.dat .none) (outC n μ)) else none
  | .rt v μ => if argsSt n μ then (retV n μ v).map fun r => .ret r (outC n μ) else none
  | .exc x _ μ => if argsSt n μ then some (.exc x (outC n μ)) else none
  | _ => none
noncomputable def semOf (G : Ge) (body : IR) (slots : Nat) : Fn := fun as =>
  outOf (stC as).length ((den G body).s (stR as 0 ++ List.replicate (slots - as.length) none) (stC as))
end DL

/-! DL3: a text against the program's own syntax. -/
namespace DL
open PySem PySem.Spec PyProof.Rows L2
def visB (sc : Scope) (x : Str) : Bool := match sc.names.lookup x with
  | some .local => true
  | some .cell => true
  | some .free => true
  | _ => false
def locB (sc : Scope) (x : Str) : Bool := match sc.names.lookup x with
  | some .local => true
  | some .cell => true
  | _ => false
def lclB (sc : Scope) (x : Str) : Bool := match sc.names.lookup x with
  | some .local => true
  | _ => false
def glB (sc : Scope) (x : Str) : Bool := match sc.names.lookup x with
  | some .globalImplicit => true
  | _ => false
def okName (x : Str) : Bool := !(x == "__debug__") && !(x == "__classdict__") && decide (x ≠ "__name__")
def litB : D → Const → Bool
  | .none, .none => true
  | .bool a, .bool b => decide (a = b)
  | .int i, .int j => decide (i = j)
  | .str x, .str y => decide (x = y)
  | _, _ => false
def notSlice : Expr → Bool
  | .Slice _ _ _ _ => false
  | _ => true
def notSet : Expr → Bool
  | .Set _ _ _ => false
  | _ => true
def isComp : Expr → Bool
  | .ListComp _ _ _ _ => true
  | .SetComp _ _ _ _ => true
  | .DictComp _ _ _ _ _ => true
  | _ => false
def noMarks (o : CmpOp) (b : Expr) : Bool := !behindInMarks o b
/-- what the model does with the names of a tuple's stores -/
def swpO (sc : Scope) (ts vs : List Expr) : Option (Option (List Str)) :=
  if !(ts.length == 2 || ts.length == 3) || vs.length != ts.length then some none else
  if (vs.any fun | .Starred .. => true | _ => false) then some none else
  let line := (ts.head?.map (·.pos.line)).getD 0
  let names := ts.filterMap fun
    | .Name id pos => if sc.names.lookup id == some .local && pos.line == line then some id else none
    | _ => none
  if names.length != ts.length || names.eraseDups.length != names.length then some none else
  if vs.all (foldedForSure 8) then some none else
  if vs.all (constantsAlone 8) then none else some (some names)
/-- a name = a comprehension: how the model stores it -/
def compSet (sc : Scope) (x : Str) (px : Pos) : Expr → Bool
  | .ListComp _ _ scope pos => lclB sc x && (px.line == pos.line) && !(scope.names.any fun (n, k) => n == x && (k == .local || k == .cell))
  | e => !isComp e
structure Mt where
  e : Scope → Expr → Bool
  a : Scope → Expr → Bool
  es : Scope → List Expr → Bool
  as : Scope → List Expr → Bool
  o : Scope → Option Expr → Bool
  i : Scope → Expr → Expr → Bool
  s : Scope → Stmt → Bool
  ss : Scope → List Stmt → Bool
  hs : Scope → List ExceptHandler → Bool
def Mt.no : Mt := ⟨fun _ _ => false, fun _ _ => false, fun _ _ => false, fun _ _ => false, fun _ _ => false, fun _ _ _ => false, fun _ _ => false, fun _ _ => false, fun _ _ => false⟩
def Mt.ofE (e : Scope → Expr → Bool) : Mt := { Mt.no with
  e := e
  a := e
  o := fun sc x => match x with
    | some y => e sc y
    | none => false }
structure TgM where
  one : Scope → Expr → Bool
  all : Scope → List Expr → Bool
def tgm (N : List Str) : Tg → TgM
  | .nm i => ⟨fun sc x => match x with
      | .Name n _ => decide (N[i]? = some n) && locB sc n
      | _ => false, fun _ _ => false⟩
  | .nil => ⟨fun _ x => match x with
      | .Tuple [] _ _ => true
      | _ => false, fun _ x => match x with
      | [] => true
      | _ => false⟩
  | .cons a b => ⟨fun sc x => match x with
      | .Tuple (y :: ys) _ _ => (tgm N a).one sc y && (tgm N b).all sc ys
      | _ => false, fun sc x => match x with
      | y :: ys => (tgm N a).one sc y && (tgm N b).all sc ys
      | _ => false⟩
/-- what an except suite may hold -/
def IR.hot : IR → Bool
  | .nil => true
  | .cons x y => x.hot && y.hot
  | .lit _ => true
  | .var _ => true
  | .pass => true
  | .ret e => e.hot
  | .retN => true
  | .set _ e => e.hot
  | .brk => true
  | .ctn => true
  | _ => false
def Tg.vars : Tg → List Nat
  | .nm i => [i]
  | .nil => []
  | .cons a b => a.vars ++ b.vars
def parT (N : List Str) (sc : Scope) : List Nat → List Expr → Bool
  | [], [] => true
  | i :: is, .Name n _ :: es => decide (N[i]? = some n) && locB sc n && parT N sc is es
  | _, _ => false
def tyNm (sc : Scope) (t : Ty) : Expr → Bool
  | .Name n _ => decide (n = Str.ofString t.nm) && glB sc n
  | _ => false
def tyNms (sc : Scope) : List Ty → List Expr → Bool
  | [], [] => true
  | t :: ts, e :: es => tyNm sc t e && tyNms sc ts es
  | _, _ => false
def tyEx (sc : Scope) (ts : List Ty) (e : Expr) : Bool := match ts, e with
  | [t], .Name n p => tyNm sc t (.Name n p)
  | ts, .Tuple es _ _ => tyNms sc ts es && decide (ts.length ≤ 100)
  | _, _ => false
def mt (G : Ge) (N : List Str) : IR → Mt
  | .nil => { Mt.no with
      es := fun _ l => match l with
        | [] => true
        | _ => false
      as := fun _ l => match l with
        | [] => true
        | _ => false
      o := fun _ x => match x with
        | none => true
        | _ => false
      ss := fun _ l => match l with
        | [] => true
        | _ => false
      hs := fun _ l => match l with
        | [] => true
        | _ => false }
  | .cons x y => { Mt.no with
      es := fun sc l => match l with
        | e :: r => (mt G N x).e sc e && (mt G N y).es sc r
        | _ => false
      as := fun sc l => match l with
        | e :: r => (mt G N x).a sc e && (mt G N y).as sc r
        | _ => false
      ss := fun sc l => match l with
        | e :: r => (mt G N x).s sc e && (mt G N y).ss sc r
        | _ => false
      hs := fun sc l => match l with
        | e :: r => (mt G N x).hs sc [e] && (mt G N y).hs sc r
        | _ => false }
  | .var i => Mt.ofE fun sc e => match e with
      | .Name n _ => decide (N[i]? = some n) && visB sc n && okName n
      | _ => false
  | .lend i => { Mt.no with a := fun sc e => match e with
      | .Name n _ => decide (N[i]? = some n) && visB sc n && okName n
      | _ => false }
  | .dct => Mt.ofE fun _ e => match e with
      | .Dict [] [] _ => true
      | _ => false
  | .lit d => Mt.ofE fun _ e => match e with
      | .Constant c _ _ => litB d c
      | _ => false
  | .glb x d => Mt.ofE fun sc e => match e, d with
      | .Name n _, .int i => decide (n = x) && glB sc n && okName n && decide ((x, i) ∈ G.con)
      | _, _ => false
  | .bin o x y => Mt.ofE fun sc e => match e with
      | .BinOp l p r _ => decide (o = p) && (mt G N x).e sc l && (mt G N y).e sc r
      | _ => false
  | .neg x => Mt.ofE fun sc e => match e with
      | .UnaryOp .USub l _ => (mt G N x).e sc l
      | _ => false
  | .nt x => Mt.ofE fun sc e => match e with
      | .UnaryOp .Not l _ => (mt G N x).e sc l
      | _ => false
  | .cmp o x y => Mt.ofE fun sc e => match e with
      | .Compare l [p] [r] _ => decide (o = p) && (mt G N x).e sc l && (mt G N y).e sc r && noMarks o r
      | _ => false
  | .chn o o' x y z => Mt.ofE fun sc e => match e with
      | .Compare l [p, p'] [r, r'] _ => decide (o = p) && decide (o' = p') && (mt G N x).e sc l && (mt G N y).e sc r && (mt G N z).e sc r' && noMarks o r && noMarks o' r'
      | _ => false
  | .bop o es => Mt.ofE fun sc e => match e with
      | .BoolOp p (l :: ls) _ => decide (o = p) && (mt G N es).es sc (l :: ls)
      | _ => false
  | .ife c x y => Mt.ofE fun sc e => match e with
      | .IfExp t l r _ => (mt G N c).e sc t && (mt G N x).e sc l && (mt G N y).e sc r
      | _ => false
  | .tup es => Mt.ofE fun sc e => match e with
      | .Tuple l _ _ => (mt G N es).es sc l && decide (l.length ≤ 10000000)
      | _ => false
  | .lst es => Mt.ofE fun sc e => match e with
      | .List l _ => (mt G N es).es sc l && decide (l.length ≤ 10000000)
      | _ => false
  | .idx x y => Mt.ofE fun sc e => match e with
      | .Subscript l r _ => (mt G N x).e sc l && (mt G N y).e sc r && notSlice r
      | _ => false
  | .sli x lo hi => Mt.ofE fun sc e => match e with
      | .Subscript l (.Slice a b none _) _ => (mt G N x).e sc l && (mt G N lo).o sc a && (mt G N hi).o sc b
      | _ => false
  | .rev x => Mt.ofE fun sc e => match e with
      | .Subscript l (.Slice none none (some (.UnaryOp .USub (.Constant (.int i) _ _) _)) _) _ => decide (i = 1) && (mt G N x).e sc l
      | _ => false
  | .fmt x => Mt.ofE fun sc e => match e with
      | .FormattedValue l c none _ => decide (c = -1) && (mt G N x).e sc l
      | _ => false
  | .jst es => Mt.ofE fun sc e => match e with
      | .JoinedStr (a :: b :: r) _ => (mt G N es).es sc (a :: b :: r)
      | _ => false
  | .joi x y => Mt.ofE fun sc e => match e with
      | .Call (.Attribute (.Constant (.str s) _ _) m ap) [v] [] cp => decide (s = x) && decide (m = "join") && (mt G N y).e sc v && (ap.endLine == cp.line)
      | _ => false
  | .lrg x => Mt.ofE fun sc e => match e with
      | .Call (.Name n _) [.Call (.Name r _) [l] [] _] [] _ => decide (n = "list") && decide (r = "range") && glB sc n && glB sc r && (mt G N x).e sc l
      | _ => false
  | .cal j es => Mt.ofE fun sc e => match e with
      | .Call (.Name n _) (l :: ls) [] _ => (match G.ces[j]? with
          | some c => decide (c.name = n)
          | none => false) && glB sc n && okName n && (mt G N es).as sc (l :: ls)
      | _ => false
  | .blt b es => Mt.ofE fun sc e => match e with
      | .Call (.Name n _) (l :: ls) [] _ => decide (n = Str.ofString b.nm) && glB sc n && (mt G N es).es sc (l :: ls)
      | _ => false
  | .isi x ts => Mt.ofE fun sc e => match e with
      | .Call (.Name n _) [l, t] [] _ => decide (n = "isinstance") && glB sc n && (mt G N x).e sc l && tyEx sc ts t
      | _ => false
  | .lc vs tg it t e => Mt.ofE fun sc x => match x with
      | .ListComp elt [⟨tg', it', ifs', 0⟩] scope _ => (tgm N tg).one scope tg' && (mt G N it).i sc tg' it' && (mt G N e).e scope elt && blkC N sc scope vs && (tg.vars.all fun i => (vs.map (·.2)).contains i) && (match t, ifs' with
          | .nil, [] => true
          | .nil, _ => false
          | _, [c] => (mt G N t).e scope c
          | _, _ => false)
      | _ => false
  | .lc2 vs vs1 tg it tg' it' e => Mt.ofE fun sc x => match x with
      | .ListComp elt [⟨t0, i0, [], 0⟩, ⟨t1, i1, [], 0⟩] scope _ => (tgm N tg).one scope t0 && (mt G N it).i sc t0 i0 && (tgm N tg').one scope t1 && (mt G N it').i scope t1 i1 && (mt G N e).e scope elt && blkC N sc scope vs && (tg.vars.all fun i => (vs.map (·.2)).contains i) && (tg'.vars.all fun i => vs1.contains i) && (vs1.all fun i => (vs.map (·.2)).contains i)
      | _ => false
  | .iSeq e => { Mt.no with i := fun sc _ x => (mt G N e).e sc x && notSet x }
  | .iRng es => { Mt.no with i := fun sc _ x => match x with
      | .Call (.Name n _) (l :: ls) [] _ => decide (n = "range") && glB sc n && decide (ls.length ≤ 2) && (mt G N es).es sc (l :: ls)
      | _ => false }
  | .iEnu e => { Mt.no with i := fun sc t x => match t, x with
      | .Tuple _ _ _, .Call (.Name n _) [l] [] _ => decide (n = "enumerate") && glB sc n && (mt G N e).e sc l
      | _, _ => false }
  | .iZip st x y => { Mt.no with i := fun sc t z => match t, z with
      | .Tuple _ _ _, .Call (.Name n _) [l, r] ks _ => decide (n = "zip") && glB sc n && (mt G N x).e sc l && (mt G N y).e sc r && (match st, ks with
          | none, [] => true
          | some b, [⟨some n, .Constant (.bool c) _ _, _⟩] => decide (n = "strict") && decide (b = c)
          | _, _ => false)
      | _, _ => false }
  | .pass => { Mt.no with s := fun _ x => match x with
      | .Pass _ => true
      | .Expr (.Constant (.str _) _ _) _ => true
      | _ => false }
  | .ret e => { Mt.no with s := fun sc x => match x with
      | .Return (some v) _ => (mt G N e).e sc v
      | _ => false }
  | .retN => { Mt.no with s := fun _ x => match x with
      | .Return none _ => true
      | _ => false }
  | .xpr e => { Mt.no with s := fun sc x => match x with
      | .Expr v _ => (mt G N e).e sc v && !isComp v
      | _ => false }
  | .set i e => { Mt.no with s := fun sc x => match x with
      | .Assign [.Name n p] v _ => decide (N[i]? = some n) && locB sc n && (mt G N e).e sc v && compSet sc n p v
      | _ => false }
  | .setO i e => { Mt.no with s := fun sc x => match x with
      | .Assign [.Name n p] v _ => decide (N[i]? = some n) && locB sc n && (mt G N e).e sc v && compSet sc n p v
      | _ => false }
  | .par ts es => { Mt.no with s := fun sc x => match x with
      | .Assign [.Tuple l _ _] (.Tuple r _ _) _ => parT N sc (ts.map (·.1)) l && (mt G N es).es sc r && decide (r.length = l.length) && decide (r.length ≤ 1000) && decide ((ts.map (·.1)).Nodup) && (match swpO sc l r with
          | none => false
          | some _ => true)
      | _ => false }
  | .unp tg e => { Mt.no with s := fun sc x => match x with
      | .Assign [t] v _ => (tgm N tg).one sc t && (mt G N e).e sc v && (match t, v with
          | .Tuple _ _ _, .Tuple _ _ _ => false
          | .Tuple _ _ _, _ => !isComp v
          | _, _ => false)
      | _ => false }
  | .aug i o e => { Mt.no with s := fun sc x => match x with
      | .AugAssign (.Name n _) p v _ => decide (o = p) && decide (N[i]? = some n) && locB sc n && (mt G N e).e sc v
      | _ => false }
  | .sti i a e => { Mt.no with s := fun sc x => match x with
      | .Assign [.Subscript (.Name n _) s _] v _ => decide (N[i]? = some n) && visB sc n && okName n && (mt G N a).e sc s && notSlice s && (mt G N e).e sc v && !isComp v
      | _ => false }
  | .app i e => { Mt.no with s := fun sc x => match x with
      | .Expr (.Call (.Attribute (.Name n _) m ap) [v] [] cp) _ => decide (N[i]? = some n) && visB sc n && okName n && decide (m = "append") && (mt G N e).e sc v && (ap.endLine == cp.line)
      | _ => false }
  | .ifs c a b => { Mt.no with s := fun sc x => match x with
      | .If t l r _ => (mt G N c).e sc t && (mt G N a).ss sc l && (mt G N b).ss sc r
      | _ => false }
  | .fo tg it b => { Mt.no with s := fun sc x => match x with
      | .For t v l [] _ => (tgm N tg).one sc t && (mt G N it).i sc t v && (mt G N b).ss sc l
      | _ => false }
  | .whl c b => { Mt.no with s := fun sc x => match x with
      | .While t l [] _ => (mt G N c).e sc t && (mt G N b).ss sc l
      | _ => false }
  | .brk => { Mt.no with s := fun _ x => match x with
      | .Break _ => true
      | _ => false }
  | .ctn => { Mt.no with s := fun _ x => match x with
      | .Continue _ => true
      | _ => false }
  | .rai c m => { Mt.no with s := fun sc x => match x with
      | .Raise (some (.Call (.Name n _) [.Constant (.str y) _ _] [] _)) none _ => decide (n = c) && decide (n ∈ G.exc) && glB sc n && okName n && decide (y = m)
      | _ => false }
  | .tryM b hs => { Mt.no with s := fun sc x => match x with
      | .Try l (h :: r) [] [] _ => (mt G N b).ss sc l && (mt G N hs).hs sc (h :: r)
      | _ => false }
  | .hdl c b => { Mt.no with hs := fun sc l => match l with
      | [.ExceptHandler (some (.Name n _)) none (s :: r) _] => decide (n = c) && decide (n ∈ G.exc) && glB sc n && okName n && b.hot && (mt G N b).ss sc (s :: r)
      | _ => false }
  | .nlc vs i it => Mt.ofE fun sc x => match x with
      | .ListComp elt [⟨tg', it', [], 0⟩] scope _ => (tgm N (.nm i)).one scope tg' && (mt G N it).i sc tg' it' && (match elt with
          | .Call (.Name n _) [.Name y _] [] _ => decide (n = "list") && glB scope n && decide (N[i]? = some y) && visB scope y && okName y
          | _ => false) && blkC N sc scope vs && ((vs.map (·.2)).contains i)
      | _ => false
  | .frz e => Mt.ofE fun sc x => match x with
      | .Name n p => (mt G N e).e sc (.Name n p)
      | _ => false
  | .idxN x y => Mt.ofE fun sc e => match e with
      | .Subscript l r _ => (mt G N x).e sc l && (mt G N y).e sc r && notSlice r
      | _ => false
  | .sti2 i a b e => { Mt.no with s := fun sc x => match x with
      | .Assign [.Subscript (.Subscript (.Name n _) s _) t _] v _ => decide (N[i]? = some n) && visB sc n && okName n && (mt G N a).e sc s && notSlice s && (mt G N b).e sc t && notSlice t && (mt G N e).e sc v && !isComp v
      | _ => false }
  | .stn i a e => { Mt.no with s := fun sc x => match x with
      | .Assign [.Subscript (.Name n _) s _] v _ => decide (N[i]? = some n) && visB sc n && okName n && (mt G N a).e sc s && notSlice s && (mt G N e).e sc v && !isComp v
      | _ => false }
  | .foN i1 i2 j b => { Mt.no with s := fun sc x => match x with
      | .For (.Tuple [t1, t2] p1 p2) (.Call (.Name n _) [.Name y _] [] _) l [] _ => (tgm N (.cons (.nm i1) (.cons (.nm i2) .nil))).one sc (.Tuple [t1, t2] p1 p2) && decide (n = "enumerate") && glB sc n && decide (N[j]? = some y) && visB sc y && okName y && (mt G N b).ss sc l
      | _ => false }
end DL

set_option maxHeartbeats 1000000
/-! DL4: how data lies in the heap, and what a reading keeps. -/
namespace DL
open PySem PySem.Spec PyProof.Rows L2
abbrev St := L2.St
mutual
/-- data as it lies in the heap: its lists and tuples are tracked -/
inductive Dt (H : Hp) : V → D → Prop
  | non : Dt H .non .none
  | bl (b : Bool) : Dt H (.bl b) (.bool b)
  | int (i : Int) : Dt H (.int i) (.int i)
  | str (x : Str) : Dt H (.str x) (.str x)
  | lst {a : Addr} {xs : List V} {ds : List D} : Rd H a (.lst xs) → DtAll H xs ds → Dt H (.ref a) (.list ds)
  | tup {a : Addr} {xs : List V} {ds : List D} : Rd H a (.tup xs) → DtAll H xs ds → Dt H (.ref a) (.tuple ds)
  | dct {a : Addr} : H a = some (.dK []) → Dt H (.ref a) (.dict [])
inductive DtAll (H : Hp) : List V → List D → Prop
  | nil : DtAll H [] []
  | cons {v : V} {vs : List V} {d : D} {ds : List D} : Dt H v d → DtAll H vs ds → DtAll H (v :: vs) (d :: ds)
end
theorem Same.rd {H H' : Hp} {a : Addr} {u : HO} (e : Same H H') (h : Rd H a u) : Rd H' a u := by
  rcases h with h | ⟨o, h⟩
  · exact .inl (e _ _ h)
  · exact .inr ⟨o, e _ _ h⟩
mutual
theorem Dt.dp {K : PySem.W.Frag} {H : Hp} : ∀ {d : D} {v : V}, d.hasDict = false → Dt H v d → Dp K H v d
  | .none, _, _, h => by
    cases h
    exact .non
  | .bool b, _, _, h => by
    cases h
    exact .bl b
  | .int i, _, _, h => by
    cases h
    exact .int i
  | .str x, _, _, h => by
    cases h
    exact .str x
  | .list ds, _, n, h => by
    cases h with
    | lst hs ha => exact .lst (.inl hs) (DtAll.dp (by simpa [PyData.hasDict] using n) ha)
  | .tuple ds, _, n, h => by
    cases h with
    | tup hs ha => exact .tup (.inl hs) (DtAll.dp (by simpa [PyData.hasDict] using n) ha)
  | .dict _, _, n, h => by simp [PyData.hasDict] at n
theorem DtAll.dp {K : PySem.W.Frag} {H : Hp} : ∀ {ds : List D} {vs : List V}, PyData.hasDictAll ds = false → DtAll H vs ds → DpAll K H vs ds
  | [], _, _, h => by
    cases h
    exact .nil
  | d :: ds, _, n, h => by
    simp only [PyData.hasDictAll, Bool.or_eq_false_iff] at n
    cases h with
    | cons h1 h2 => exact .cons (Dt.dp n.1 h1) (DtAll.dp n.2 h2)
end
section
variable {F F' H H' : Hp}
mutual
theorem Dt.mono (e : Same F F') : ∀ {d : D} {v : V}, Dt F v d → Dt F' v d
  | .none, _, h => by
    cases h
    exact .non
  | .bool b, _, h => by
    cases h
    exact .bl b
  | .int i, _, h => by
    cases h
    exact .int i
  | .str x, _, h => by
    cases h
    exact .str x
  | .list ds, _, h => by
    cases h with
    | lst hs ha => exact .lst (Same.rd e hs) (DtAll.mono e ha)
  | .tuple ds, _, h => by
    cases h with
    | tup hs ha => exact .tup (Same.rd e hs) (DtAll.mono e ha)
  | .dict _, _, h => by
    cases h with
    | dct h => exact .dct (e _ _ h)
theorem DtAll.mono (e : Same F F') : ∀ {ds : List D} {vs : List V}, DtAll F vs ds → DtAll F' vs ds
  | [], _, h => by
    cases h
    exact .nil
  | d :: ds, _, h => by
    cases h with
    | cons h1 h2 => exact .cons (Dt.mono e h1) (DtAll.mono e h2)
end
theorem DtAll.length : ∀ {ds : List D} {vs : List V}, DtAll F vs ds → vs.length = ds.length
  | [], _, h => by
    cases h
    rfl
  | d :: ds, _, h => by
    cases h with
    | cons h1 h2 => simp [DtAll.length h2]
theorem DtAll.get : ∀ {ds : List D} {vs : List V} {i : Nat} {d : D}, DtAll F vs ds → ds[i]? = some d → ∃ v, vs[i]? = some v ∧ Dt F v d
  | [], _, _, _, h, e => by simp at e
  | d :: ds, _, 0, _, h, e => by
    cases h with
    | cons h1 h2 =>
      simp at e
      subst e
      exact ⟨_, rfl, h1⟩
  | d :: ds, _, i + 1, _, h, e => by
    cases h with
    | cons h1 h2 => exact DtAll.get (i := i) h2 (by simpa using e)
theorem DtAll.getV : ∀ {ds : List D} {vs : List V} {i : Nat} {v : V}, DtAll F vs ds → vs[i]? = some v → ∃ d, ds[i]? = some d ∧ Dt F v d := fun {ds vs i v} h e => by
  have hi : i < ds.length := by
    rw [← DtAll.length h]
    exact (List.getElem?_eq_some_iff.mp e).1
  obtain ⟨v', e', q⟩ := DtAll.get (i := i) (d := ds[i]) h (by simp [hi])
  rw [e] at e'
  cases e'
  exact ⟨_, by simp [hi], q⟩
theorem DtAll.append : ∀ {ds es : List D} {vs ws : List V}, DtAll F vs ds → DtAll F ws es → DtAll F (vs ++ ws) (ds ++ es)
  | [], _, _, _, h, g => by
    cases h
    exact g
  | d :: ds, _, _, _, h, g => by
    cases h with
    | cons h1 h2 => exact .cons h1 (DtAll.append h2 g)
theorem DtAll.set {d : D} {v : V} (q : Dt F v d) : ∀ {ds : List D} {vs : List V} (i : Nat), DtAll F vs ds → DtAll F (vs.set i v) (ds.set i d)
  | [], _, _, h => by
    cases h
    exact .nil
  | _ :: _, _, 0, h => by
    cases h with
    | cons h1 h2 => exact .cons q h2
  | _ :: _, _, i + 1, h => by
    cases h with
    | cons h1 h2 => exact .cons h1 (DtAll.set q i h2)
theorem DtAll.drop : ∀ {ds : List D} {vs : List V} (n : Nat), DtAll F vs ds → DtAll F (vs.drop n) (ds.drop n)
  | _, _, 0, h => h
  | [], _, _ + 1, h => by
    cases h
    exact .nil
  | _ :: _, _, n + 1, h => by
    cases h with
    | cons h1 h2 => exact DtAll.drop n h2
theorem DtAll.take : ∀ {ds : List D} {vs : List V} (n : Nat), DtAll F vs ds → DtAll F (vs.take n) (ds.take n)
  | _, _, 0, _ => .nil
  | [], _, _ + 1, h => by
    cases h
    exact .nil
  | _ :: _, _, n + 1, h => by
    cases h with
    | cons h1 h2 => exact .cons h1 (DtAll.take n h2)
theorem DtAll.rep {ds : List D} {vs : List V} (h : DtAll F vs ds) : ∀ n : Nat, DtAll F (List.replicate n vs).flatten (List.replicate n ds).flatten
  | 0 => .nil
  | n + 1 => by
    rw [List.replicate_succ, List.replicate_succ, List.flatten_cons, List.flatten_cons]
    exact DtAll.append h (DtAll.rep h n)
/-- data in which no list stands leans on tuples alone -/
def TupSub (F F' : Hp) : Prop := ∀ a xs, Rd F a (.tup xs) → Rd F' a (.tup xs)
mutual
theorem Dt.noL (e : TupSub F F') : ∀ {d : D} {v : V}, noList d = true → Dt F v d → Dt F' v d
  | .none, _, _, h => by
    cases h
    exact .non
  | .bool b, _, _, h => by
    cases h
    exact .bl b
  | .int i, _, _, h => by
    cases h
    exact .int i
  | .str x, _, _, h => by
    cases h
    exact .str x
  | .list ds, _, n, h => by simp [noList] at n
  | .tuple ds, _, n, h => by
    cases h with
    | tup hs ha =>
      exact .tup (e _ _ hs) (DtAll.noL e (by simpa [noList] using n) ha)
  | .dict _, _, n, h => by simp [noList] at n
theorem DtAll.noL (e : TupSub F F') : ∀ {ds : List D} {vs : List V}, noLists ds = true → DtAll F vs ds → DtAll F' vs ds
  | [], _, _, h => by
    cases h
    exact .nil
  | d :: ds, _, n, h => by
    simp only [noLists, Bool.and_eq_true] at n
    cases h with
    | cons h1 h2 => exact .cons (Dt.noL e n.1 h1) (DtAll.noL e n.2 h2)
end
end

/-! ### the state of a def -/
/-- the items of a nest: lists of one's own -/
def PtrAll (ι : List Addr) (vs : List V) (ds : List D) : Prop := vs.length = ds.length ∧ ∀ (j : Nat) (d : D), ds[j]? = some d → ∃ (k : Int) (a : Addr), d = .int k ∧ 0 ≤ k ∧ ι[k.toNat]? = some a ∧ vs[j]? = some (.ref a)
def Its (F : Hp) (ι : List Addr) (vs : List V) (c : Cell) : Prop := (c.st ≠ .nest → DtAll F vs c.ds) ∧ (c.st = .nest → PtrAll ι vs c.ds)
theorem Its.of {F : Hp} {ι : List Addr} {vs : List V} {c : Cell} (h : c.st ≠ .nest) (q : DtAll F vs c.ds) : Its F ι vs c := ⟨fun _ => q, fun z => absurd z h⟩
theorem Its.dt {F : Hp} {ι : List Addr} {vs : List V} {c : Cell} (q : Its F ι vs c) (h : c.st ≠ .nest) : DtAll F vs c.ds := q.1 h
theorem Its.mono {F F' : Hp} {ι : List Addr} {vs : List V} {c : Cell} (e : Same F F') (q : Its F ι vs c) : Its F' ι vs c := ⟨fun z => DtAll.mono e (q.1 z), q.2⟩
theorem PtrAll.ext {ι t : List Addr} {vs : List V} {ds : List D} (q : PtrAll ι vs ds) : PtrAll (ι ++ t) vs ds := ⟨q.1, fun j d e => by
  obtain ⟨k, a, h1, h2, h3, h4⟩ := q.2 j d e
  exact ⟨k, a, h1, h2, by rw [List.getElem?_append_left (List.getElem?_eq_some_iff.mp h3).1]; exact h3, h4⟩⟩
theorem Its.ext {F : Hp} {ι t : List Addr} {vs : List V} {c : Cell} (q : Its F ι vs c) : Its F (ι ++ t) vs c := ⟨q.1, fun z => (q.2 z).ext⟩
theorem shut_froz {s : CS} (h : ¬ s.shut = true) : s ≠ .froz ∧ s ≠ .nest := by
  cases s with
  | froz => exact absurd rfl h
  | nest => exact absurd rfl h
  | live => exact ⟨fun z => (nomatch z), fun z => (nomatch z)⟩
  | arg => exact ⟨fun z => (nomatch z), fun z => (nomatch z)⟩
theorem op_nest (s : CS) : s.op ≠ .nest := by cases s <;> simp [CS.op]
theorem op_froz {s : CS} : s.op = .froz ↔ s = .froz := by cases s <;> simp [CS.op]
def CellOk (H F : Hp) (ι : List Addr) (a : Addr) (c : Cell) : Prop := ∃ vs, H a = some (.lst vs) ∧ Its F ι vs c ∧ (c.st = .froz → F a = some (.lst vs)) ∧ (c.st ≠ .froz → F a = none)
def SlotOk (F : Hp) (ι : List Addr) (v : V) : SV → Prop
  | .dat d => Dt F v d
  | .own k => ∃ a, ι[k]? = some a ∧ v = .ref a
  | .fre _ => False
  | .nst k => ∃ a, ι[k]? = some a ∧ v = .ref a
  | .frn _ => False
/-- lists that were just made, for a nest -/
abbrev Kids (F H : Hp) (ι : List Addr) : List Addr → List (List D) → Prop := Paired fun b ds => ∃ ws, H b = some (.lst ws) ∧ F b = none ∧ b ∉ ι ∧ DtAll F ws ds
structure Sat (ρ : Rho) (μ : List Cell) (σ : St) (H F : Hp) (ι : List Addr) : Prop where
  sub : Same F H
  len : ι.length = μ.length
  nod : ι.Nodup
  cell : ∀ (k : Nat) (a : Addr) (c : Cell), ι[k]? = some a → μ[k]? = some c → CellOk H F ι a c
  slen : ρ.length = σ.length
  slot : ∀ (i : Nat) (sv : SV), ρ[i]? = some (some sv) → ∃ v, σ[i]? = some (some v) ∧ SlotOk F ι v sv
/-- what goes on leaves what was, but the lists of one's own -/
structure Ext (ι : List Addr) (F H F' H' : Hp) : Prop where
  fs : Same F F'
  hs : ∀ b o, H b = some o → b ∉ ι → H' b = some o
  ht : ∀ b, H' b = none → H b = none
  new : ∀ b o, F' b = some o → F b = some o ∨ H b = none ∨ b ∈ ι
/-- a value as an expression leaves it -/
def VRep (F H : Hp) (ι : List Addr) (v : V) : SV → Prop
  | .dat d => Dt F v d
  | .own k => ∃ a, ι[k]? = some a ∧ v = .ref a
  | .fre ds => ∃ p vs, v = .ref p ∧ H p = some (.lst vs) ∧ F p = none ∧ p ∉ ι ∧ DtAll F vs ds
  | .nst k => ∃ a, ι[k]? = some a ∧ v = .ref a
  | .frn dss => ∃ (p : Addr) (bs : List Addr), v = .ref p ∧ H p = some (.lst (bs.map V.ref)) ∧ F p = none ∧ p ∉ ι ∧ (p :: bs).Nodup ∧ Kids F H ι bs dss
def NewV (H H' : Hp) (v : V) : SV → Prop
  | .fre _ => ∀ p, v = .ref p → H p = none
  | .frn _ => ∀ (p : Addr) (bs : List Addr), v = .ref p → H' p = some (.lst (bs.map V.ref)) → H p = none ∧ ∀ b ∈ bs, H b = none
  | _ => True
section
variable {ρ : Rho} {μ μ' : List Cell} {σ : St} {H H' H'' F F' F'' : Hp} {ι : List Addr} {v : V} {sv : SV}
theorem Ext.refl : Ext ι F H F H := ⟨Same.refl F, fun _ _ h _ => h, fun _ h => h, fun _ _ h => .inl h⟩
theorem Ext.trans (a : Ext ι F H F' H') (b : Ext ι F' H' F'' H'') : Ext ι F H F'' H'' where
  fs := a.fs.trans b.fs
  hs := fun c o h n => b.hs c o (a.hs c o h n) n
  ht := fun c h => a.ht c (b.ht c h)
  new := fun c o h => by
    rcases b.new c o h with h | h | h
    · exact a.new c o h
    · exact .inr (.inl (a.ht c h))
    · exact .inr (.inr h)
theorem Sat.inH (S : Sat ρ μ σ H F ι) {a : Addr} (h : a ∈ ι) : ∃ vs, H a = some (.lst vs) := by
  obtain ⟨k, hk, e⟩ := List.getElem_of_mem h
  have hm : k < μ.length := by
    rw [← S.len]
    exact hk
  obtain ⟨vs, q, _⟩ := S.cell k a μ[k] (by simp [hk, e]) (by simp [hm])
  exact ⟨vs, q⟩
theorem Sat.get (S : Sat ρ μ σ H F ι) {k : Nat} {c : Cell} (h : μ[k]? = some c) : ∃ a, ι[k]? = some a ∧ CellOk H F ι a c := by
  have hm : k < ι.length := by
    rw [S.len]
    exact (List.getElem?_eq_some_iff.mp h).1
  exact ⟨ι[k], by simp [hm], S.cell k _ c (by simp [hm]) h⟩
theorem Sat.notIn (S : Sat ρ μ σ H F ι) {a : Addr} (h : H a = none) : a ∉ ι := fun m => by
  obtain ⟨vs, q⟩ := S.inH m
  rw [h] at q
  cases q
theorem ix_inj {ι : List Addr} (n : ι.Nodup) {i j : Nat} {a : Addr} (h : ι[i]? = some a) (g : ι[j]? = some a) : i = j := by
  obtain ⟨h1, e1⟩ := List.getElem?_eq_some_iff.mp h
  obtain ⟨h2, e2⟩ := List.getElem?_eq_some_iff.mp g
  exact (List.getElem_inj n).mp (e1.trans e2.symm)
/-- a held value stands through what goes on -/
theorem Ext.none_ {ι : List Addr} (e : Ext ι F H F' H') {p : Addr} {o : HO} (n : F p = none) (h : H p = some o) (m : p ∉ ι) : F' p = none := by
  cases q : F' p with
  | none => rfl
  | some u =>
    rcases e.new p u q with z | z | z
    · rw [n] at z
      cases z
    · rw [h] at z
      cases z
    · exact absurd z m
theorem Kids.mono_ (e : Ext ι F H F' H') : ∀ {bs : List Addr} {dss : List (List D)}, Kids F H ι bs dss → Kids F' H' ι bs dss
  | _, _, .nil => .nil
  | _, _, .cons ⟨ws, h1, h2, h3, h4⟩ t => .cons ⟨ws, e.hs _ _ h1 h3, e.none_ h2 h1 h3, h3, DtAll.mono e.fs h4⟩ (Kids.mono_ e t)
theorem VRep.mono (S : Sat ρ μ σ H F ι) (e : Ext ι F H F' H') (r : VRep F H ι v sv) : VRep F' H' ι v sv := by
  cases sv with
  | dat d => exact Dt.mono e.fs r
  | own k => exact r
  | nst k => exact r
  | frn dss =>
    obtain ⟨p, bs, rfl, h, n, m, nd, ks⟩ := r
    exact ⟨p, bs, rfl, e.hs p _ h m, e.none_ n h m, m, nd, Kids.mono_ e ks⟩
  | fre ds =>
    obtain ⟨p, vs, rfl, h, n, m, a⟩ := r
    refine ⟨p, vs, rfl, e.hs p _ h m, ?_, m, DtAll.mono e.fs a⟩
    cases q : F' p with
    | none => rfl
    | some o =>
      rcases e.new p o q with z | z | z
      · rw [n] at z
        cases z
      · rw [h] at z
        cases z
      · exact absurd z m
/-- a value that is borrowed: data of F, or a list whose items are -/
def BV (F H : Hp) (v : V) (d : D) : Prop := Dt F v d ∨ ∃ (p : Addr) (vs : List V) (ds : List D), v = .ref p ∧ d = .list ds ∧ H p = some (.lst vs) ∧ DtAll F vs ds
theorem VRep.look (S : Sat ρ μ σ H F ι) (r : VRep F H ι v sv) {d : D} (h : sv.look μ = some d) : BV F H v d := by
  cases sv with
  | dat d' =>
    cases h
    exact .inl r
  | fre ds =>
    cases h
    obtain ⟨p, vs, rfl, h, n, m, a⟩ := r
    exact .inr ⟨p, vs, ds, rfl, rfl, h, a⟩
  | own k =>
    obtain ⟨a, h1, rfl⟩ := r
    simp only [SV.look] at h
    cases e : μ[k]? with
    | none =>
      rw [e] at h
      cases h
    | some c =>
      rw [e] at h
      simp only at h
      split at h
      · cases h
      · rename_i nn
        cases h
        obtain ⟨vs, q, al, _⟩ := S.cell k a c h1 e
        exact .inr ⟨a, vs, c.ds, rfl, rfl, q, al.dt nn⟩
  | nst k => cases h
  | frn _ => cases h
theorem BV.dt (s : Same F H) {d : D} (b : BV F H v d) : Dt H v d := by
  rcases b with h | ⟨p, vs, ds, rfl, rfl, h, a⟩
  · exact Dt.mono s h
  · exact .lst (Rd.of h) (DtAll.mono s a)
theorem upd_none {H : Hp} {a b : Addr} {o : HO} (h : upd H a o b = none) : b ≠ a ∧ H b = none := by
  by_cases e : b = a
  · rw [e, upd_same] at h
    cases h
  · rw [upd_ne e] at h
    exact ⟨e, h⟩
theorem Same.upd {F : Hp} {p : Addr} {o : HO} (n : F p = none) : Same F (upd F p o) := fun b u h => by
  rw [upd_ne (ne_of_none h n)]
  exact h
theorem Same.upd2 {F H : Hp} {p : Addr} {o : HO} (s : Same F H) (h : H p = some o) : Same (L2.upd F p o) H := fun b u e => by
  by_cases z : b = p
  · rw [z] at e ⊢
    rw [upd_same] at e
    cases e
    exact h
  · rw [upd_ne z] at e
    exact s b u e
/-- a fresh list becomes data -/
theorem Sat.freezeNew (S : Sat ρ μ σ H F ι) {p : Addr} {vs : List V} (h : H p = some (.lst vs)) (n : F p = none) (m : p ∉ ι) : Sat ρ μ σ H (upd F p (.lst vs)) ι where
  sub := Same.upd2 S.sub h
  len := S.len
  nod := S.nod
  cell := fun k a c h1 h2 => by
    obtain ⟨ws, q, al, f1, f2⟩ := S.cell k a c h1 h2
    have ne : a ≠ p := fun z => m (z ▸ List.mem_of_getElem? h1)
    exact ⟨ws, q, Its.mono (Same.upd n) al, fun z => by rw [upd_ne ne]; exact f1 z, fun z => by rw [upd_ne ne]; exact f2 z⟩
  slen := S.slen
  slot := fun i sv e => by
    obtain ⟨w, e1, q⟩ := S.slot i sv e
    refine ⟨w, e1, ?_⟩
    cases sv with
    | dat d => exact Dt.mono (Same.upd n) q
    | own k => exact q
    | fre _ => exact q
    | nst k => exact q
    | frn _ => exact q
/-- a list of one's own is given up -/
theorem Sat.froze (S : Sat ρ μ σ H F ι) {k : Nat} {ds : List D} (h : froze k μ = some (ds, μ')) : ∃ F' a, ι[k]? = some a ∧ Ext ι F H F' H ∧ Sat ρ μ' σ H F' ι ∧ Dt F' (.ref a) (.list ds) := by
  unfold DL.froze at h
  cases e : μ[k]? with
  | none =>
    rw [e] at h
    cases h
  | some c =>
    rw [e] at h
    obtain ⟨a, hk, vs, q, al, f1, f2⟩ := S.get e
    obtain ⟨st, cs⟩ := c
    cases st with
    | arg => cases h
    | nest => cases h
    | froz =>
      cases h
      exact ⟨F, a, hk, Ext.refl, S, .lst (Rd.of (f1 rfl)) (al.dt (fun z => nomatch z))⟩
    | live =>
      cases h
      replace al := al.dt (fun z => nomatch z)
      have n : F a = none := f2 (by simp)
      have sf : Same F (upd F a (.lst vs)) := Same.upd n
      refine ⟨upd F a (.lst vs), a, hk, ⟨sf, fun _ _ h _ => h, fun _ h => h, fun b o h => ?_⟩, ⟨Same.upd2 S.sub q, by simp [S.len], S.nod, fun j b c h1 h2 => ?_, S.slen, fun i sv e => ?_⟩, .lst (Rd.of upd_same) (DtAll.mono sf al)⟩
      · by_cases z : b = a
        · exact .inr (.inr (z ▸ List.mem_of_getElem? hk))
        · rw [upd_ne z] at h
          exact .inl h
      · by_cases z : j = k
        · subst z
          rw [hk] at h1
          cases h1
          have hl : j < μ.length := (List.getElem?_eq_some_iff.mp e).1
          rw [List.getElem?_set_self hl] at h2
          cases h2
          exact ⟨vs, q, Its.of (fun z => nomatch z) (DtAll.mono sf al), fun _ => upd_same, fun z => absurd rfl z⟩
        · rw [List.getElem?_set_ne (Ne.symm z)] at h2
          have ne : b ≠ a := fun y => z (ix_inj S.nod h1 (y ▸ hk))
          obtain ⟨ws, q', al', g1, g2⟩ := S.cell j b c h1 h2
          exact ⟨ws, q', Its.mono sf al', fun z => by rw [upd_ne ne]; exact g1 z, fun z => by rw [upd_ne ne]; exact g2 z⟩
      · obtain ⟨w, e1, q'⟩ := S.slot i sv e
        refine ⟨w, e1, ?_⟩
        cases sv with
        | dat d => exact Dt.mono sf q'
        | own k => exact q'
        | fre _ => exact q'
        | nst k => exact q'
        | frn _ => exact q'
/-- a value is kept as data -/
theorem Sat.keep {F0 H0 : Hp} (S : Sat ρ μ σ H F ι) (e0 : Ext ι F0 H0 F H) (r : VRep F H ι v sv) (nw : NewV H0 H v sv) {d : D} (h : sv.keep μ = .ok d μ') : ∃ F', Ext ι F0 H0 F' H ∧ Same F F' ∧ Sat ρ μ' σ H F' ι ∧ Dt F' v d := by
  cases sv with
  | dat d' =>
    simp only [SV.keep] at h
    cases h
    exact ⟨F, e0, Same.refl F, S, r⟩
  | fre ds =>
    simp only [SV.keep] at h
    cases h
    obtain ⟨p, vs, rfl, h, n, m, a⟩ := r
    have sf : Same F (upd F p (.lst vs)) := Same.upd n
    refine ⟨upd F p (.lst vs), ⟨e0.fs.trans sf, e0.hs, e0.ht, fun b o z => ?_⟩, sf, S.freezeNew h n m, .lst (Rd.of upd_same) (DtAll.mono sf a)⟩
    by_cases y : b = p
    · subst y
      exact .inr (.inl (nw _ rfl))
    · rw [upd_ne y] at z
      exact e0.new b o z
  | own k =>
    simp only [SV.keep] at h
    obtain ⟨a, hk, rfl⟩ := r
    cases e : DL.froze k μ with
    | none =>
      rw [e] at h
      cases h
    | some z =>
      obtain ⟨ds, μ1⟩ := z
      rw [e] at h
      cases h
      obtain ⟨F', b, hb, x, S', q⟩ := S.froze e
      rw [hk] at hb
      cases hb
      exact ⟨F', e0.trans x, x.fs, S', q⟩
  | nst k => cases h
  | frn _ => cases h
theorem keep_exc {x : Exn} (h : sv.keep μ = .exc x μ') : False := by
  cases sv with
  | dat d => cases h
  | fre ds => cases h
  | own k =>
    simp only [SV.keep] at h
    split at h <;> cases h
  | nst k => cases h
  | frn _ => cases h
end
end DL

set_option maxHeartbeats 1000000
/-! DL5: operators and built-ins on data. -/
namespace DL
open PySem PySem.Spec PyProof.Rows L2
/-- an operation on values: it adds to the heap alone -/
structure OpE (F H F' H' : Hp) : Prop where
  fs : Same F F'
  hs : Same H H'
  sub : Same F' H'
  new : ∀ b o, F' b = some o → F b = some o ∨ H b = none
def RV (F' H' H : Hp) (v : V) : SV → Prop
  | .dat d => Dt F' v d
  | .fre ds => ∃ p vs, v = .ref p ∧ H p = none ∧ H' p = some (.lst vs) ∧ F' p = none ∧ DtAll F' vs ds
  | .own _ => False
  | .nst _ => False
  | .frn _ => False
def Aftr (F H : Hp) (res : SV) (Q : VK) : Prop := ∀ v F' H', OpE F H F' H' → RV F' H' H v res → Q v H'
def BVs (F H : Hp) : List V → List D → Prop := Paired (BV F H)
def rB (f : D → D → Option SV) : R2 := fun x y H Q => ∃ F dx dy res, Same F H ∧ BV F H x dx ∧ BV F H y dy ∧ f dx dy = some res ∧ Aftr F H res Q
def rN (f : List D → Option SV) : List V → Hp → VK → Prop := fun xs H Q => ∃ F ds res, Same F H ∧ BVs F H xs ds ∧ f ds = some res ∧ Aftr F H res Q
section
variable {F H : Hp} {x : V} {Q : VK}
theorem OpE.refl (s : Same F H) : OpE F H F H := ⟨Same.refl F, Same.refl H, s, fun _ _ h => .inl h⟩
theorem Aftr.dat {d : D} (a : Aftr F H (.dat d) Q) (s : Same F H) (h : Dt F x d) : Q x H := a x F H (OpE.refl s) h
theorem Aftr.newL {ds : List D} {vs : List V} (a : Aftr F H (.fre ds) Q) (s : Same F H) (h : DtAll F vs ds) (p : Addr) (n : H p = none) : Q (.ref p) (upd H p (.lst vs)) := by
  have nf : F p = none := Same.free s n
  exact a (.ref p) F (upd H p (.lst vs)) ⟨Same.refl F, Same.upd n, s.trans (Same.upd n), fun _ _ h => .inl h⟩ ⟨p, vs, rfl, n, upd_same, nf, h⟩
theorem Aftr.newT {ds : List D} {vs : List V} (a : Aftr F H (.dat (.tuple ds)) Q) (s : Same F H) (h : DtAll F vs ds) (p : Addr) (n : H p = none) : Q (.ref p) (upd H p (.tup vs)) := by
  have nf : F p = none := Same.free s n
  refine a (.ref p) (upd F p (.tup vs)) (upd H p (.tup vs)) ⟨Same.upd nf, Same.upd n, fun b u e => ?_, fun b o e => ?_⟩ (.tup (Rd.of upd_same) (DtAll.mono (Same.upd nf) h))
  · by_cases z : b = p
    · rw [z] at e ⊢
      rw [upd_same] at e ⊢
      exact e
    · rw [upd_ne z] at e ⊢
      exact s b u e
  · by_cases z : b = p
    · exact .inr (z ▸ n)
    · rw [upd_ne z] at e
      exact .inl e
theorem bv_none (h : BV F H x .none) : x = .non := by
  rcases h with h | ⟨_, _, _, _, z, _⟩
  · cases h
    rfl
  · cases z
theorem bv_bool {b : Bool} (h : BV F H x (.bool b)) : x = .bl b := by
  rcases h with h | ⟨_, _, _, _, z, _⟩
  · cases h
    rfl
  · cases z
theorem bv_int {i : Int} (h : BV F H x (.int i)) : x = .int i := by
  rcases h with h | ⟨_, _, _, _, z, _⟩
  · cases h
    rfl
  · cases z
theorem bv_str {i : Str} (h : BV F H x (.str i)) : x = .str i := by
  rcases h with h | ⟨_, _, _, _, z, _⟩
  · cases h
    rfl
  · cases z
theorem bv_list (s : Same F H) {ds : List D} (h : BV F H x (.list ds)) : ∃ a vs, x = .ref a ∧ Rd H a (.lst vs) ∧ DtAll F vs ds := by
  rcases h with h | ⟨a, vs, es, rfl, z, h, al⟩
  · cases h with
    | lst h al => exact ⟨_, _, rfl, Same.rd s h, al⟩
  · cases z
    exact ⟨a, vs, rfl, Rd.of h, al⟩
theorem bv_tup (s : Same F H) {ds : List D} (h : BV F H x (.tuple ds)) : ∃ a vs, x = .ref a ∧ Rd H a (.tup vs) ∧ DtAll F vs ds ∧ Dt F x (.tuple ds) := by
  rcases h with h | ⟨a, vs, es, rfl, z, h, al⟩
  · cases id h with
    | tup h' al => exact ⟨_, _, rfl, Same.rd s h', al, h⟩
  · cases z
theorem bv_dict (s : Same F H) {kvs : List (D × D)} (h : BV F H x (.dict kvs)) : ∃ a, x = .ref a ∧ H a = some (.dK []) := by
  rcases h with h | ⟨_, _, _, _, z, _⟩
  · cases h with
    | dct h => exact ⟨_, rfl, s _ _ h⟩
  · cases z
end
section
variable {X : Cx} {pins : List (Addr × Obj)} {σ : St} {H : Hp} {s : Shared}
theorem lstR (I : Inv X pins σ H s) {a : Addr} {xs : List V} (h : Rd H a (.lst xs)) : xs.length ≤ sizeLine ∧ ∃ (its : List Value) (n : Nat), Vals xs its ∧ xs.length = its.length ∧ s.heap.get? a = some { cls := .type "list", data := .seq its.toArray n } := by
  obtain ⟨z, its, n, r, e⟩ := h.ok I.hok
  exact ⟨z, its, n, r, r.length, e⟩
/-- two lists, read, put together -/
theorem op_catR : OpR X (binaryOp .Add) (fun x y H Q => ∃ l b xs zs, x = .ref l ∧ y = .ref b ∧ Rd H l (.lst xs) ∧ Rd H b (.lst zs) ∧ xs.length + zs.length ≤ sizeLine ∧ ∀ p, H p = none → Q (.ref p) (upd H p (.lst (xs ++ zs)))) := by
  intro pins s σ H x y v u Q I rx ry h
  obtain ⟨l, b, xs, zs, rfl, rfl, h1, h2, hz, q⟩ := h
  cases rx
  cases ry
  obtain ⟨_, is, n, r, hl, e⟩ := lstR I h1
  obtain ⟨_, js, m, r', hl', e'⟩ := lstR I h2
  have ea : is.toArray ++ js.toArray = (is ++ js).toArray := by simp
  refine PySem.P.add_list e e' (ea ▸ ?_) (by simp only [List.size_toArray]; omega)
  exact ⟨.ref _, _, I.lnew (t' := s.toks) (r.append r') (by simpa using hz), rfl, q _ I.fresh⟩
theorem op_repR : OpR X (binaryOp .Mult) (fun x y H Q => ∃ l k xs, x = .ref l ∧ y = .int k ∧ Rd H l (.lst xs) ∧ -(2 ^ 63) ≤ k ∧ k < 2 ^ 63 ∧ xs.length * k.toNat ≤ sizeLine ∧
    ∀ p, H p = none → Q (.ref p) (upd H p (.lst (List.replicate k.toNat xs).flatten))) := by
  intro pins s σ H x y v u Q I rx ry h
  obtain ⟨l, k, xs, rfl, rfl, h, h1, h2, hz, q⟩ := h
  rcases h with h | ⟨o, h⟩
  · exact op_rep pins s σ H _ _ v u Q I rx ry ⟨l, k, xs, rfl, rfl, h, h1, h2, hz, q⟩
  · cases rx
    obtain ⟨t, rfl⟩ := ry
    obtain ⟨_, is, n, r, hl, e⟩ := lstR I (.inr ⟨o, h⟩)
    have c1 : is.toArray.size * k.toNat ≤ sizeLine := by
      rw [List.size_toArray, ← hl]
      exact hz
    have c2 : (sizeLine : Nat) ≤ (2 ^ 63 - 1) / 8 := by decide
    have c3 : ∀ m : Nat, List.foldl (fun x1 x2 => x1 ++ x2) #[] (List.replicate m is.toArray) = (List.replicate m is).flatten.toArray := fun m => by
      simpa using foldl_rep is m []
    have c4 : List.foldl (fun x1 x2 => x1 ++ x2) #[] (List.replicate (if is.toArray.isEmpty = true then 0 else k.toNat) is.toArray) = (List.replicate k.toNat is).flatten.toArray := by
      rw [c3]
      cases is with
      | nil => simp
      | cons a r' => rw [if_neg (by simp)]
    refine wpAny_binaryOp_repeat_ref (T := "list") (U := "int") (by decide) ⟨_, e, rfl⟩ (fun s' => typeIs_int s' k t) noFill_list_mul F.fills_int_mul F.slot_int_rmul repeat_list F.slot_int_index.lookup
      (call_meets F.slot_int_rmul (typeIs_int s k t) F.entry_int_rmul (F.args_int_rmul_2 _ _) (int___rmul___int_list k t l is.toArray n)
        ⟨e, rfl, ⟨_, e, rfl⟩, call_meets F.slot_list_mul ⟨_, e, rfl⟩ F.entry_list_mul (F.args_list_mul_2 _ _) (AutoListH.list___mul___list_int_3 l is.toArray n k t (by rw [fitsIndex_both h1 h2]; exact Bool.false_ne_true) (by omega) (by rw [notLongL c1]; exact Bool.false_ne_true)) ⟨e, ?_⟩⟩)
    rw [c4]
    exact ⟨.ref _, _, I.lnew (t' := s.toks) (r.rep k.toNat) (by rw [PyProof.Rows.lm_len_rep_flat, Nat.mul_comm]; exact hz), rfl, q _ I.fresh⟩
end
section
variable {X : Cx}
theorem okMul_ok {i j : Int} (h : okMul i j = true) : CMulW i j := by
  have := of_decide_eq_true h
  exact this
theorem dec_and {p q : Prop} [Decidable p] [Decidable q] (h : (decide p && decide q) = true) : p ∧ q := by
  simpa using h
/-- a op b -/
theorem op_bin (o : Operator) : OpR X (binaryOp o) (rB (bin2 o)) := by
  intro pins s σ H x y v u Q I rx ry h
  obtain ⟨F, dx, dy, res, sm, hx, hy, e, a⟩ := h
  unfold bin2 at e
  split at e
  · -- int + int
    cases e
    exact op_add pins s σ H x y v u Q I rx ry ⟨_, _, bv_int hx, bv_int hy, a.dat sm (.int _)⟩
  · split at e
    · cases e
      obtain ⟨l, vs, rfl, h1, a1⟩ := bv_list sm hx
      obtain ⟨b, ws, rfl, h2, a2⟩ := bv_list sm hy
      have e1 := DtAll.length a1
      have e2 := DtAll.length a2
      exact op_catR pins s σ H _ _ v u Q I rx ry ⟨l, b, vs, ws, rfl, rfl, h1, h2, by omega, fun p n => a.newL sm (DtAll.append a1 a2) p n⟩
    · cases e
  · split at e
    · cases e
      obtain ⟨l, vs, rfl, h1, a1, d1⟩ := bv_tup sm hx
      obtain ⟨b, ws, rfl, h2, a2, d2⟩ := bv_tup sm hy
      have e1 := DtAll.length a1
      have e2 := DtAll.length a2
      refine op_catA pins s σ H _ _ v u Q I rx ry ⟨l, b, vs, ws, rfl, rfl, .inl h1, .inl h2, by omega, fun z => ?_, fun _ z => ?_, fun _ _ p n => a.newT sm (DtAll.append a1 a2) p n⟩
      · subst z
        cases a1
        exact a.dat sm d2
      · subst z
        cases a2
        rw [List.append_nil] at a
        exact a.dat sm d1
    · cases e
  · split at e
    · cases e
      rename_i hz
      exact op_add_str pins s σ H x y v u Q I rx ry ⟨_, _, bv_str hx, bv_str hy, hz, a.dat sm (.str _)⟩
    · cases e
  · cases e
    exact op_sub pins s σ H x y v u Q I rx ry ⟨_, _, bv_int hx, bv_int hy, a.dat sm (.int _)⟩
  · split at e
    · cases e
      rename_i hz
      exact op_mulW pins s σ H x y v u Q I rx ry ⟨_, _, bv_int hx, bv_int hy, okMul_ok hz, a.dat sm (.int _)⟩
    · cases e
  · split at e
    · cases e
      rename_i hz
      simp only [Bool.and_eq_true, decide_eq_true_eq] at hz
      obtain ⟨l, vs, rfl, h1, a1⟩ := bv_list sm hx
      have e1 := DtAll.length a1
      exact op_repR pins s σ H _ _ v u Q I rx ry ⟨l, _, vs, rfl, bv_int hy, h1, hz.1.1, hz.1.2, by rw [e1]; exact hz.2, fun p n => a.newL sm (DtAll.rep a1 _) p n⟩
    · cases e
  · split at e
    · cases e
      rename_i hz
      simp only [Bool.and_eq_true, decide_eq_true_eq] at hz
      obtain ⟨l, vs, rfl, h1, a1, d1⟩ := bv_tup sm hx
      have e1 := DtAll.length a1
      refine op_repT pins s σ H _ _ v u Q I rx ry ⟨l, _, vs, rfl, bv_int hy, .inl h1, fun z => hz.1.1.1 ?_, hz.1.1.2, hz.1.2, by rw [e1]; exact hz.2, fun p n => a.newT sm (DtAll.rep a1 _) p n⟩
      subst z
      cases a1
      rfl
    · cases e
  · split at e
    · cases e
      rename_i hz
      exact op_fdivW pins s σ H x y v u Q I rx ry ⟨_, _, bv_int hx, bv_int hy, dec_and hz, a.dat sm (.int _)⟩
    · cases e
  · split at e
    · cases e
      rename_i hz
      exact op_mod pins s σ H x y v u Q I rx ry ⟨_, _, bv_int hx, bv_int hy, of_decide_eq_true hz, a.dat sm (.int _)⟩
    · cases e
  · split at e
    · cases e
      rename_i hz
      unfold okPow at hz
      simp only [Bool.and_eq_true, decide_eq_true_eq] at hz
      exact op_pow pins s σ H x y v u Q I rx ry ⟨_, _, bv_int hx, bv_int hy, ⟨hz.1.1, hz.1.2, hz.2⟩, a.dat sm (.int _)⟩
    · cases e
  · cases e

/-! ### comparisons -/
theorem flat_V {F H : Hp} {x : V} {d : D} (h : BV F H x d) (f : flatD d = true) : flatV x = true := by
  cases d with
  | none => rw [bv_none h]; rfl
  | bool b => rw [bv_bool h]; rfl
  | int i => rw [bv_int h]; rfl
  | str i => rw [bv_str h]; rfl
  | list _ => cases f
  | tuple _ => cases f
  | dict _ => cases f
theorem eqV_D {F H : Hp} {x y : V} {d e : D} (hx : BV F H x d) (hy : BV F H y e) (fd : flatD d = true) (fe : flatD e = true) : eqV x y = PyData.eqv d e := by
  cases d with
  | list _ => cases fd
  | tuple _ => cases fd
  | dict _ => cases fd
  | none =>
    rw [bv_none hx]
    cases e with
    | list _ => cases fe
    | tuple _ => cases fe
    | dict _ => cases fe
    | none => rw [bv_none hy]; simp [eqV, PyData.eqv]
    | bool b => rw [bv_bool hy]; simp [eqV, PyData.eqv]
    | int i => rw [bv_int hy]; simp [eqV, PyData.eqv]
    | str i => rw [bv_str hy]; simp [eqV, PyData.eqv]
  | bool b =>
    rw [bv_bool hx]
    cases e with
    | list _ => cases fe
    | tuple _ => cases fe
    | dict _ => cases fe
    | none => rw [bv_none hy]; simp [eqV, PyData.eqv]
    | bool b => rw [bv_bool hy]; simp [eqV, PyData.eqv]
    | int i => rw [bv_int hy]; simp [eqV, PyData.eqv]
    | str i => rw [bv_str hy]; simp [eqV, PyData.eqv]
  | int i =>
    rw [bv_int hx]
    cases e with
    | list _ => cases fe
    | tuple _ => cases fe
    | dict _ => cases fe
    | none => rw [bv_none hy]; simp [eqV, PyData.eqv]
    | bool b => rw [bv_bool hy]; simp [eqV, PyData.eqv]
    | int i => rw [bv_int hy]; simp [eqV, PyData.eqv]
    | str i => rw [bv_str hy]; simp [eqV, PyData.eqv]
  | str i =>
    rw [bv_str hx]
    cases e with
    | list _ => cases fe
    | tuple _ => cases fe
    | dict _ => cases fe
    | none => rw [bv_none hy]; simp [eqV, PyData.eqv]
    | bool b => rw [bv_bool hy]; simp [eqV, PyData.eqv]
    | int i => rw [bv_int hy]; simp [eqV, PyData.eqv]
    | str i => rw [bv_str hy]; simp [eqV, PyData.eqv]

theorem flat_all {F H : Hp} (sm : Same F H) : ∀ {ds : List D} {vs : List V}, DtAll F vs ds → ds.all flatD = true → vs.all flatV = true
  | [], _, h, _ => by
    cases h
    rfl
  | d :: ds, _, h, f => by
    simp only [List.all_cons, Bool.and_eq_true] at f
    cases h with
    | cons h1 h2 =>
      rw [List.all_cons, flat_V (H := H) (.inl h1) f.1, flat_all sm h2 f.2]
      rfl
theorem in_D {F H : Hp} {x : V} {d : D} (hx : BV F H x d) (fd : flatD d = true) : ∀ {ds : List D} {vs : List V}, DtAll F vs ds → ds.all flatD = true → inV x vs = memD d ds
  | [], _, h, _ => by
    cases h
    rfl
  | e :: es, _, h, f => by
    simp only [List.all_cons, Bool.and_eq_true] at f
    cases h with
    | cons h1 h2 =>
      have ih := in_D hx fd h2 f.2
      unfold inV memD at ih ⊢
      rw [List.any_cons, List.any_cons, ih, eqV_D (H := H) (.inl h1) hx f.1 fd]
def rC (f : D → D → Option Bool) : R2 := fun x y H Q => ∃ F dx dy b, Same F H ∧ BV F H x dx ∧ BV F H y dy ∧ f dx dy = some b ∧ Q (.bl b) H
theorem isN_V {F H : Hp} {x : V} {d : D} (h : BV F H x d) (s : Same F H) : decide (x = V.non) = isN d := by
  cases d with
  | none => rw [bv_none h]; rfl
  | bool b => rw [bv_bool h]; rfl
  | int i => rw [bv_int h]; rfl
  | str i => rw [bv_str h]; rfl
  | list _ => obtain ⟨a, _, rfl, _⟩ := bv_list s h; rfl
  | tuple _ => obtain ⟨a, _, rfl, _⟩ := bv_tup s h; rfl
  | dict _ =>
    obtain ⟨a, rfl, _⟩ := bv_dict s h
    rfl
theorem nod_shaped {d : D} (h : SeqAt.shaped d = true) : d.hasDict = false := PyData.hasDict_of_canLay d (SeqAt.canLay_of_shaped h)
theorem op_cmp (o : CmpOp) (hu : X.A.units + 64 < cLine) : OpR X (compareOp o) (rC (cmp2 o)) := by
  intro pins s σ H x y v u Q I rx ry h
  obtain ⟨F, dx, dy, b, sm, hx, hy, e, a⟩ := h
  unfold cmp2 at e
  split at e
  · cases e
    exact op_lt pins s σ H x y v u Q I rx ry ⟨_, _, bv_int hx, bv_int hy, a⟩
  · cases e
    exact op_le pins s σ H x y v u Q I rx ry ⟨_, _, bv_int hx, bv_int hy, a⟩
  · cases e
    exact op_gt pins s σ H x y v u Q I rx ry ⟨_, _, bv_int hx, bv_int hy, a⟩
  · cases e
    exact op_ge pins s σ H x y v u Q I rx ry ⟨_, _, bv_int hx, bv_int hy, a⟩
  · cases e
    rw [bv_str hx] at rx
    rw [bv_str hy] at ry
    exact op_eq pins s σ H _ _ v u Q I rx ry ⟨rfl, by simpa using a⟩
  · cases e
    rw [bv_str hx] at rx
    rw [bv_str hy] at ry
    exact op_ne pins s σ H _ _ v u Q I rx ry ⟨rfl, by simpa using a⟩
  · split at e
    · cases e
      rename_i hz
      rw [Bool.and_eq_true] at hz
      exact op_eqD hu pins s σ H x y v u Q I rx ry ⟨_, _, Dt.dp (nod_shaped hz.1) (hx.dt sm), Dt.dp (nod_shaped hz.2) (hy.dt sm), hz.1, hz.2, a⟩
    · cases e
  · split at e
    · cases e
      rename_i hz
      rw [Bool.and_eq_true] at hz
      exact op_neD hu pins s σ H x y v u Q I rx ry ⟨_, _, Dt.dp (nod_shaped hz.1) (hx.dt sm), Dt.dp (nod_shaped hz.2) (hy.dt sm), hz.1, hz.2, a⟩
    · cases e
  · cases e
    exact op_isN pins s σ H x y v u Q I rx ry ⟨bv_none hy, by rw [isN_V hx sm]; exact a⟩
  · cases e
    exact op_notN pins s σ H x y v u Q I rx ry ⟨bv_none hy, by rw [isN_V hx sm]; exact a⟩
  · split at e
    · cases e
      rename_i hz
      rw [Bool.and_eq_true] at hz
      obtain ⟨l, vs, rfl, h1, a1⟩ := bv_list sm hy
      exact op_in_seq pins s σ H x _ v u Q I rx ry ⟨l, vs, rfl, .inl (.inl h1), flat_V hx hz.1, flat_all sm a1 hz.2, by rw [in_D hx hz.1 a1 hz.2]; exact a⟩
    · cases e
  · split at e
    · cases e
      rename_i hz
      rw [Bool.and_eq_true] at hz
      obtain ⟨l, vs, rfl, h1, a1, _⟩ := bv_tup sm hy
      exact op_in_seq pins s σ H x _ v u Q I rx ry ⟨l, vs, rfl, .inr (.inl h1), flat_V hx hz.1, flat_all sm a1 hz.2, by rw [in_D hx hz.1 a1 hz.2]; exact a⟩
    · cases e
  · split at e
    · cases e
      rename_i hz
      rw [Bool.and_eq_true] at hz
      obtain ⟨l, vs, rfl, h1, a1⟩ := bv_list sm hy
      exact op_notIn_seq pins s σ H x _ v u Q I rx ry ⟨l, vs, rfl, .inl (.inl h1), flat_V hx hz.1, flat_all sm a1 hz.2, by rw [in_D hx hz.1 a1 hz.2]; exact a⟩
    · cases e
  · split at e
    · cases e
      rename_i hz
      rw [Bool.and_eq_true] at hz
      obtain ⟨l, vs, rfl, h1, a1, _⟩ := bv_tup sm hy
      exact op_notIn_seq pins s σ H x _ v u Q I rx ry ⟨l, vs, rfl, .inr (.inl h1), flat_V hx hz.1, flat_all sm a1 hz.2, by rw [in_D hx hz.1 a1 hz.2]; exact a⟩
    · cases e
  · cases e

/-! ### places, cuts -/
theorem at_D {F : Hp} {ds : List D} {vs : List V} (h : DtAll F vs ds) {i : Int} {d : D} (e : atI ds i = some d) : ∃ v, atI vs i = some v ∧ Dt F v d := by
  unfold atI at e ⊢
  rw [DtAll.length h]
  cases z : ixN ds.length i with
  | none =>
    rw [z] at e
    cases e
  | some j =>
    rw [z] at e
    exact DtAll.get h e
def rX (f : D → D → Option D) : R2 := fun x y H Q => ∃ F dx dy d, Same F H ∧ BV F H x dx ∧ BV F H y dy ∧ f dx dy = some d ∧ ∀ v, Dt F v d → Q v H
theorem ix_D : IxR X (rX idxD) := by
  intro value slice pins s σ H x y v u Q I rx ry h hs
  obtain ⟨F, dx, dy, d, sm, hx, hy, e, a⟩ := h
  unfold idxD at e
  split at e
  · obtain ⟨l, vs, rfl, h1, a1⟩ := bv_list sm hx
    obtain ⟨w, e1, q⟩ := at_D a1 e
    exact ix_list value slice pins s σ H _ _ v u Q I rx ry ⟨l, vs, _, w, rfl, bv_int hy, .inl h1, e1, a w q⟩ hs
  · obtain ⟨l, vs, rfl, h1, a1, _⟩ := bv_tup sm hx
    obtain ⟨w, e1, q⟩ := at_D a1 e
    exact ix_tup value slice pins s σ H _ _ v u Q I rx ry ⟨l, vs, _, w, rfl, bv_int hy, .inl h1, e1, a w q⟩ hs
  · cases e
def rS (f : D → Option Int → Option Int → Option SV) : V → Option Int → Option Int → Hp → VK → Prop := fun x lo hi H Q => ∃ F dx res, Same F H ∧ BV F H x dx ∧ f dx lo hi = some res ∧ Aftr F H res Q
theorem sl_D : SlR X (rS cutD) := by
  intro pins s σ H x v vl vu lo hi sl Q I rx hs pl pu h
  obtain ⟨F, dx, res, sm, hx, e, a⟩ := h
  unfold cutD at e
  split at e
  · cases e
    obtain ⟨l, vs, rfl, h1, a1⟩ := bv_list sm hx
    refine sl_list pins s σ H _ v vl vu lo hi sl Q I rx hs pl pu ⟨l, vs, rfl, .inl h1, fun p n => ?_⟩
    unfold cutV
    rw [DtAll.length a1]
    exact a.newL sm (DtAll.take _ (DtAll.drop _ a1)) p n
  · cases e
    obtain ⟨l, vs, rfl, h1, a1, d1⟩ := bv_tup sm hx
    have el := DtAll.length a1
    refine sl_tupA pins s σ H _ v vl vu lo hi sl Q I rx hs pl pu ⟨l, vs, rfl, .inl h1, fun z => ?_, fun _ p n => ?_⟩
    · rw [el] at z
      rw [z.1, z.2, List.drop_zero, Nat.sub_zero, List.take_length] at a
      exact a.dat sm d1
    · unfold cutV
      rw [el]
      exact a.newT sm (DtAll.take _ (DtAll.drop _ a1)) p n
  · cases e

/-! ### built-ins -/
theorem bvs1 {F H : Hp} {xs : List V} {d : D} (h : BVs F H xs [d]) : ∃ x, xs = [x] ∧ BV F H x d := by
  cases h with
  | cons h t =>
    cases t
    exact ⟨_, rfl, h⟩
theorem bvs2 {F H : Hp} {xs : List V} {d e : D} (h : BVs F H xs [d, e]) : ∃ x y, xs = [x, y] ∧ BV F H x d ∧ BV F H y e := by
  cases h with
  | cons h t =>
    obtain ⟨y, rfl, q⟩ := bvs1 t
    exact ⟨_, _, rfl, h, q⟩
theorem ints_V {F : Hp} : ∀ {ds : List D} {ns : List Int} {vs : List V}, toInts ds = some ns → DtAll F vs ds → vs = ns.map V.int
  | [], _, _, e, h => by
    cases e
    cases h
    rfl
  | .int i :: r, ns, _, e, h => by
    simp only [toInts, Option.map_eq_some_iff] at e
    obtain ⟨ms, e, rfl⟩ := e
    cases h with
    | cons h1 h2 =>
      cases h1
      rw [ints_V e h2]
      rfl
  | .none :: _, _, _, e, _ => by cases e
  | .bool _ :: _, _, _, e, _ => by cases e
  | .str _ :: _, _, _, e, _ => by cases e
  | .list _ :: _, _, _, e, _ => by cases e
  | .tuple _ :: _, _, _, e, _ => by cases e
  | .dict _ :: _, _, _, e, _ => by cases e
theorem bools_V {F : Hp} : ∀ {ds : List D} {ns : List Bool} {vs : List V}, toBools ds = some ns → DtAll F vs ds → vs = ns.map V.bl
  | [], _, _, e, h => by
    cases e
    cases h
    rfl
  | .bool i :: r, ns, _, e, h => by
    simp only [toBools, Option.map_eq_some_iff] at e
    obtain ⟨ms, e, rfl⟩ := e
    cases h with
    | cons h1 h2 =>
      cases h1
      rw [bools_V e h2]
      rfl
  | .none :: _, _, _, e, _ => by cases e
  | .int _ :: _, _, _, e, _ => by cases e
  | .str _ :: _, _, _, e, _ => by cases e
  | .list _ :: _, _, _, e, _ => by cases e
  | .tuple _ :: _, _, _, e, _ => by cases e
  | .dict _ :: _, _, _, e, _ => by cases e
theorem leastI_le : ∀ (l : List Int) (m : Int), leastI m l ≤ m ∧ ∀ y ∈ l, leastI m l ≤ y
  | [], m => ⟨Int.le_refl _, fun _ h => nomatch h⟩
  | x :: r, m => by
    obtain ⟨h1, h2⟩ := leastI_le r (if x < m then x else m)
    simp only [leastI]
    have hm : (if x < m then x else m) ≤ m ∧ (if x < m then x else m) ≤ x := by split <;> omega
    refine ⟨by omega, fun y hy => ?_⟩
    rcases List.mem_cons.mp hy with rfl | hy
    · omega
    · exact h2 y hy
theorem leastI_mem : ∀ (l : List Int) (m : Int), leastI m l ∈ m :: l
  | [], m => List.mem_cons_self
  | x :: r, m => by
    simp only [leastI]
    have h := leastI_mem r (if x < m then x else m)
    rcases List.mem_cons.mp h with h | h
    · rw [h]
      split
      · exact List.mem_cons_of_mem _ List.mem_cons_self
      · exact List.mem_cons_self
    · exact List.mem_cons_of_mem _ (List.mem_cons_of_mem _ h)
theorem mostI_ge : ∀ (l : List Int) (m : Int), m ≤ mostI m l ∧ ∀ y ∈ l, y ≤ mostI m l
  | [], m => ⟨Int.le_refl _, fun _ h => nomatch h⟩
  | x :: r, m => by
    obtain ⟨h1, h2⟩ := mostI_ge r (if x > m then x else m)
    simp only [mostI]
    have hm : (if x > m then x else m) ≥ m ∧ (if x > m then x else m) ≥ x := by split <;> omega
    refine ⟨by omega, fun y hy => ?_⟩
    rcases List.mem_cons.mp hy with rfl | hy
    · omega
    · exact h2 y hy
theorem mostI_mem : ∀ (l : List Int) (m : Int), mostI m l ∈ m :: l
  | [], m => List.mem_cons_self
  | x :: r, m => by
    simp only [mostI]
    have h := mostI_mem r (if x > m then x else m)
    rcases List.mem_cons.mp h with h | h
    · rw [h]
      split
      · exact List.mem_cons_of_mem _ List.mem_cons_self
      · exact List.mem_cons_self
    · exact List.mem_cons_of_mem _ (List.mem_cons_of_mem _ h)
theorem least_of {n m : Int} {ns : List Int} (h : m ∈ n :: ns) (q : ∀ y, y ∈ n :: ns → m ≤ y) : m = leastI n ns := by
  obtain ⟨h1, h2⟩ := leastI_le ns n
  have h3 := q _ (leastI_mem ns n)
  rcases List.mem_cons.mp h with z | z
  · omega
  · have := h2 m z
    omega
theorem most_of {n m : Int} {ns : List Int} (h : m ∈ n :: ns) (q : ∀ y, y ∈ n :: ns → y ≤ m) : m = mostI n ns := by
  obtain ⟨h1, h2⟩ := mostI_ge ns n
  have h3 := q _ (mostI_mem ns n)
  rcases List.mem_cons.mp h with z | z
  · omega
  · have := h2 m z
    omega
def Blt.val : Blt → Value
  | .int1 => .type "int"
  | .list1 => .type "list"
  | .tuple1 => .type "tuple"
  | b => .builtin b.nm
theorem call_blt (b : Blt) (hc : X.calm = true) (hg : X.A.guards = some []) (hu : X.A.units + 70 < cLine) : CallR X b.val (rN (bltD b)) := by
  intro pins s σ H xs us Q I r h
  obtain ⟨F, ds, res, sm, hx, e, a⟩ := h
  unfold bltD at e
  split at e
  · cases e
    obtain ⟨x, rfl, h1⟩ := bvs1 hx
    obtain ⟨l, vs, rfl, h1, a1⟩ := bv_list sm h1
    exact call_len pins s σ H _ us Q I r ⟨_, vs.length, rfl, .inl ⟨vs, .inl h1, rfl⟩, a.dat sm (by rw [DtAll.length a1]; exact .int _)⟩
  · cases e
    obtain ⟨x, rfl, h1⟩ := bvs1 hx
    obtain ⟨l, vs, rfl, h1, a1, _⟩ := bv_tup sm h1
    exact call_len pins s σ H _ us Q I r ⟨_, vs.length, rfl, .inr ⟨vs, .inl h1, rfl⟩, a.dat sm (by rw [DtAll.length a1]; exact .int _)⟩
  · split at e
    · cases e
      rename_i hz
      obtain ⟨x, rfl, h1⟩ := bvs1 hx
      rw [bv_str h1] at r
      exact call_len pins s σ H _ us Q I r ⟨_, _, rfl, ⟨hz, rfl⟩, a.dat sm (.int _)⟩
    · cases e
  · cases e
    obtain ⟨x, rfl, h1⟩ := bvs1 hx
    rw [bv_int h1] at r
    exact call_abs pins s σ H _ us Q I r ⟨_, rfl, a.dat sm (.int _)⟩
  · cases e
    obtain ⟨x, y, rfl, h1, h2⟩ := bvs2 hx
    rw [bv_int h1, bv_int h2] at r
    exact call_min2 hc pins s σ H _ us Q I r ⟨_, _, rfl, a.dat sm (.int _)⟩
  · cases e
    obtain ⟨x, y, rfl, h1, h2⟩ := bvs2 hx
    rw [bv_int h1, bv_int h2] at r
    exact call_max2 hc pins s σ H _ us Q I r ⟨_, _, rfl, a.dat sm (.int _)⟩
  · cases e
    obtain ⟨x, rfl, h1⟩ := bvs1 hx
    rw [bv_int h1] at r
    exact call_int1 pins s σ H _ us Q I r (.inl ⟨_, rfl, a.dat sm (.int _)⟩)
  · cases e
    obtain ⟨x, rfl, h1⟩ := bvs1 hx
    rw [bv_bool h1] at r
    exact call_int1 pins s σ H _ us Q I r (.inr ⟨_, rfl, a.dat sm (.int _)⟩)
  · cases e
    obtain ⟨x, rfl, h1⟩ := bvs1 hx
    obtain ⟨l, vs, rfl, h1, a1⟩ := bv_list sm h1
    exact call_list_of pins s σ H _ us Q I r ⟨l, vs, rfl, .inl (.inl h1), fun p n => a.newL sm a1 p n⟩
  · cases e
    obtain ⟨x, rfl, h1⟩ := bvs1 hx
    obtain ⟨l, vs, rfl, h1, a1, _⟩ := bv_tup sm h1
    exact call_list_of pins s σ H _ us Q I r ⟨l, vs, rfl, .inr (.inl h1), fun p n => a.newL sm a1 p n⟩
  · cases e
    obtain ⟨x, rfl, h1⟩ := bvs1 hx
    obtain ⟨l, vs, rfl, h1, a1⟩ := bv_list sm h1
    exact call_tuple_of pins s σ H _ us Q I r ⟨l, vs, rfl, .inl ⟨.inl h1, fun p n => a.newT sm a1 p n⟩⟩
  · cases e
    obtain ⟨x, rfl, h1⟩ := bvs1 hx
    obtain ⟨l, vs, rfl, h1, a1, d1⟩ := bv_tup sm h1
    exact call_tuple_of pins s σ H _ us Q I r ⟨l, vs, rfl, .inr ⟨.inl h1, a.dat sm d1⟩⟩
  · simp only [Option.map_eq_some_iff] at e
    obtain ⟨bs, e, rfl⟩ := e
    obtain ⟨x, rfl, h1⟩ := bvs1 hx
    obtain ⟨l, vs, rfl, h1, a1⟩ := bv_list sm h1
    exact cr_all hc pins s σ H _ us Q I r ⟨l, bs, rfl, .inl (by rw [← bools_V e a1]; exact h1), a.dat sm (.bl _)⟩
  · simp only [Option.map_eq_some_iff] at e
    obtain ⟨bs, e, rfl⟩ := e
    obtain ⟨x, rfl, h1⟩ := bvs1 hx
    obtain ⟨l, vs, rfl, h1, a1⟩ := bv_list sm h1
    exact cr_any hc pins s σ H _ us Q I r ⟨l, bs, rfl, .inl (by rw [← bools_V e a1]; exact h1), a.dat sm (.bl _)⟩
  · simp only [Option.map_eq_some_iff] at e
    obtain ⟨bs, e, rfl⟩ := e
    obtain ⟨x, rfl, h1⟩ := bvs1 hx
    obtain ⟨l, vs, rfl, h1, a1⟩ := bv_list sm h1
    exact cr_sum hc pins s σ H _ us Q I r ⟨l, bs, rfl, .inl (by rw [← ints_V e a1]; exact h1), a.dat sm (.int _)⟩
  · split at e
    · cases e
      rename_i e
      obtain ⟨x, rfl, h1⟩ := bvs1 hx
      obtain ⟨l, vs, rfl, h1, a1⟩ := bv_list sm h1
      exact cr_min hc pins s σ H _ us Q I r ⟨l, _, rfl, .inl (by rw [← ints_V e a1]; exact h1), by simp, fun m h q => by rw [least_of h q]; exact a.dat sm (.int _)⟩
    · cases e
  · split at e
    · cases e
      rename_i e
      obtain ⟨x, rfl, h1⟩ := bvs1 hx
      obtain ⟨l, vs, rfl, h1, a1⟩ := bv_list sm h1
      exact cr_max hc pins s σ H _ us Q I r ⟨l, _, rfl, .inl (by rw [← ints_V e a1]; exact h1), by simp, fun m h q => by rw [most_of h q]; exact a.dat sm (.int _)⟩
    · cases e
  · split at e
    · cases e
      rename_i d hz
      simp only [Bool.and_eq_true, decide_eq_true_eq, Bool.not_eq_true'] at hz
      obtain ⟨⟨⟨z1, z2⟩, z3⟩, z4⟩ := hz
      have z5 : d.shown.length ≤ sizeLine := by
        have := sizeLine_eq
        omega
      obtain ⟨x, rfl, h1⟩ := bvs1 hx
      have fin : ∀ h' u tk, (∀ b o, s.heap.get? b = some o → h'.get? b = some o) → EP X pins σ Q (.str d.shown u) { s with heap := h', toks := tk } := fun h' u tk hk => ⟨.str _, H, I.kept hk, ⟨_, rfl⟩, a.dat sm (.str _)⟩
      have dp : Dp X.K H x d := Dt.dp z2 (h1.dt sm)
      obtain ⟨w, rfl, rw1⟩ := vals1 r
      cases d with
      | none =>
        rw [bv_none h1] at rw1
        cases rw1
        exact PySem.P.repr_of_none (fin s.heap _ _ fun _ _ e => e)
      | bool b =>
        rw [bv_bool h1] at rw1
        cases rw1
        exact PySem.P.repr_of_bool (fin s.heap _ _ fun _ _ e => e)
      | int i =>
        rw [bv_int h1] at rw1
        obtain ⟨t, rfl⟩ := rw1
        exact PySem.P.repr_of_int (of_decide_eq_true z1) (fin s.heap _ _ fun _ _ e => e)
      | str i =>
        rw [bv_str h1] at rw1
        obtain ⟨t, rfl⟩ := rw1
        exact PySem.P.repr_of_str (fin s.heap _ _ fun _ _ e => e) z5
      | list es =>
        obtain ⟨as, rd⟩ := Dp.reads I _ _ _ dp rw1
        obtain ⟨l, _, rfl, _⟩ := bv_list sm h1
        cases rw1
        exact PySem.repr_of_reads' rd z1 (fun z => by rw [z2] at z; cases z) hg (by omega) (fun _ _ e => e) fin z5
      | tuple es =>
        obtain ⟨as, rd⟩ := Dp.reads I _ _ _ dp rw1
        obtain ⟨l, _, rfl, _⟩ := bv_tup sm h1
        cases rw1
        exact PySem.repr_of_reads' rd z1 (fun z => by rw [z2] at z; cases z) hg (by omega) (fun _ _ e => e) fin z5
      | dict es => simp [PyData.hasDict] at z2
    · cases e
  · cases e
end
end DL

set_option maxHeartbeats 1000000
/-! DL6: promises on data, and the steps of a reading. -/
namespace DL
open PySem PySem.Spec PyProof.Rows L2
/-- how an exception lies: its class by its name, its own fields -/
def FldRep (F : Hp) : List (Str × V) → List (Str × D) → Prop := Paired fun p q => p.1 = q.1 ∧ Dt F p.2 q.2
def ExRep (mg : Str → Option Value) (F H : Hp) (x : Exn) (c : Value) (d : Option Addr) : Prop :=
  mg x.cls = some c ∧ ((x.flds = [] ∧ d = none) ∨ ∃ dd fs, x.flds ≠ [] ∧ d = some dd ∧ H dd = some (.xd fs) ∧ FldRep F fs x.flds)
/-- the arguments as they are handed over; A: where the lists stand that may be changed -/
inductive ArgsRep (H F : Hp) : List V → List Arg → List Addr → Prop
  | nil : ArgsRep H F [] [] []
  | dat {v : V} {d : D} {vs : List V} {as : List Arg} {A : List Addr} : Dt F v d → ArgsRep H F vs as A → ArgsRep H F (v :: vs) (.dat d :: as) A
  | own {a : Addr} {xs : List V} {ds : List D} {vs : List V} {as : List Arg} {A : List Addr} : H a = some (.lst xs) → F a = none → DtAll F xs ds → a ∉ A → ArgsRep H F vs as A → ArgsRep H F (.ref a :: vs) (.own ds :: as) (a :: A)
/-- the lists that were lent, behind the call -/
inductive Backs (H F : Hp) : List Addr → List (List D) → Prop
  | nil : Backs H F [] []
  | cons {a : Addr} {xs : List V} {ds : List D} {A : List Addr} {cs : List (List D)} : H a = some (.lst xs) → F a = none → DtAll F xs ds → Backs H F A cs → Backs H F (a :: A) (ds :: cs)
def RvRep (F' H' H : Hp) (A : List Addr) (v : V) : Rv → Prop
  | .dat d => Dt F' v d
  | .fre ds => ∃ p vs, v = .ref p ∧ H p = none ∧ H' p = some (.lst vs) ∧ F' p = none ∧ p ∉ A ∧ DtAll F' vs ds
def OutPost (mg : Str → Option Value) (F H : Hp) (A : List Addr) (o : Out) (Q : VK) (E : XK) : Prop := match o with
  | .ret r cs => ∀ v F' H', Ext A F H F' H' → Same F' H' → Backs H' F' A cs → RvRep F' H' H A v r → Q v H'
  | .exc x cs => ∀ c d F' H', Ext A F H F' H' → Same F' H' → Backs H' F' A cs → ExRep mg F' H' x c d → E c d H'
/-- a def's promise: what its function on data says -/
def spOf (mg : Str → Option Value) (f : Fn) : Sp := fun vs H Q E => ∃ F as A o, Same F H ∧ ArgsRep H F vs as A ∧ f as = some o ∧ OutPost mg F H A o Q E
/-- a def keeps a promise, where no repr is under way -/
structure GFn (P : Program) (w : World) (K : PySem.W.Frag) (mg : Str → Option Value) (base : Heap) (k : Nat) (f : Addr) (fd : FuncData) (ps : List Str) (sp : Sp) : Prop where
  run : ∀ (A : Around) (outer : List Env) (s : Shared) (H : Hp) (args : Args) (us : List Value) (vs : List V) (Q : VK) (E : XK), A.guards = some [] → Room k A → Env0 P w K mg base A outer s H → BindsTo s fd args (ps.zip us) → Vals vs us → sp vs H Q E → vs.length = ps.length →
    codeAny (model P w) A (.call (.ref f) args) (CR (L2.CX P w) outer P w H s Q E) s
theorem GFn.mono {P : Program} {w : World} {K : PySem.W.Frag} {mg : Str → Option Value} {base : Heap} {j k : Nat} {f : Addr} {fd : FuncData} {ps : List Str} {sp : Sp} (g : GFn P w K mg base j f fd ps sp) (h : j ≤ k) : GFn P w K mg base k f fd ps sp :=
  ⟨fun A outer s H args us vs Q E hg hr => g.run A outer s H args us vs Q E hg (hr.mono h)⟩
/-- a def that may be called -/
structure CalOk (X : Cx) (k : Nat) (c : Ce) : Prop where
  ex : ∃ (f : Addr) (fd : FuncData) (ps : List Str), GFn X.prog X.w X.K X.mg X.base k f fd ps (spOf X.mg c.sem) ∧ ps.length = c.arity ∧ X.mg c.name = some (.ref f) ∧ PySem.W.keepIn X.K (.ref f) = true ∧ Binds X.K fd ps []
/-- a class of errors that may be raised with a text -/
structure ExcOk (X : Cx) (x : Str) : Prop where
  ex : ∃ C : Addr, X.mg x = some (.ref C) ∧ PySem.W.excIn X.K C [.type "ValueError", .type "Exception", .type "BaseException", .type "object"] "ValueError.__new__" = true ∧ PySem.W.keepIn X.K (.ref C) = true ∧
    PySem.W.subIn X.K (.ref C) (.type "BaseException") = some true ∧ PySem.W.typeIn X.K (.ref C) = some (.type "type")
def bltNames : List Str := ["len", "abs", "min", "max", "int", "list", "tuple", "all", "any", "sum", "repr", "isinstance", "bool", "str", "dict", "range", "enumerate", "zip"]
/-- the names of sc, as they are seen where one stands -/
structure Sees (sc : Scope) (X : Cx) : Prop where
  vis : ∀ n, visB sc n = true → Vis X.env.scope n
  loc : ∀ n, locB sc n = true → Loc X.env.scope n ∧ (X.fn n = true ∨ X.env.scope.names.lookup n = some .local)
  gl : ∀ n, glB sc n = true → X.env.scope.names.lookup n = some .globalImplicit
  lcl : ∀ n, lclB sc n = true → X.env.scope.names.lookup n = some .local
  fr : ∀ n, (sc.names.lookup n = some .cell ∨ sc.names.lookup n = some .free) → (X.env.scope.names.lookup n = some .cell ∨ X.env.scope.names.lookup n = some .free)
  kind : X.env.scope.kind = .function
/-- where one stands -/
structure OkX (G : Ge) (N : List Str) (k : Nat) (sc : Scope) (X : Cx) : Prop where
  hN : X.N = N
  nd : N.Nodup
  hsc : Sees sc X
  calm : X.calm = true
  room : Room k X.A
  grd : X.A.guards = some []
  cal : ∀ c ∈ G.ces, CalOk X k c
  con : ∀ x i, (x, i) ∈ G.con → ∃ t, X.mg x = some (.int i t)
  blt : ∀ x ∈ bltNames, X.mg x = none
  exo : ∀ c ∈ G.exc, ExcOk X c
  exm : ∀ x c vx vc, x ∈ G.exc → c ∈ G.exc → X.mg x = some vx → X.mg c = some vc → PySem.W.exmOne X.K vx vc = some (G.sub x c)

/-! ### readings -/
section
variable {α β γ δ : Type}
abbrev Rel (β α : Type) := Hp → Hp → Hp → List Addr → β → α → Prop
/-- what is wanted behind a part that is worth r -/
def Aft (mg : Str → Option Value) (W : WX) (T : Rel β α) (ρ : Rho) (σ : St) (ι : List Addr) (F0 H0 : Hp) (r : R α) (Q : β → Hp → Prop) : Prop := match r with
  | .ok a μ' => ∀ x F' H', Ext ι F0 H0 F' H' → Sat ρ μ' σ H' F' ι → T H0 F' H' ι x a → Q x H'
  | .exc e μ' => ∀ c d F' H', Ext ι F0 H0 F' H' → Sat ρ μ' σ H' F' ι → ExRep mg F' H' e c d → W c d σ H'
  | .stuck => False
def Rd (mg : Str → Option Value) (W : WX) (T : Rel β α) (m : Rho → List Cell → R α) : St → Hp → (β → Hp → Prop) → Prop := fun σ H Q =>
  ∃ ρ μ F ι, Sat ρ μ σ H F ι ∧ Aft mg W T ρ σ ι F H (m ρ μ) Q
abbrev RelE : Rel V SV := fun H0 F' H' ι x sv => VRep F' H' ι x sv ∧ NewV H0 H' x sv
abbrev RelB : Rel Bool Bool := fun _ _ _ _ x b => x = b
abbrev RelO : Rel (Option Int) (Option Int) := fun _ _ _ _ x b => x = b
abbrev RelK : Rel (List V) (List D) := fun _ F' _ _ vs ds => DtAll F' vs ds
abbrev RelL : Rel (List V) (List SV) := fun _ F' H' ι vs ss => Paired (VRep F' H' ι) vs ss
def AvRep (F : Hp) (ι : List Addr) (v : V) : AV → Prop
  | .dat d => Dt F v d
  | .tmp k => ∃ a, ι[k]? = some a ∧ v = .ref a
  | .own k => ∃ a, ι[k]? = some a ∧ v = .ref a
abbrev RelAV : Rel V AV := fun _ F' _ ι v a => AvRep F' ι v a
abbrev RelA : Rel (List V) (List AV) := fun _ F' _ ι vs as => Paired (AvRep F' ι) vs as
variable {mg : Str → Option Value} {W : WX} {ρ : Rho} {μ : List Cell} {σ : St} {ι : List Addr} {F0 H0 F H : Hp} {Q : β → Hp → Prop} {T : Rel β α} {U : Rel δ γ}
/-- one part, then the rest -/
theorem Aft.step {m : Rho → List Cell → R γ} {f : γ → List Cell → R α} (a : Aft mg W T ρ σ ι F0 H0 ((m ρ μ).bind f) Q) (S : Sat ρ μ σ H F ι) (e : Ext ι F0 H0 F H) :
    Rd mg W U m σ H fun x H1 => ∃ a1 μ1 F1, Ext ι F0 H0 F1 H1 ∧ Ext ι F H F1 H1 ∧ Sat ρ μ1 σ H1 F1 ι ∧ U H F1 H1 ι x a1 ∧ Aft mg W T ρ σ ι F0 H0 (f a1 μ1) Q := by
  refine ⟨ρ, μ, F, ι, S, ?_⟩
  cases h : m ρ μ with
  | ok a1 μ1 =>
    rw [h] at a
    exact fun x F1 H1 e1 S1 t => ⟨a1, μ1, F1, e.trans e1, e1, S1, t, a⟩
  | exc x μ1 =>
    rw [h] at a
    exact fun c d F1 H1 e1 S1 t => a c d F1 H1 (e.trans e1) S1 t
  | stuck =>
    rw [h] at a
    exact a.elim
theorem Rd.mono {m : Rho → List Cell → R α} {Q' : β → Hp → Prop} (h : Rd mg W T m σ H Q) (g : ∀ x H1, Q x H1 → Q' x H1) : Rd mg W T m σ H Q' := by
  obtain ⟨ρ, μ, F, ι, S, a⟩ := h
  refine ⟨ρ, μ, F, ι, S, ?_⟩
  cases e : m ρ μ with
  | ok a1 μ1 =>
    rw [e] at a
    exact fun x F1 H1 e1 S1 t => g _ _ (a x F1 H1 e1 S1 t)
  | exc x μ1 =>
    rw [e] at a
    exact a
  | stuck =>
    rw [e] at a
    exact a
/-- the last part -/
theorem Aft.last {m : Rho → List Cell → R α} (a : Aft mg W T ρ σ ι F0 H0 (m ρ μ) Q) (S : Sat ρ μ σ H F ι) (e : Ext ι F0 H0 F H) (t : ∀ x F' H' a, T H F' H' ι x a → T H0 F' H' ι x a) : Rd mg W T m σ H Q := by
  refine ⟨ρ, μ, F, ι, S, ?_⟩
  cases h : m ρ μ with
  | ok a1 μ1 =>
    rw [h] at a
    exact fun x F1 H1 e1 S1 y => a x F1 H1 (e.trans e1) S1 (t _ _ _ _ y)
  | exc x μ1 =>
    rw [h] at a
    exact fun c d F1 H1 e1 S1 y => a c d F1 H1 (e.trans e1) S1 y
  | stuck =>
    rw [h] at a
    exact a.elim
theorem Aft.of {o : Option γ} {f : γ → List Cell → R α} (a : Aft mg W T ρ σ ι F0 H0 ((R.of o μ).bind f) Q) : ∃ x, o = some x ∧ Aft mg W T ρ σ ι F0 H0 (f x μ) Q := by
  cases o with
  | none => exact a.elim
  | some x => exact ⟨x, rfl, a⟩
theorem Aft.of1 {o : Option α} (a : Aft mg W T ρ σ ι F0 H0 (R.of o μ) Q) : ∃ x, o = some x ∧ Aft mg W T ρ σ ι F0 H0 (.ok x μ) Q := by
  cases o with
  | none => exact a.elim
  | some x => exact ⟨x, rfl, a⟩
theorem Aft.asB {v : SV} {f : Bool → List Cell → R α} (a : Aft mg W T ρ σ ι F0 H0 ((asB v μ).bind f) Q) : ∃ b, v = .dat (.bool b) ∧ Aft mg W T ρ σ ι F0 H0 (f b μ) Q := by
  unfold DL.asB at a
  split at a
  · exact ⟨_, rfl, a⟩
  · exact a.elim
theorem Aft.asI {v : SV} {f : Int → List Cell → R α} (a : Aft mg W T ρ σ ι F0 H0 ((asI v μ).bind f) Q) : ∃ b, v = .dat (.int b) ∧ Aft mg W T ρ σ ι F0 H0 (f b μ) Q := by
  unfold DL.asI at a
  split at a
  · exact ⟨_, rfl, a⟩
  · exact a.elim
theorem Aft.keep {v : SV} {x : V} {G0 H1 F1 : Hp} {f : D → List Cell → R α} (a : Aft mg W T ρ σ ι F0 H0 ((v.keep μ).bind f) Q) (S : Sat ρ μ σ H1 F1 ι) (e : Ext ι F0 H0 F1 H1) (r : VRep F1 H1 ι x v) (n : NewV G0 H1 x v) (g : ∀ b, G0 b = none → H0 b = none) :
    ∃ d μ' F', Ext ι F0 H0 F' H1 ∧ Same F1 F' ∧ Sat ρ μ' σ H1 F' ι ∧ Dt F' x d ∧ Aft mg W T ρ σ ι F0 H0 (f d μ') Q := by
  have n0 : NewV H0 H1 x v := by
    cases v with
    | fre ds => exact fun p z => g p (n p z)
    | frn ds => exact fun p bs z y => ⟨g p (n p bs z y).1, fun b hb => g b ((n p bs z y).2 b hb)⟩
    | _ => trivial
  cases h : v.keep μ with
  | ok d μ' =>
    rw [h] at a
    obtain ⟨F', e', sf, S', q⟩ := S.keep e r n0 h
    exact ⟨d, μ', F', e', sf, S', q, a⟩
  | exc x μ' => exact (keep_exc h).elim
  | stuck =>
    rw [h] at a
    exact a.elim
theorem Ext.htw (e : Ext ι F0 H0 F H) : ∀ b, H b = none → H0 b = none := e.ht
/-- behind an operation on values -/
theorem OpE.ext {F' H' : Hp} (o : OpE F H F' H') : Ext ι F H F' H' := ⟨o.fs, fun b u h _ => o.hs b u h, fun b h => Same.free o.hs h, fun b u h => (o.new b u h).elim .inl fun z => .inr (.inl z)⟩
theorem OpE.sat {F' H' : Hp} (o : OpE F H F' H') (S : Sat ρ μ σ H F ι) : Sat ρ μ σ H' F' ι where
  sub := o.sub
  len := S.len
  nod := S.nod
  cell := fun k a c h1 h2 => by
    obtain ⟨vs, q, al, f1, f2⟩ := S.cell k a c h1 h2
    refine ⟨vs, o.hs _ _ q, Its.mono o.fs al, fun z => o.fs _ _ (f1 z), fun z => ?_⟩
    cases y : F' a with
    | none => rfl
    | some u =>
      rcases o.new a u y with z' | z'
      · rw [f2 z] at z'
        cases z'
      · rw [q] at z'
        cases z'
  slen := S.slen
  slot := fun i sv e => by
    obtain ⟨w, e1, q⟩ := S.slot i sv e
    refine ⟨w, e1, ?_⟩
    cases sv with
    | dat d => exact Dt.mono o.fs q
    | own k => exact q
    | fre _ => exact q
    | nst k => exact q
    | frn _ => exact q
theorem RV.vrep {F' H' : Hp} {v : V} {res : SV} (S : Sat ρ μ σ H F ι) (r : RV F' H' H v res) : VRep F' H' ι v res ∧ NewV H H' v res := by
  cases res with
  | dat d => exact ⟨r, trivial⟩
  | own k => exact r.elim
  | nst k => exact r.elim
  | frn k => exact r.elim
  | fre ds =>
    obtain ⟨p, vs, rfl, h, h', f, al⟩ := r
    refine ⟨⟨p, vs, rfl, h', f, S.notIn h, al⟩, fun q z => ?_⟩
    cases z
    exact h
theorem NewV.back {H' : Hp} {v : V} {sv : SV} (n : NewV H H' v sv) (g : ∀ b, H b = none → H0 b = none) : NewV H0 H' v sv := by
  cases sv with
  | frn ds => exact fun p bs z y => ⟨g p (n p bs z y).1, fun b hb => g b ((n p bs z y).2 b hb)⟩
  | fre ds => exact fun p z => g p (n p z)
  | _ => trivial
/-- the end of an expression that is an operation on values -/
theorem Aft.aftr {res : SV} {Q : VK} (a : Aft mg W RelE ρ σ ι F0 H0 (.ok res μ) Q) (S : Sat ρ μ σ H F ι) (e : Ext ι F0 H0 F H) : Aftr F H res Q := fun v F' H' o r => by
  obtain ⟨h1, h2⟩ := RV.vrep S r
  exact a v F' H' (e.trans o.ext) (o.sat S) ⟨h1, h2.back e.ht⟩
/-- the end of an expression that is worth plain data where it stands -/
theorem Aft.end_ {d : D} {Q : VK} {x : V} (a : Aft mg W RelE ρ σ ι F0 H0 (.ok (.dat d) μ) Q) (S : Sat ρ μ σ H F ι) (e : Ext ι F0 H0 F H) (h : Dt F x d) : Q x H := a x F H e S ⟨h, trivial⟩
end
theorem PE.imp {X : Cx} {e : Expr} {t t' : TE} (h : PE X e t) (i : ∀ σ H Q, t' σ H Q → t σ H Q) : PE X e t' := ⟨fun pins s σ H Q I q => h.run pins s σ H Q I (i σ H Q q)⟩
theorem PT.imp {X : Cx} {e : Expr} {t t' : TT} (h : PT X e t) (i : ∀ σ H Q, t' σ H Q → t σ H Q) : PT X e t' := ⟨fun pins s σ H Q I q => h.run pins s σ H Q I (i σ H Q q)⟩
theorem PW.imp {X : Cx} {e : Expr} {t t' : TT} (h : PW X e t) (i : ∀ σ H Q, t' σ H Q → t σ H Q) : PW X e t' := ⟨fun wh pins s σ H Q I q => h.run wh pins s σ H Q I (i σ H Q q)⟩
theorem PA.imp {X : Cx} {e : List Expr} {t t' : TA} (h : PA X e t) (i : ∀ σ H Q, t' σ H Q → t σ H Q) : PA X e t' := ⟨fun pos pins s σ H Q I q => h.run pos pins s σ H Q I (i σ H Q q)⟩
theorem PO.imp {X : Cx} {e : Option Expr} {t t' : TO} (h : PO X e t) (i : ∀ σ H Q, t' σ H Q → t σ H Q) : PO X e t' := ⟨fun pins s σ H Q I q => h.run pins s σ H Q I (i σ H Q q)⟩
theorem PS.imp {X : Cx} {e : Stmt} {t t' : TS} (h : PS X e t) (i : ∀ D σ H, t' D σ H → t D σ H) : PS X e t' := ⟨fun pins s σ H D I q => h.run pins s σ H D I (i D σ H q)⟩
theorem PSs.imp {X : Cx} {e : List Stmt} {t t' : TS} (h : PSs X e t) (i : ∀ D σ H, t' D σ H → t D σ H) : PSs X e t' := ⟨fun pins s σ H D I q => h.run pins s σ H D I (i D σ H q)⟩
end DL

set_option maxHeartbeats 1000000
/-! DL7: expressions do what the function of the text says. -/
namespace DL
open PySem PySem.Spec PyProof.Rows L2
def Star1 (e : Expr) : Prop := ∀ (es : List Expr) (env : Env), starEach (e :: es) env = (false, eval e env) :: starEach es env
def NoStar (l : List Expr) : Prop := ∀ (pos : Pos) (env : Env), (backTo pos (starEach l env)).any (·.1) = false
structure SE (G : Ge) (N : List Str) (k : Nat) (ir : IR) : Prop where
  e : ∀ {sc : Scope} {X : Cx} {W : WX} {x : Expr}, OkX G N k sc X → Takes X W → (mt G N ir).e sc x = true → PE X x (Rd X.mg W RelE (den G ir).e)
  t : ∀ {sc : Scope} {X : Cx} {W : WX} {x : Expr}, OkX G N k sc X → Takes X W → (mt G N ir).e sc x = true → PT X x (Rd X.mg W RelB (testR (den G ir).e))
  st : ∀ {sc : Scope} {x : Expr}, (mt G N ir).e sc x = true → Star1 x
  a : ∀ {sc : Scope} {X : Cx} {W : WX} {x : Expr}, OkX G N k sc X → Takes X W → (mt G N ir).a sc x = true → PE X x (Rd X.mg W RelAV (den G ir).av)
  ast : ∀ {sc : Scope} {x : Expr}, (mt G N ir).a sc x = true → Star1 x
  o : ∀ {sc : Scope} {X : Cx} {W : WX} {x : Option Expr}, OkX G N k sc X → Takes X W → (mt G N ir).o sc x = true → PO X x (Rd X.mg W RelO (den G ir).o)
structure SL (G : Ge) (N : List Str) (k : Nat) (ir : IR) : Prop where
  b : ∀ {sc : Scope} {X : Cx} {W : WX} {l : List Expr}, OkX G N k sc X → Takes X W → (mt G N ir).es sc l = true → PA X l (Rd X.mg W RelL (den G ir).b)
  kl : ∀ {sc : Scope} {X : Cx} {W : WX} {l : List Expr}, OkX G N k sc X → Takes X W → (mt G N ir).es sc l = true → PA X l fun σ H Q => Rd X.mg W RelK (den G ir).k σ H fun vs H1 => vs.length = l.length → Q vs H1
  aa : ∀ {sc : Scope} {X : Cx} {W : WX} {l : List Expr}, OkX G N k sc X → Takes X W → (mt G N ir).as sc l = true → PA X l (Rd X.mg W RelA (den G ir).a)
  bc : ∀ {sc : Scope} {X : Cx} {W : WX} {l : List Expr} {o : BoolOp} {e : Expr} {p : Pos}, OkX G N k sc X → Takes X W → (mt G N ir).es sc (e :: l) = true → PE X (.BoolOp o (e :: l) p) (Rd X.mg W RelE ((den G ir).bc o))
  bt : ∀ {sc : Scope} {X : Cx} {W : WX} {l : List Expr} {o : BoolOp} {e : Expr} {p : Pos}, OkX G N k sc X → Takes X W → (mt G N ir).es sc (e :: l) = true → PW X (.BoolOp o (e :: l) p) (Rd X.mg W RelB (testR ((den G ir).bc o)))
  sl : ∀ {sc : Scope} {l : List Expr}, (mt G N ir).es sc l = true → NoStar l
  asl : ∀ {sc : Scope} {l : List Expr}, (mt G N ir).as sc l = true → NoStar l
section
variable {G : Ge} {N : List Str} {k : Nat} {ir x y z : IR}
theorem SL.none (h1 : ∀ sc l, (mt G N ir).es sc l = false) (h2 : ∀ sc l, (mt G N ir).as sc l = false) : SL G N k ir where
  b := fun _ _ h => by
    rw [h1] at h
    cases h
  kl := fun _ _ h => by
    rw [h1] at h
    cases h
  aa := fun _ _ h => by
    rw [h2] at h
    cases h
  bc := fun _ _ h => by
    rw [h1] at h
    cases h
  bt := fun _ _ h => by
    rw [h1] at h
    cases h
  sl := fun h => by
    rw [h1] at h
    cases h
  asl := fun h => by
    rw [h2] at h
    cases h
theorem SE.none (h1 : ∀ sc l, (mt G N ir).e sc l = false) (h2 : ∀ sc l, (mt G N ir).a sc l = false) (h3 : ∀ sc l, (mt G N ir).o sc l = false) : SE G N k ir where
  e := fun _ _ h => by
    rw [h1] at h
    cases h
  t := fun _ _ h => by
    rw [h1] at h
    cases h
  st := fun h => by
    rw [h1] at h
    cases h
  a := fun _ _ h => by
    rw [h2] at h
    cases h
  ast := fun h => by
    rw [h2] at h
    cases h
  o := fun _ _ h => by
    rw [h3] at h
    cases h
/-- a test by an expression's truth value -/
theorem tB_of {X : Cx} {W : WX} {m : Rho → List Cell → R SV} {σ : St} {H : Hp} {Q : Bool → Hp → Prop} (h : Rd X.mg W RelB (testR m) σ H Q) : tB (Rd X.mg W RelE m) σ H Q := by
  obtain ⟨ρ, μ, F, ι, S, a⟩ := h
  refine Rd.mono (Aft.step (U := RelE) a S Ext.refl) fun x H1 ⟨v, μ1, F1, e1, _, S1, ⟨r, _⟩, a⟩ => ?_
  unfold asB at a
  split at a
  · cases r
    exact ⟨_, rfl, a _ F1 H1 e1 S1 rfl⟩
  · exact a.elim
theorem pt_of {X : Cx} {W : WX} {m : Rho → List Cell → R SV} {e : Expr} (h : PE X e (Rd X.mg W RelE m)) (he : ∀ whole, isTrue e X.env whole = (do let v ← whole; standAt e.pos; holding [v] (truthy v))) : PT X e (Rd X.mg W RelB (testR m)) :=
  PT.imp (pt_val h he) fun _ _ _ => tB_of
/-- an argument, by its expression -/
theorem pe_av {X : Cx} {W : WX} {m : Rho → List Cell → R SV} {e : Expr} (h : PE X e (Rd X.mg W RelE m)) : PE X e (Rd X.mg W RelAV fun ρ μ => (m ρ μ).bind avOf) := by
  refine PE.imp h fun σ H Q ⟨ρ, μ, F, ι, S, a⟩ => Rd.mono (Aft.step (U := RelE) a S Ext.refl) fun x H1 ⟨v, μ1, F1, e1, _, S1, ⟨r, n⟩, a⟩ => ?_
  cases v with
  | dat d => exact a x F1 H1 e1 S1 r
  | own j => exact a x F1 H1 e1 S1 r
  | nst j => exact a.elim
  | frn j => exact a.elim
  | fre ds =>
    obtain ⟨F2, e2, _, S2, q⟩ := S1.keep e1 r n (d := .list ds) (μ' := μ1) rfl
    exact a x F2 H1 e2 S2 q
theorem po_of {X : Cx} {W : WX} {m : Rho → List Cell → R SV} {e : Expr} (h : PE X e (Rd X.mg W RelE m)) : PO X (some e) (Rd X.mg W RelO fun ρ μ => (m ρ μ).bind intO) := by
  refine PO.imp (po_some h) fun σ H Q ⟨ρ, μ, F, ι, S, a⟩ => Rd.mono (Aft.step (U := RelE) a S Ext.refl) fun x H1 ⟨v, μ1, F1, e1, _, S1, ⟨r, n⟩, a⟩ => ?_
  unfold intO at a
  split at a
  · cases r
    exact ⟨_, rfl, a _ F1 H1 e1 S1 rfl⟩
  · exact a.elim
/-- what an expression's text gives besides -/
theorem SE.of {m : Rho → List Cell → R SV} {f : Scope → Expr → Bool} (hd : den G ir = Den.ofE m) (hm : mt G N ir = Mt.ofE f)
    (he : ∀ {sc : Scope} {X : Cx} {W : WX} {x : Expr}, OkX G N k sc X → Takes X W → f sc x = true → PE X x (Rd X.mg W RelE m) ∧ PT X x (Rd X.mg W RelB (testR m)))
    (hs : ∀ {sc : Scope} {x : Expr}, f sc x = true → Star1 x) : SE G N k ir where
  e := fun ok tk h => by
    rw [hm] at h
    rw [hd]
    exact (he ok tk h).1
  t := fun ok tk h => by
    rw [hm] at h
    rw [hd]
    exact (he ok tk h).2
  st := fun h => by
    rw [hm] at h
    exact hs h
  a := fun ok tk h => by
    rw [hm] at h
    rw [hd]
    exact pe_av (he ok tk h).1
  ast := fun h => by
    rw [hm] at h
    exact hs h
  o := fun {sc X W x} ok tk h => by
    rw [hm] at h
    rw [hd]
    cases x with
    | none => cases h
    | some e => exact po_of (he ok tk h).1

/-! ### names and constants -/
theorem vis_of {sc : Scope} {X : Cx} {n : Str} (hsc : Sees sc X) (h : visB sc n = true) : Vis X.env.scope n := hsc.vis n h
theorem loc_of {sc : Scope} {X : Cx} {n : Str} (hsc : Sees sc X) (h : locB sc n = true) : Loc X.env.scope n := (hsc.loc n h).1
theorem gl_of {sc : Scope} {X : Cx} {n : Str} (hsc : Sees sc X) (h : glB sc n = true) : Gl X n := hsc.gl n h
theorem fn_of' {sc : Scope} {X : Cx} {n : Str} (ok : OkX G N k sc X) (h : locB sc n = true) : X.fn n = true ∨ X.env.scope.names.lookup n = some .local := (ok.hsc.loc n h).2
/-- where the scope is one's own -/
theorem Sees.of {sc : Scope} {X : Cx} (e : X.env.scope = sc) (hk : sc.kind = .function) (fn : ∀ x, sc.names.lookup x = some .cell → X.fn x = true) : Sees sc X where
  vis := fun n h => by
    rw [e]
    unfold visB at h
    split at h
    · exact .inl (by assumption)
    · exact .inr (.inl (by assumption))
    · exact .inr (.inr (by assumption))
    · cases h
  loc := fun n h => by
    rw [e]
    unfold locB at h
    split at h
    · exact ⟨.inl (by assumption), .inr (by assumption)⟩
    · exact ⟨.inr (by assumption), .inl (fn _ (by assumption))⟩
    · cases h
  gl := fun n h => by
    rw [e]
    unfold glB at h
    split at h
    · assumption
    · cases h
  lcl := fun n h => by
    rw [e]
    unfold lclB at h
    split at h
    · assumption
    · cases h
  fr := fun n h => by
    rw [e]
    exact h
  kind := by rw [e]; exact hk
theorem okName_of {n : Str} (h : okName n = true) : (n == ("__debug__" : Str)) = false ∧ (n == ("__classdict__" : Str)) = false ∧ n ≠ "__name__" := by
  unfold okName at h
  simpa [Bool.and_eq_true, and_assoc] using h
theorem pe_slot {sc : Scope} {X : Cx} {W : WX} {n : Str} {p : Pos} {i : Nat} (ok : OkX G N k sc X) (h1 : N[i]? = some n) (h2 : visB sc n = true) (h3 : okName n = true) : PE X (.Name n p) (Rd X.mg W RelE fun ρ μ => slot ρ i μ) := by
  obtain ⟨n1, n2, _⟩ := okName_of h3
  refine PE.imp (pe_var (i := i) (by rw [ok.hN]; exact h1) (vis_of ok.hsc h2) n1 n2) fun σ H Q ⟨ρ, μ, F, ι, S, a⟩ => ?_
  replace a : Aft X.mg W RelE ρ σ ι F H (slot ρ i μ) Q := a
  unfold slot at a
  split at a
  · rename_i v e
    obtain ⟨w, e1, q⟩ := S.slot i v e
    refine ⟨w, e1, a w F H Ext.refl S ⟨?_, ?_⟩⟩
    · cases v with
      | dat d => exact q
      | own j => exact q
      | nst j => exact q
      | frn ds => exact q.elim
      | fre ds => exact q.elim
    · cases v with
      | fre ds => exact q.elim
      | frn ds => exact q.elim
      | _ => trivial
  · exact a.elim
theorem se_var {i : Nat} : SE G N k (.var i) := by
  refine SE.of rfl rfl (fun {sc X W x} ok tk h => ?_) fun {sc x} h => ?_
  · split at h
    · simp only [Bool.and_eq_true, decide_eq_true_eq] at h
      have q := pe_slot (W := W) (p := by assumption) ok h.1.1 h.1.2 h.2
      exact ⟨q, pt_of q fun _ => rfl⟩
    · cases h
  · split at h
    · exact fun _ _ => rfl
    · cases h
theorem se_lend {i : Nat} : SE G N k (.lend i) := by
  refine ⟨(fun _ _ h => nomatch h), (fun _ _ h => nomatch h), (fun h => nomatch h), fun {sc X W x} ok tk h => ?_, fun {sc x} h => ?_, (fun _ _ h => nomatch h)⟩
  · dsimp only [mt] at h
    split at h
    · simp only [Bool.and_eq_true, decide_eq_true_eq] at h
      refine PE.imp (pe_slot (W := W) ok h.1.1 h.1.2 h.2) fun σ H Q ⟨ρ, μ, F, ι, S, a⟩ => Rd.mono (Aft.step (U := RelE) a S Ext.refl) fun x H1 ⟨v, μ1, F1, e1, _, S1, ⟨r, n⟩, a⟩ => ?_
      cases v with
      | dat d => exact a.elim
      | fre d => exact a.elim
      | nst d => exact a.elim
      | frn d => exact a.elim
      | own j => exact a x F1 H1 e1 S1 r
    · cases h
  · dsimp only [mt] at h
    split at h
    · exact fun _ _ => rfl
    · cases h
def litV : D → V
  | .bool b => .bl b
  | .int i => .int i
  | .str x => .str x
  | _ => .non
theorem pe_lit {X : Cx} {W : WX} {d : D} {c : Const} {j : Nat} {p : Pos} (h : litB d c = true) : PE X (.Constant c j p) (Rd X.mg W RelE fun _ μ => .ok (.dat d) μ) := by
  unfold litB at h
  split at h
  · exact PE.imp pe_non fun σ H Q ⟨ρ, μ, F, ι, S, a⟩ => a.end_ S Ext.refl .non
  · cases of_decide_eq_true h
    exact PE.imp pe_bl fun σ H Q ⟨ρ, μ, F, ι, S, a⟩ => a.end_ S Ext.refl (.bl _)
  · cases of_decide_eq_true h
    exact PE.imp pe_int fun σ H Q ⟨ρ, μ, F, ι, S, a⟩ => a.end_ S Ext.refl (.int _)
  · cases of_decide_eq_true h
    exact PE.imp pe_str fun σ H Q ⟨ρ, μ, F, ι, S, a⟩ => a.end_ S Ext.refl (.str _)
  · cases h
theorem se_lit {d : D} : SE G N k (.lit d) := by
  refine SE.of rfl rfl (fun {sc X W x} ok tk h => ?_) fun {sc x} h => ?_
  · split at h
    · have q := pe_lit (X := X) (W := W) (p := by assumption) (j := by assumption) h
      exact ⟨q, pt_of q fun _ => rfl⟩
    · cases h
  · split at h
    · exact fun _ _ => rfl
    · cases h
theorem se_glb {y : Str} {d : D} : SE G N k (.glb y d) := by
  refine SE.of rfl rfl (fun {sc X W x} ok tk h => ?_) fun {sc x} h => ?_
  · split at h
    · simp only [Bool.and_eq_true, decide_eq_true_eq] at h
      obtain ⟨⟨⟨h1, h2⟩, h3⟩, h4⟩ := h
      subst h1
      obtain ⟨t, hm⟩ := ok.con _ _ h4
      have q : PE X _ (Rd X.mg W RelE fun _ μ => .ok (.dat (.int _)) μ) := PE.imp (pe_glob (pos := by assumption) (gl_of ok.hsc h2) hm (v := .int _) ⟨t, rfl⟩ (okName_of h3).1) fun σ H Q ⟨ρ, μ, F, ι, S, a⟩ => a.end_ S Ext.refl (.int _)
      exact ⟨q, pt_of q fun _ => rfl⟩
    · cases h
  · split at h
    · exact fun _ _ => rfl
    · cases h
end
end DL

set_option maxHeartbeats 1000000
/-! DL8: operators, tests, displays, subscripts, built-ins. -/
namespace DL
open PySem PySem.Spec PyProof.Rows L2
theorem R.assoc {α β γ : Type} (r : R α) (f : α → List Cell → R β) (g : β → List Cell → R γ) : (r.bind f).bind g = r.bind fun a μ => (f a μ).bind g := by
  cases r <;> rfl
section
variable {α : Type} {mg : Str → Option Value} {W : WX} {ρ : Rho} {μ : List Cell} {σ : St} {ι : List Addr} {F0 H0 F H : Hp} {β : Type} {Q : β → Hp → Prop} {T : Rel β α}
theorem Aft.look {v : SV} {f : D → List Cell → R α} {x : V} (a : Aft mg W T ρ σ ι F0 H0 ((look1 v μ).bind f) Q) (S : Sat ρ μ σ H F ι) (r : VRep F H ι x v) : ∃ d, BV F H x d ∧ Aft mg W T ρ σ ι F0 H0 (f d μ) Q := by
  obtain ⟨d, e, a⟩ := Aft.of (o := v.look μ) a
  exact ⟨d, r.look S e, a⟩
end
section
variable {G : Ge} {N : List Str} {k : Nat} {x y z : IR}
/-- a test's reading as the value's -/
theorem tB_to {X : Cx} {W : WX} {m : Rho → List Cell → R SV} {σ : St} {H : Hp} {Q : Bool → Hp → Prop} (h : Rd X.mg W RelB (testR m) σ H Q) : Rd X.mg W RelE m σ H fun x H' => ∃ k, x = .bl k ∧ Q k H' := tB_of h
theorem units_of {sc : Scope} {X : Cx} (ok : OkX G N k sc X) : X.A.units + 64 < cLine := ok.room.units
theorem units70 {sc : Scope} {X : Cx} (ok : OkX G N k sc X) : X.A.units + 70 < cLine := by
  have := ok.room.un
  omega
theorem se_bin {o : Operator} (hx : SE G N k x) (hy : SE G N k y) : SE G N k (.bin o x y) := by
  refine SE.of rfl rfl (fun {sc X W e} ok tk h => ?_) fun {sc e} h => ?_
  · split at h
    · simp only [Bool.and_eq_true, decide_eq_true_eq] at h
      obtain ⟨⟨rfl, h1⟩, h2⟩ := h
      refine (fun q => ⟨q, pt_of q fun _ => rfl⟩) (PE.imp (pe_op (op_bin o) (hx.e ok tk h1) (hy.e ok tk h2)) fun σ H Q ⟨ρ, μ, F, ι, S, a⟩ => ?_)
      refine Rd.mono (Aft.step (U := RelE) a S Ext.refl) fun v1 H1 ⟨s1, μ1, F1, e1, d1, S1, ⟨r1, n1⟩, a⟩ => ?_
      refine Rd.mono (Aft.step (U := RelE) a S1 e1) fun v2 H2 ⟨s2, μ2, F2, e2, d2, S2, ⟨r2, n2⟩, a⟩ => ?_
      obtain ⟨da, b1, a⟩ := a.look S2 (r1.mono S1 d2)
      obtain ⟨db, b2, a⟩ := a.look S2 r2
      obtain ⟨res, l3, a⟩ := a.of1
      exact ⟨F2, da, db, res, S2.sub, b1, b2, l3, a.aftr S2 e2⟩
    · cases h
  · split at h
    · exact fun _ _ => rfl
    · cases h
theorem se_neg (hx : SE G N k x) : SE G N k (.neg x) := by
  refine SE.of rfl rfl (fun {sc X W e} ok tk h => ?_) fun {sc e} h => ?_
  · split at h
    · refine (fun q => ⟨q, pt_of q fun _ => rfl⟩) (PE.imp (pe_un un_neg (hx.e ok tk h)) fun σ H Q ⟨ρ, μ, F, ι, S, a⟩ => ?_)
      refine Rd.mono (Aft.step (U := RelE) a S Ext.refl) fun v1 H1 ⟨s1, μ1, F1, e1, d1, S1, ⟨r1, n1⟩, a⟩ => ?_
      obtain ⟨i, rfl, a⟩ := a.asI
      cases r1
      exact ⟨i, rfl, a.end_ S1 e1 (.int _)⟩
    · cases h
  · split at h
    · exact fun _ _ => rfl
    · cases h
theorem se_nt (hx : SE G N k x) : SE G N k (.nt x) := by
  refine SE.of rfl rfl (fun {sc X W e} ok tk h => ?_) fun {sc e} h => ?_
  · split at h
    · constructor
      · refine PE.imp (pe_not (hx.e ok tk h)) fun σ H Q ⟨ρ, μ, F, ι, S, a⟩ => ?_
        refine Rd.mono (Aft.step (U := RelE) a S Ext.refl) fun v1 H1 ⟨s1, μ1, F1, e1, d1, S1, ⟨r1, n1⟩, a⟩ => ?_
        obtain ⟨b, rfl, a⟩ := a.asB
        cases r1
        exact ⟨b, rfl, a.end_ S1 e1 (.bl _)⟩
      · refine PT.imp (pt_not (hx.t ok tk h)) fun σ H Q ⟨ρ, μ, F, ι, S, a⟩ => ?_
        have e : testR (fun ρ μ => ((den G x).e ρ μ).bind fun v μ1 => (asB v μ1).bind fun c μ2 => dB (!c) μ2) ρ μ = (testR (den G x).e ρ μ).bind fun c μ2 => .ok (!c) μ2 := by
          unfold testR
          rw [R.assoc, R.assoc]
          congr 1
          funext v μ1
          rw [R.assoc]
          rfl
        rw [e] at a
        exact Rd.mono (Aft.step (U := RelB) a S Ext.refl) fun b H1 ⟨b', μ1, F1, e1, d1, S1, r1, a⟩ => a _ F1 H1 e1 S1 (by rw [r1])
    · cases h
  · split at h
    · exact fun _ _ => rfl
    · cases h
theorem noMarks_of {o : CmpOp} {b : Expr} (h : noMarks o b = true) : behindInMarks o b = false := by
  unfold noMarks at h
  simpa using h
theorem rd_cmp {X : Cx} {W : WX} {o : CmpOp} {mx my : Rho → List Cell → R SV} {σ : St} {H : Hp} {Q : VK}
    (h : Rd X.mg W RelE (fun ρ μ => (mx ρ μ).bind fun v μ1 => (my ρ μ1).bind fun w μ2 => (look1 v μ2).bind fun a μ3 => (look1 w μ3).bind fun b μ4 => (R.of (cmp2 o a b) μ4).bind dB) σ H Q) :
    tOp (rC (cmp2 o)) (Rd X.mg W RelE mx) (Rd X.mg W RelE my) σ H Q := by
  obtain ⟨ρ, μ, F, ι, S, a⟩ := h
  refine Rd.mono (Aft.step (U := RelE) a S Ext.refl) fun v1 H1 ⟨s1, μ1, F1, e1, d1, S1, ⟨r1, n1⟩, a⟩ => ?_
  refine Rd.mono (Aft.step (U := RelE) a S1 e1) fun v2 H2 ⟨s2, μ2, F2, e2, d2, S2, ⟨r2, n2⟩, a⟩ => ?_
  obtain ⟨da, b1, a⟩ := a.look S2 (r1.mono S1 d2)
  obtain ⟨db, b2, a⟩ := a.look S2 r2
  obtain ⟨res, l3, a⟩ := a.of
  exact ⟨F2, da, db, res, S2.sub, b1, b2, l3, a.end_ S2 e2 (.bl _)⟩
theorem se_cmp {o : CmpOp} (hx : SE G N k x) (hy : SE G N k y) : SE G N k (.cmp o x y) := by
  refine SE.of rfl rfl (fun {sc X W e} ok tk h => ?_) fun {sc e} h => ?_
  · split at h
    · simp only [Bool.and_eq_true, decide_eq_true_eq] at h
      obtain ⟨⟨⟨rfl, h1⟩, h2⟩, h3⟩ := h
      exact ⟨PE.imp (pe_cmpR (op_cmp o (units_of ok)) (hx.e ok tk h1) (hy.e ok tk h2) (noMarks_of h3)) fun σ H Q q => rd_cmp q,
        PT.imp (pt_cmpR (op_cmp o (units_of ok)) (hx.e ok tk h1) (hy.e ok tk h2) (noMarks_of h3)) fun σ H Q q => rd_cmp (tB_to q)⟩
    · cases h
  · split at h
    · exact fun _ _ => rfl
    · cases h
theorem se_chn {o o' : CmpOp} (hx : SE G N k x) (hy : SE G N k y) (hz : SE G N k z) : SE G N k (.chn o o' x y z) := by
  refine SE.of rfl rfl (fun {sc X W e} ok tk h => ?_) fun {sc e} h => ?_
  · split at h
    · simp only [Bool.and_eq_true, decide_eq_true_eq] at h
      obtain ⟨⟨⟨⟨⟨⟨rfl, rfl⟩, h1⟩, h2⟩, h3⟩, h4⟩, h5⟩ := h
      have hm := noMarks_of h5
      have go : ∀ (σ : St) (H : Hp) (Q : VK), Rd X.mg W RelE (den G (.chn o o' x y z)).e σ H Q → tChain (rC (cmp2 o)) (rC (cmp2 o')) (Rd X.mg W RelE (den G x).e) (Rd X.mg W RelE (den G y).e) (Rd X.mg W RelE (den G z).e) σ H Q := by
        intro σ H Q ⟨ρ, μ, F, ι, S, a⟩
        refine Rd.mono (Aft.step (U := RelE) a S Ext.refl) fun v1 H1 ⟨s1, μ1, F1, e1, d1, S1, ⟨r1, n1⟩, a⟩ => ?_
        refine Rd.mono (Aft.step (U := RelE) a S1 e1) fun v2 H2 ⟨s2, μ2, F2, e2, d2, S2, ⟨r2, n2⟩, a⟩ => ?_
        obtain ⟨da, b1, a⟩ := a.look S2 (r1.mono S1 d2)
        obtain ⟨db, b2, a⟩ := a.look S2 r2
        obtain ⟨res, l3, a⟩ := a.of
        refine ⟨F2, da, db, res, S2.sub, b1, b2, l3, res, rfl, ?_⟩
        cases res with
        | false => exact iteF (a.end_ S2 e2 (.bl _))
        | true =>
          refine iteT (Rd.mono (Aft.step (U := RelE) a S2 e2) fun v3 H3 ⟨s3, μ3, F3, e3, d3, S3, ⟨r3, n3⟩, a⟩ => ?_)
          obtain ⟨dc, b3, a⟩ := a.look S3 (r2.mono S2 d3)
          obtain ⟨dd, b4, a⟩ := a.look S3 r3
          obtain ⟨res, l4, a⟩ := a.of
          exact ⟨F3, dc, dd, res, S3.sub, b3, b4, l4, a.end_ S3 e3 (.bl _)⟩
      exact ⟨PE.imp (pe_chain (op_cmp o (units_of ok)) (op_cmp o' (units_of ok)) (hx.e ok tk h1) (hy.e ok tk h2) (hz.e ok tk h3) hm) go,
        PT.imp (pt_chain (op_cmp o (units_of ok)) (op_cmp o' (units_of ok)) (hx.e ok tk h1) (hy.e ok tk h2) (hz.e ok tk h3) hm) fun σ H Q q => go σ H _ (tB_to q)⟩
    · cases h
  · split at h
    · exact fun _ _ => rfl
    · cases h
theorem se_bop {o : BoolOp} (hx : SL G N k x) : SE G N k (.bop o x) := by
  refine SE.of rfl rfl (fun {sc X W e} ok tk h => ?_) fun {sc e} h => ?_
  · split at h
    · simp only [Bool.and_eq_true, decide_eq_true_eq] at h
      obtain ⟨rfl, h1⟩ := h
      exact ⟨hx.bc ok tk h1, PW.pt (hx.bt ok tk h1)⟩
    · cases h
  · split at h
    · exact fun _ _ => rfl
    · cases h
theorem se_ife (hx : SE G N k x) (hy : SE G N k y) (hz : SE G N k z) : SE G N k (.ife x y z) := by
  refine SE.of rfl rfl (fun {sc X W e} ok tk h => ?_) fun {sc e} h => ?_
  · split at h
    · simp only [Bool.and_eq_true] at h
      obtain ⟨⟨h1, h2⟩, h3⟩ := h
      constructor
      · refine PE.imp (pe_ifExp (hx.t ok tk h1) (hy.e ok tk h2) (hz.e ok tk h3)) fun σ H Q ⟨ρ, μ, F, ι, S, a⟩ => ?_
        refine Rd.mono (Aft.step (U := RelB) a S Ext.refl) fun b H1 ⟨b', μ1, F1, e1, d1, S1, r1, a⟩ => ?_
        cases r1
        cases b with
        | true => exact iteT (Aft.last a S1 e1 fun v F' H' s ⟨r, n⟩ => ⟨r, n.back e1.ht⟩)
        | false => exact iteF (Aft.last a S1 e1 fun v F' H' s ⟨r, n⟩ => ⟨r, n.back e1.ht⟩)
      · refine ⟨fun pins s σ H Q I q => ?_⟩
        obtain ⟨ρ, μ, F, ι, S, a⟩ := q
        have e : testR (fun ρ μ => (testR (den G x).e ρ μ).bind fun b μ1 => match b with
            | true => (den G y).e ρ μ1
            | false => (den G z).e ρ μ1) ρ μ = (testR (den G x).e ρ μ).bind fun b μ1 => match b with
            | true => testR (den G y).e ρ μ1
            | false => testR (den G z).e ρ μ1 := by
          show R.bind (R.bind _ _) _ = _
          rw [R.assoc]
          congr 1
          funext b μ1
          cases b <;> rfl
        replace a := (congrArg (fun r => Aft X.mg W RelB ρ σ ι F H r Q) e).mp a
        refine isTrue_IfExp (thn ((hx.t ok tk h1).run pins s σ H _ I (Aft.step (U := RelB) a S Ext.refl)) fun b s1 ⟨H1, I1, b', μ1, F1, e1, d1, S1, r1, a⟩ => ?_)
        cases r1
        cases b with
        | true => exact (hy.t ok tk h2).run pins s1 σ H1 Q I1 (Aft.last a S1 e1 fun _ _ _ _ z => z)
        | false => exact (hz.t ok tk h3).run pins s1 σ H1 Q I1 (Aft.last a S1 e1 fun _ _ _ _ z => z)
    · cases h
  · split at h
    · exact fun _ _ => rfl
    · cases h
theorem size7 {n : Nat} (h : n ≤ 10000000) : n ≤ sizeLine := by
  have := sizeLine_eq
  omega
theorem se_tup (hx : SL G N k x) : SE G N k (.tup x) := by
  refine SE.of rfl rfl (fun {sc X W e} ok tk h => ?_) fun {sc e} h => ?_
  · split at h
    · simp only [Bool.and_eq_true, decide_eq_true_eq] at h
      obtain ⟨h1, h2⟩ := h
      refine (fun q => ⟨q, pt_of q fun _ => rfl⟩) (PE.imp (pe_tup (hx.kl ok tk h1)) fun σ H Q ⟨ρ, μ, F, ι, S, a⟩ => ?_)
      refine (Rd.mono (Aft.step (U := RelK) a S Ext.refl) fun vs H1 ⟨ds, μ1, F1, e1, d1, S1, r1, a⟩ hl => ?_)
      exact ⟨by rw [hl]; exact size7 h2, fun p n => (a.aftr S1 e1).newT S1.sub r1 p n⟩
    · cases h
  · split at h
    · exact fun _ _ => rfl
    · cases h
theorem se_lst (hx : SL G N k x) : SE G N k (.lst x) := by
  refine SE.of rfl rfl (fun {sc X W e} ok tk h => ?_) fun {sc e} h => ?_
  · split at h
    · simp only [Bool.and_eq_true, decide_eq_true_eq] at h
      obtain ⟨h1, h2⟩ := h
      refine (fun q => ⟨q, pt_of q fun _ => rfl⟩) (PE.imp (pe_lst (hx.kl ok tk h1)) fun σ H Q ⟨ρ, μ, F, ι, S, a⟩ => ?_)
      refine (Rd.mono (Aft.step (U := RelK) a S Ext.refl) fun vs H1 ⟨ds, μ1, F1, e1, d1, S1, r1, a⟩ hl => ?_)
      exact ⟨by rw [hl]; exact size7 h2, fun p n => (a.aftr S1 e1).newL S1.sub r1 p n⟩
    · cases h
  · split at h
    · exact fun _ _ => rfl
    · cases h
theorem se_dct : SE G N k .dct := by
  refine SE.of rfl rfl (fun {sc X W e} ok tk h => ?_) fun {sc e} h => ?_
  · split at h
    · refine (fun q => ⟨q, pt_of q fun _ => rfl⟩) (PE.imp pe_dnewK fun σ H Q ⟨ρ, μ, F, ι, S, a⟩ p n => ?_)
      have nF : F p = none := by
        cases e : F p with
        | none => rfl
        | some o => rw [S.sub _ _ e] at n; cases n
      have op : OpE F H (upd F p (.dK [])) (upd H p (.dK [])) := ⟨Same.upd nF, Same.upd n, fun b u h => by
        by_cases z : b = p
        · subst z
          rw [upd_same] at h ⊢
          exact h
        · rw [upd_ne z] at h ⊢
          exact S.sub _ _ h, fun b o h => by
        by_cases z : b = p
        · subst z
          exact .inr n
        · rw [upd_ne z] at h
          exact .inl h⟩
      exact a _ _ _ op.ext (op.sat S) ⟨.dct upd_same, trivial⟩
    · cases h
  · split at h
    · exact fun _ _ => rfl
    · cases h
theorem plainIx_of {b : Expr} (h : notSlice b = true) : PlainIx b := by
  cases b <;> first
    | exact fun _ _ => rfl
    | cases h
theorem se_idx (hx : SE G N k x) (hy : SE G N k y) : SE G N k (.idx x y) := by
  refine SE.of rfl rfl (fun {sc X W e} ok tk h => ?_) fun {sc e} h => ?_
  · split at h
    · simp only [Bool.and_eq_true] at h
      obtain ⟨⟨h1, h2⟩, h3⟩ := h
      refine (fun q => ⟨q, pt_of q fun _ => rfl⟩) (PE.imp (pe_ix ix_D (hx.e ok tk h1) (hy.e ok tk h2) (plainIx_of h3)) fun σ H Q ⟨ρ, μ, F, ι, S, a⟩ => ?_)
      refine Rd.mono (Aft.step (U := RelE) a S Ext.refl) fun v1 H1 ⟨s1, μ1, F1, e1, d1, S1, ⟨r1, n1⟩, a⟩ => ?_
      refine Rd.mono (Aft.step (U := RelE) a S1 e1) fun v2 H2 ⟨s2, μ2, F2, e2, d2, S2, ⟨r2, n2⟩, a⟩ => ?_
      obtain ⟨da, b1, a⟩ := a.look S2 (r1.mono S1 d2)
      obtain ⟨db, b2, a⟩ := a.look S2 r2
      obtain ⟨res, l3, a⟩ := a.of
      exact ⟨F2, da, db, res, S2.sub, b1, b2, l3, fun v q => a.end_ S2 e2 q⟩
    · cases h
  · split at h
    · exact fun _ _ => rfl
    · cases h
theorem se_sli (hx : SE G N k x) (hy : SE G N k y) (hz : SE G N k z) : SE G N k (.sli x y z) := by
  refine SE.of rfl rfl (fun {sc X W e} ok tk h => ?_) fun {sc e} h => ?_
  · split at h
    · simp only [Bool.and_eq_true] at h
      obtain ⟨⟨h1, h2⟩, h3⟩ := h
      refine (fun q => ⟨q, pt_of q fun _ => rfl⟩) (PE.imp (pe_slice sl_D (hx.e ok tk h1) (hy.o ok tk h2) (hz.o ok tk h3)) fun σ H Q ⟨ρ, μ, F, ι, S, a⟩ => ?_)
      refine Rd.mono (Aft.step (U := RelE) a S Ext.refl) fun v1 H1 ⟨s1, μ1, F1, e1, d1, S1, ⟨r1, n1⟩, a⟩ => ?_
      refine Rd.mono (Aft.step (U := RelO) a S1 e1) fun l H2 ⟨l', μ2, F2, e2, d2, S2, r2, a⟩ => ?_
      refine Rd.mono (Aft.step (U := RelO) a S2 e2) fun u H3 ⟨u', μ3, F3, e3, d3, S3, r3, a⟩ => ?_
      cases r2
      cases r3
      obtain ⟨da, b1, a⟩ := a.look S3 ((r1.mono S1 d2).mono S2 d3)
      obtain ⟨res, l3, a⟩ := a.of1
      exact ⟨F3, da, res, S3.sub, b1, l3, a.aftr S3 e3⟩
    · cases h
  · split at h
    · exact fun _ _ => rfl
    · cases h

/-! ### lists of expressions -/
theorem sl_nil : SL G N k .nil where
  b := fun {sc X W l} ok tk h => by
    cases l with
    | nil => exact PA.imp pa_nil fun σ H Q ⟨ρ, μ, F, ι, S, a⟩ => a [] F H Ext.refl S .nil
    | cons _ _ => cases h
  kl := fun {sc X W l} ok tk h => by
    cases l with
    | nil => exact PA.imp pa_nil fun σ H Q ⟨ρ, μ, F, ι, S, a⟩ => a [] F H Ext.refl S .nil rfl
    | cons _ _ => cases h
  aa := fun {sc X W l} ok tk h => by
    cases l with
    | nil => exact PA.imp pa_nil fun σ H Q ⟨ρ, μ, F, ι, S, a⟩ => a [] F H Ext.refl S .nil
    | cons _ _ => cases h
  bc := fun _ _ h => by cases h
  bt := fun _ _ h => by cases h
  sl := fun {sc l} h => by
    cases l with
    | nil => exact fun _ _ => rfl
    | cons _ _ => cases h
  asl := fun {sc l} h => by
    cases l with
    | nil => exact fun _ _ => rfl
    | cons _ _ => cases h
theorem nil_or_cons {sc : Scope} {l : List Expr} (h : (mt G N y).es sc l = true) : (y = .nil ∧ l = []) ∨ ∃ a b e r, y = .cons a b ∧ l = e :: r := by
  cases y with
  | nil =>
    cases l with
    | nil => exact .inl ⟨rfl, rfl⟩
    | cons _ _ => cases h
  | cons a b =>
    cases l with
    | nil => cases h
    | cons e r => exact .inr ⟨a, b, e, r, rfl, rfl⟩
  | _ => cases h
theorem es_cons {sc : Scope} {e : Expr} {l : List Expr} (h : (mt G N (.cons x y)).es sc (e :: l) = true) : (mt G N x).e sc e = true ∧ (mt G N y).es sc l = true := Bool.and_eq_true_iff.mp h
theorem as_cons {sc : Scope} {e : Expr} {l : List Expr} (h : (mt G N (.cons x y)).as sc (e :: l) = true) : (mt G N x).a sc e = true ∧ (mt G N y).as sc l = true := Bool.and_eq_true_iff.mp h
theorem nostar_cons {e : Expr} {l : List Expr} (h1 : Star1 e) (h2 : NoStar l) : NoStar (e :: l) := fun pos env => by
  rw [h1 l env]
  show (false || (backTo pos (starEach l env)).any (·.1)) = false
  rw [h2 pos env]
  rfl
theorem bc_cons2 {a b : IR} {o : BoolOp} : (den G (.cons x (.cons a b))).bc o = fun ρ μ => ((den G x).e ρ μ).bind fun v μ1 => (asB v μ1).bind fun c μ2 => match boolTail o c with
  | true => (den G (.cons a b)).bc o ρ μ2
  | false => .ok (.dat (.bool c)) μ2 := rfl
theorem sl_cons (hx : SE G N k x) (hy : SL G N k y) : SL G N k (.cons x y) where
  b := fun {sc X W l} ok tk h => by
    cases l with
    | nil => cases h
    | cons e l =>
      obtain ⟨h1, h2⟩ := es_cons h
      refine PA.imp (pa_cons (hx.e ok tk h1) (hy.b ok tk h2) (hx.st h1 _ _)) fun σ H Q ⟨ρ, μ, F, ι, S, a⟩ => ?_
      refine Rd.mono (Aft.step (U := RelE) a S Ext.refl) fun v1 H1 ⟨s1, μ1, F1, e1, d1, S1, ⟨r1, n1⟩, a⟩ => ?_
      refine Rd.mono (Aft.step (U := RelL) a S1 e1) fun vs H2 ⟨ss, μ2, F2, e2, d2, S2, r2, a⟩ => ?_
      exact a _ F2 H2 e2 S2 (.cons (r1.mono S1 d2) r2)
  kl := fun {sc X W l} ok tk h => by
    cases l with
    | nil => cases h
    | cons e l =>
      obtain ⟨h1, h2⟩ := es_cons h
      refine PA.imp (pa_cons (hx.e ok tk h1) (hy.kl ok tk h2) (hx.st h1 _ _)) fun σ H Q ⟨ρ, μ, F, ι, S, a⟩ => ?_
      refine Rd.mono (Aft.step (U := RelE) a S Ext.refl) fun v1 H1 ⟨s1, μ1, F1, e1, d1, S1, ⟨r1, n1⟩, a⟩ => ?_
      obtain ⟨d, μ2, F2, e2, sf, S2, q, a⟩ := a.keep S1 e1 r1 n1 fun _ z => z
      refine Rd.mono (Aft.step (U := RelK) a S2 e2) fun vs H3 ⟨ds, μ3, F3, e3, d3, S3, r3, a⟩ hl => ?_
      exact a (v1 :: vs) F3 H3 e3 S3 (.cons (Dt.mono d3.fs q) r3) (by simp [hl])
  aa := fun {sc X W l} ok tk h => by
    cases l with
    | nil => cases h
    | cons e l =>
      obtain ⟨h1, h2⟩ := as_cons h
      refine PA.imp (pa_cons (hx.a ok tk h1) (hy.aa ok tk h2) (hx.ast h1 _ _)) fun σ H Q ⟨ρ, μ, F, ι, S, a⟩ => ?_
      refine Rd.mono (Aft.step (U := RelAV) a S Ext.refl) fun v1 H1 ⟨s1, μ1, F1, e1, d1, S1, r1, a⟩ => ?_
      refine Rd.mono (Aft.step (U := RelA) a S1 e1) fun vs H2 ⟨ss, μ2, F2, e2, d2, S2, r2, a⟩ => ?_
      refine a _ F2 H2 e2 S2 (.cons ?_ r2)
      cases s1 with
      | dat d => exact Dt.mono d2.fs r1
      | tmp j => exact r1
      | own j => exact r1
  bc := fun {sc X W l o e p} ok tk h => by
    obtain ⟨h1, h2⟩ := es_cons h
    rcases nil_or_cons h2 with ⟨rfl, rfl⟩ | ⟨a, b, e', r, rfl, rfl⟩
    · exact pe_one (hx.e ok tk h1)
    · have hb := hy.bc (o := o) (p := p) ok tk h2
      rw [bc_cons2]
      have go : ∀ (σ : St) (H : Hp) (Q : VK), Rd X.mg W RelE (fun ρ μ => ((den G x).e ρ μ).bind fun v μ1 => (asB v μ1).bind fun c μ2 => match boolTail o c with
          | true => (den G (.cons a b)).bc o ρ μ2
          | false => .ok (.dat (.bool c)) μ2) σ H Q → Rd X.mg W RelE (den G x).e σ H fun v H1 => ∃ c, v = .bl c ∧ if boolTail o c = true then Rd X.mg W RelE ((den G (.cons a b)).bc o) σ H1 Q else Q (.bl c) H1 := by
        intro σ H Q ⟨ρ, μ, F, ι, S, q⟩
        refine Rd.mono (Aft.step (U := RelE) q S Ext.refl) fun v1 H1 ⟨s1, μ1, F1, e1, d1, S1, ⟨r1, n1⟩, q⟩ => ?_
        obtain ⟨c, ec, q2⟩ := q.asB
        clear q
        subst ec
        cases r1
        refine ⟨c, rfl, ?_⟩
        cases hc : boolTail o c with
        | true =>
          simp only [hc] at q2
          exact iteT (Aft.last q2 S1 e1 fun v F' H' s ⟨r, n⟩ => ⟨r, n.back e1.ht⟩)
        | false =>
          simp only [hc] at q2
          exact iteF (q2.end_ S1 e1 (.bl _))
      cases o with
      | And =>
        refine PE.imp (pe_and (hx.e ok tk h1) hb) fun σ H Q q => Rd.mono (go σ H Q q) fun v H1 ⟨c, e, q⟩ => ⟨c, e, ?_⟩
        cases c with
        | true => exact q
        | false => exact q
      | Or =>
        refine PE.imp (pe_or (hx.e ok tk h1) hb) fun σ H Q q => Rd.mono (go σ H Q q) fun v H1 ⟨c, e, q⟩ => ⟨c, e, ?_⟩
        cases c with
        | true => exact q
        | false => exact q
  bt := fun {sc X W l o e p} ok tk h => by
    obtain ⟨h1, h2⟩ := es_cons h
    rcases nil_or_cons h2 with ⟨rfl, rfl⟩ | ⟨a, b, e', r, rfl, rfl⟩
    · cases o with
      | And => exact pw_and1 (hx.t ok tk h1)
      | Or => exact pw_or1 (hx.t ok tk h1)
    · have hb := hy.bt (o := o) (p := p) ok tk h2
      rw [bc_cons2]
      have go : ∀ (σ : St) (H : Hp) (Q : Bool → Hp → Prop), Rd X.mg W RelB (testR fun ρ μ => ((den G x).e ρ μ).bind fun v μ1 => (asB v μ1).bind fun c μ2 => match boolTail o c with
          | true => (den G (.cons a b)).bc o ρ μ2
          | false => .ok (.dat (.bool c)) μ2) σ H Q → Rd X.mg W RelB (testR (den G x).e) σ H fun c H1 => if boolTail o c = true then Rd X.mg W RelB (testR ((den G (.cons a b)).bc o)) σ H1 Q else Q c H1 := by
        intro σ H Q ⟨ρ, μ, F, ι, S, q⟩
        have e : (testR (fun ρ μ => ((den G x).e ρ μ).bind fun v μ1 => (asB v μ1).bind fun c μ2 => match boolTail o c with
          | true => (den G (.cons a b)).bc o ρ μ2
          | false => .ok (.dat (.bool c)) μ2) ρ μ) = (testR (den G x).e ρ μ).bind fun c μ2 => match boolTail o c with
          | true => testR ((den G (.cons a b)).bc o) ρ μ2
          | false => .ok c μ2 := by
          unfold testR
          rw [R.assoc, R.assoc]
          congr 1
          funext v μ1
          rw [R.assoc]
          congr 1
          funext c μ2
          cases boolTail o c <;> rfl
        replace q := (congrArg (fun r => Aft X.mg W RelB ρ σ ι F H r Q) e).mp q
        refine Rd.mono (Aft.step (U := RelB) q S Ext.refl) fun c H1 ⟨c', μ1, F1, e1, d1, S1, r1, q⟩ => ?_
        cases r1
        cases hc : boolTail o c with
        | true =>
          simp only [hc] at q
          exact iteT (Aft.last q S1 e1 fun _ _ _ _ z => z)
        | false =>
          simp only [hc] at q
          exact iteF (q _ F1 H1 e1 S1 rfl)
      cases o with
      | And =>
        refine PW.imp (pw_and (hx.t ok tk h1) hb) fun σ H Q q => Rd.mono (go σ H Q q) fun c H1 q => ?_
        cases c with
        | true => exact q
        | false => exact q
      | Or =>
        refine PW.imp (pw_or (hx.t ok tk h1) hb) fun σ H Q q => Rd.mono (go σ H Q q) fun c H1 q => ?_
        cases c with
        | true => exact q
        | false => exact q
  sl := fun {sc l} h => by
    cases l with
    | nil => cases h
    | cons e l =>
      obtain ⟨h1, h2⟩ := es_cons h
      exact nostar_cons (hx.st h1) (hy.sl h2)
  asl := fun {sc l} h => by
    cases l with
    | nil => cases h
    | cons e l =>
      obtain ⟨h1, h2⟩ := as_cons h
      exact nostar_cons (hx.ast h1) (hy.asl h2)
end
end DL

set_option maxHeartbeats 1000000
/-! DL9: built-ins called, isinstance, calls of one's own defs. -/
namespace DL
open PySem PySem.Spec PyProof.Rows L2
section
variable {G : Ge} {N : List Str} {k : Nat} {x y z : IR}
theorem bvs_of {ρ : Rho} {μ : List Cell} {σ : St} {H F : Hp} {ι : List Addr} (S : Sat ρ μ σ H F ι) : ∀ {vs : List V} {ss : List SV} {ds : List D}, Paired (VRep F H ι) vs ss → looks μ ss = some ds → BVs F H vs ds
  | _, [], _, h, e => by
    cases h
    cases e
    exact .nil
  | _, s :: ss, _, h, e => by
    cases h with
    | cons h t =>
      unfold looks at e
      split at e
      · rename_i d ds e1 e2
        cases e
        exact .cons (h.look S e1) (bvs_of S t e2)
      · cases e
theorem boot_blt (b : Blt) : bootBuiltins (Str.ofString b.nm) = some b.val := by
  cases b <;> decide +kernel
theorem blt_in (b : Blt) : Str.ofString b.nm ∈ bltNames := by
  cases b <;> decide +kernel
theorem blt_nn (b : Blt) : Str.ofString b.nm ≠ "__name__" ∧ (Str.ofString b.nm == ("__debug__" : Str)) = false := by
  cases b <;> decide +kernel
theorem se_blt {b : Blt} (hx : SL G N k x) : SE G N k (.blt b x) := by
  refine SE.of rfl rfl (fun {sc X W e} ok tk h => ?_) fun {sc e} h => ?_
  · split at h
    · rename_i n p1 l ls p2
      simp only [Bool.and_eq_true, decide_eq_true_eq] at h
      obtain ⟨⟨rfl, h2⟩, h3⟩ := h
      have hl := (nil_or_cons h3)
      obtain ⟨a, b', e', r, rfl, e1⟩ : ∃ a b e r, x = IR.cons a b ∧ l :: ls = e :: r := by
        rcases hl with ⟨_, z⟩ | z
        · cases z
        · exact z
      cases e1
      have hs : (mt G N (.cons a b')).es sc (l :: ls) = true := h3
      have hstar : ∀ env, starEach (l :: ls) env = (false, eval l env) :: starEach ls env := fun env => by
        have q := hx.sl hs
        have := q ⟨0, 0, 0, 0⟩ env
        cases l <;> first
          | rfl
          | (exfalso; revert this; simp [starEach, backTo])
      have hno : NoStar ls := fun pos env => by
        have q := hx.sl hs pos env
        rw [hstar env] at q
        exact q
      have core : ∀ (σ : St) (H : Hp) (Q : VK), Rd X.mg W RelE (den G (.blt b (.cons a b'))).e σ H Q → tCB (rN (bltD b)) (Rd X.mg W RelL (den G (.cons a b')).b) σ H Q := by
        intro σ H Q ⟨ρ, μ, F, ι, S, q⟩
        refine Rd.mono (Aft.step (U := RelL) q S Ext.refl) fun vs H1 ⟨ss, μ1, F1, e1, d1, S1, r1, q2⟩ => ?_
        obtain ⟨ds, e2, q3⟩ := q2.of
        obtain ⟨res, e3, q4⟩ := q3.of1
        exact ⟨F1, ds, res, S1.sub, bvs_of S1 r1 e2, e3, q4.aftr S1 e1⟩
      have hm := ok.blt _ (blt_in b)
      have hc := call_blt (X := X) b ok.calm ok.grd (units70 ok)
      have hb := boot_blt b
      obtain ⟨n1, n2⟩ := blt_nn b
      have hgl := gl_of ok.hsc h2
      have hpa := hx.b ok tk hs
      have both : PE X (.Call (.Name (Str.ofString b.nm) p1) (l :: ls) [] p2) (tCB (rN (bltD b)) (Rd X.mg W RelL (den G (.cons a b')).b)) := by
        cases b with
        | int1 => exact pe_callTy hc hgl hm hb hpa n1 n2 (hstar _) (hno _ _)
        | list1 => exact pe_callTy hc hgl hm hb hpa n1 n2 (hstar _) (hno _ _)
        | tuple1 => exact pe_callTy hc hgl hm hb hpa n1 n2 (hstar _) (hno _ _)
        | len => exact pe_callB hc hgl hm hb hpa n1 n2 (hstar _) (hno _ _)
        | abs => exact pe_callB hc hgl hm hb hpa n1 n2 (hstar _) (hno _ _)
        | min2 => exact pe_callB hc hgl hm hb hpa n1 n2 (hstar _) (hno _ _)
        | max2 => exact pe_callB hc hgl hm hb hpa n1 n2 (hstar _) (hno _ _)
        | all1 => exact pe_callB hc hgl hm hb hpa n1 n2 (hstar _) (hno _ _)
        | any1 => exact pe_callB hc hgl hm hb hpa n1 n2 (hstar _) (hno _ _)
        | sum1 => exact pe_callB hc hgl hm hb hpa n1 n2 (hstar _) (hno _ _)
        | min1 => exact pe_callB hc hgl hm hb hpa n1 n2 (hstar _) (hno _ _)
        | max1 => exact pe_callB hc hgl hm hb hpa n1 n2 (hstar _) (hno _ _)
        | repr1 => exact pe_callB hc hgl hm hb hpa n1 n2 (hstar _) (hno _ _)
      exact (fun q => ⟨q, pt_of q fun _ => rfl⟩) (PE.imp both core)
    · cases h
  · split at h
    · exact fun _ _ => rfl
    · cases h

/-! ### isinstance -/
theorem BV.mono {F H H' : Hp} {v : V} {d : D} (h : BV F H v d) (s : Same H H') : BV F H' v d := by
  rcases h with h | ⟨p, vs, ds, h1, h2, h3, h4⟩
  · exact .inl h
  · exact .inr ⟨p, vs, ds, h1, h2, s _ _ h3, h4⟩
theorem tyx_of {K : PySem.W.Frag} {F H : Hp} {v : V} {d : D} (s : Same F H) (h : BV F H v d) : TyX K H v (.type (tyD d)) := by
  cases d with
  | none => rw [bv_none h]; exact .base .non
  | bool b => rw [bv_bool h]; exact .base (.bl b)
  | int i => rw [bv_int h]; exact .base (.int i)
  | str i => rw [bv_str h]; exact .base (.str i)
  | list ds =>
    obtain ⟨a, vs, rfl, h, _⟩ := bv_list s h
    rcases h with h | ⟨o, h⟩
    · exact .base (.lst h)
    · exact .base (.frz h)
  | tuple ds =>
    obtain ⟨a, vs, rfl, h, _⟩ := bv_tup s h
    rcases h with h | ⟨o, h⟩
    · exact .base (.tup h)
    · exact .fTuple h
  | dict _ =>
    obtain ⟨a, rfl, hd⟩ := bv_dict s h
    exact .base (.dK hd)
theorem kit_all (d : D) (t : Ty) : kitB (tyD d) t.nm = some (isTy d t) := by
  cases d <;> cases t <;> (simp only [tyD, Ty.nm, isTy]; decide +kernel)
theorem kit_any {K : PySem.W.Frag} (d : D) : ∀ ts : List Ty, PySem.W.kitAny K (.type (tyD d)) (ts.map fun t => .type t.nm) = some (ts.any (isTy d))
  | [] => kitAny_nil
  | t :: ts => by
    rw [List.map_cons, List.any_cons]
    refine kitAny_cons (kit_ty (kit_all d t)) (fun e => ?_) fun e => by rw [e]; rfl
    rw [e, kit_any d ts]
    rfl
theorem boot_ty (t : Ty) : bootBuiltins (Str.ofString t.nm) = some (.type t.nm) := by
  cases t <;> decide +kernel
theorem ty_in (t : Ty) : Str.ofString t.nm ∈ bltNames := by
  cases t <;> decide +kernel
theorem ty_nn (t : Ty) : Str.ofString t.nm ≠ "__name__" ∧ (Str.ofString t.nm == ("__debug__" : Str)) = false := by
  cases t <;> decide +kernel
theorem pe_ty {sc : Scope} {X : Cx} {t : Ty} {n : Str} {p : Pos} (ok : OkX G N k sc X) (h : tyNm sc t (.Name n p) = true) : PE X (.Name n p) (tC (.ty t.nm)) := by
  unfold tyNm at h
  simp only [Bool.and_eq_true, decide_eq_true_eq] at h
  obtain ⟨rfl, h⟩ := h
  obtain ⟨n1, n2⟩ := ty_nn t
  exact pe_bltn (gl_of ok.hsc h) (ok.blt _ (ty_in t)) (boot_ty t) rfl n1 n2
theorem pa_tys {sc : Scope} {X : Cx} (ok : OkX G N k sc X) : ∀ {ts : List Ty} {es : List Expr}, tyNms sc ts es = true → PA X es fun σ H Q => Q (ts.map fun t => V.ty t.nm) H
  | [], [], _ => PA.imp pa_nil fun _ _ _ q => q
  | [], _ :: _, h => by cases h
  | _ :: _, [], h => by cases h
  | t :: ts, e :: es, h => by
    unfold tyNms at h
    rw [Bool.and_eq_true] at h
    cases e with
    | Name n p => exact PA.imp (pa_cons (pe_ty ok h.1) (pa_tys ok h.2) rfl) fun _ _ _ q => q
    | _ => cases h.1
theorem tys_cls : ∀ ts : List Ty, Paired ClsV (ts.map fun t => V.ty t.nm) (ts.map fun t => Value.type t.nm)
  | [] => .nil
  | t :: ts => .cons (.ty _) (tys_cls ts)
theorem tys_len {sc : Scope} : ∀ {ts : List Ty} {es : List Expr}, tyNms sc ts es = true → ts.length = es.length
  | [], [], _ => rfl
  | [], _ :: _, h => by cases h
  | _ :: _, [], h => by cases h
  | t :: ts, e :: es, h => by
    unfold tyNms at h
    rw [Bool.and_eq_true] at h
    rw [List.length_cons, List.length_cons, tys_len h.2]
theorem se_isi {ts : List Ty} (hx : SE G N k x) : SE G N k (.isi x ts) := by
  refine SE.of rfl rfl (fun {sc X W e} ok tk h => ?_) fun {sc e} h => ?_
  · split at h
    · rename_i n p1 l t p2
      simp only [Bool.and_eq_true, decide_eq_true_eq] at h
      obtain ⟨⟨⟨rfl, h1⟩, h2⟩, h3⟩ := h
      have hm : X.mg "isinstance" = none := ok.blt _ (by decide +kernel)
      have hb : bootBuiltins "isinstance" = some (.builtin "isinstance") := by decide +kernel
      have hgl := gl_of ok.hsc h1
      have st := hx.st h2
      have start : ∀ {σ : St} {H : Hp} {Q : VK}, Rd X.mg W RelE (den G (.isi x ts)).e σ H Q → Rd X.mg W RelE (den G x).e σ H fun v H1 => ∃ F1 d, Same F1 H1 ∧ BV F1 H1 v d ∧ Aftr F1 H1 (.dat (.bool (ts.any (isTy d)))) Q := by
        intro σ H Q ⟨ρ, μ, F, ι, S, q⟩
        refine Rd.mono (Aft.step (U := RelE) q S Ext.refl) fun v H1 ⟨s1, μ1, F1, e1, d1, S1, ⟨r1, n1⟩, q2⟩ => ?_
        obtain ⟨d, b, q3⟩ := q2.look S1 r1
        exact ⟨F1, d, S1.sub, b, Aft.aftr q3 S1 e1⟩
      unfold tyEx at h3
      split at h3
      · rename_i t n p
        have ha : PA X [l, .Name n p] (tCons (Rd X.mg W RelE (den G x).e) (tCons (tC (.ty t.nm)) tNil)) := pa_cons (hx.e ok tk h2) (pa_cons (pe_ty ok h3) pa_nil rfl) (st _ _)
        refine (fun q => ⟨q, pt_of q fun _ => rfl⟩) (PE.imp (pe_callB call_isi hgl hm hb ha (by decide) (by decide) (st _ _) rfl) fun σ H Q q => Rd.mono (start q) fun v H1 ⟨F1, d, sm, b, a⟩ => ?_)
        refine ⟨v, .ty t.nm, _, _, _, rfl, .ty _, tyx_of sm b, kit_ty (kit_all d t), ?_⟩
        have := a.dat sm (.bl _)
        simpa using this
      · rename_i ts' es p1' p2'
        rw [Bool.and_eq_true, decide_eq_true_eq] at h3
        obtain ⟨h3, h4⟩ := h3
        have ha : PA X [l, .Tuple es p1' p2'] (tCons (Rd X.mg W RelE (den G x).e) (tCons (tTup fun σ H Q => Q (ts.map fun t => V.ty t.nm) H) tNil)) := pa_cons (hx.e ok tk h2) (pa_cons (pe_tup (pa_tys ok h3)) pa_nil rfl) (st _ _)
        refine (fun q => ⟨q, pt_of q fun _ => rfl⟩) (PE.imp (pe_callB call_isiT hgl hm hb ha (by decide) (by decide) (st _ _) rfl) fun σ H Q q => Rd.mono (start q) fun v H1 ⟨F1, d, sm, b, a⟩ => ?_)
        refine ⟨size7 (by rw [List.length_map]; omega), fun p n => ?_⟩
        have sf : Same H1 (upd H1 p (.tup (ts.map fun t => V.ty t.nm))) := Same.upd n
        exact ⟨v, p, _, _, _, _, rfl, upd_same, tys_cls ts, tyx_of (sm.trans sf) (b.mono sf), kit_any d ts, a (.bl _) F1 _ ⟨Same.refl F1, sf, sm.trans sf, fun _ _ z => .inl z⟩ (.bl _)⟩
      · cases h3
    · cases h
  · split at h
    · exact fun _ _ => rfl
    · cases h
theorem DtAll.rev {F : Hp} : ∀ {ds : List D} {vs : List V}, DtAll F vs ds → DtAll F vs.reverse ds.reverse
  | [], _, h => by
    cases h
    exact .nil
  | d :: ds, _, h => by
    cases h with
    | cons h1 h2 =>
      rw [List.reverse_cons, List.reverse_cons]
      exact (DtAll.rev h2).append (.cons h1 .nil)
theorem se_rev (hx : SE G N k x) : SE G N k (.rev x) := by
  refine SE.of rfl rfl (fun {sc X W e} ok tk h => ?_) fun {sc e} h => ?_
  · split at h
    · simp only [Bool.and_eq_true, decide_eq_true_eq] at h
      obtain ⟨rfl, h1⟩ := h
      refine (fun q => ⟨q, pt_of q fun _ => rfl⟩) (PE.imp (pe_revL (hx.e ok tk h1)) fun σ H Q ⟨ρ, μ, F, ι, S, a⟩ => ?_)
      refine Rd.mono (Aft.step (U := RelE) a S Ext.refl) fun v1 H1 ⟨s1, μ1, F1, e1, d1, S1, ⟨r1, n1⟩, a⟩ => ?_
      obtain ⟨da, b1, a⟩ := a.look S1 r1
      obtain ⟨res, l3, a⟩ := a.of1
      cases da with
      | list ds =>
        cases l3
        obtain ⟨l, vs, rfl, h1, a1⟩ := bv_list S1.sub b1
        exact ⟨l, vs, rfl, .inl h1, fun p n => (a.aftr S1 e1).newL S1.sub a1.rev p n⟩
      | _ => cases l3
    · cases h
  · split at h
    · exact fun _ _ => rfl
    · cases h
theorem se_fmt (hx : SE G N k x) : SE G N k (.fmt x) := by
  refine SE.of rfl rfl (fun {sc X W e} ok tk h => ?_) fun {sc e} h => ?_
  · split at h
    · simp only [Bool.and_eq_true, decide_eq_true_eq] at h
      obtain ⟨rfl, h1⟩ := h
      refine (fun q => ⟨q, pt_of q fun _ => rfl⟩) (PE.imp (pe_fmt (hx.e ok tk h1)) fun σ H Q ⟨ρ, μ, F, ι, S, a⟩ => ?_)
      refine Rd.mono (Aft.step (U := RelE) a S Ext.refl) fun v1 H1 ⟨s1, μ1, F1, e1, d1, S1, ⟨r1, n1⟩, a⟩ => ?_
      obtain ⟨da, b1, a2⟩ := a.look S1 r1
      obtain ⟨res, l3, a3⟩ := a2.of
      have a4 : Aft X.mg W RelE ρ σ ι F H (.ok (.dat (.str res)) μ1) Q := a3
      clear a a2 a3
      unfold fmtD at l3
      split at l3
      · split at l3
        · rename_i y hz
          cases l3
          exact .inl ⟨_, bv_str b1, hz, a4.end_ S1 e1 (.str _)⟩
        · cases l3
      · split at l3
        · rename_i y hz
          cases l3
          exact .inr ⟨_, bv_int b1, hz, a4.end_ S1 e1 (.str _)⟩
        · cases l3
      · cases l3
    · cases h
  · split at h
    · exact fun _ _ => rfl
    · cases h
/-- the parts of a text's list -/
def SJ (G : Ge) (N : List Str) (k : Nat) : IR → Prop
  | .cons a b => SE G N k a ∧ SJ G N k b
  | _ => True
abbrev RelS : Rel Str Str := fun _ _ _ _ x b => x = b
theorem pj_of {sc : Scope} {X : Cx} {W : WX} (ok : OkX G N k sc X) (tk : Takes X W) : ∀ {es : IR} {l : List Expr}, SJ G N k es → (mt G N es).es sc l = true → ∃ ts, PJ X l ts ∧ ∀ (acc : Str) (σ : St) (H : Hp) (Q : Str → Hp → Prop), Rd X.mg W RelS ((den G es).j acc) σ H Q → tJs ts acc σ H Q
  | es, l, hj, h => by
    rcases nil_or_cons h with ⟨rfl, rfl⟩ | ⟨a, b, e, r, rfl, rfl⟩
    · exact ⟨[], .nil, fun acc σ H Q ⟨ρ, μ, F, ι, S, a⟩ => a acc F H Ext.refl S rfl⟩
    · obtain ⟨h1, h2⟩ := es_cons h
      obtain ⟨ts, p, q⟩ := pj_of ok tk hj.2 h2
      refine ⟨_, .cons (hj.1.e ok tk h1) p, fun acc σ H Q ⟨ρ, μ, F, ι, S, a⟩ => ?_⟩
      refine Rd.mono (Aft.step (U := RelE) a S Ext.refl) fun v1 H1 ⟨s1, μ1, F1, e1, d1, S1, ⟨r1, n1⟩, a⟩ => ?_
      split at a
      · split at a
        · rename_i z hz
          cases r1
          exact ⟨z, rfl, hz, q (acc ++ z) σ H1 Q ⟨ρ, μ1, F1, ι, S1, by
            cases q : (den G b).j (acc ++ z) ρ μ1 with
            | ok w μ2 =>
              rw [q] at a
              exact fun x F' H' e2 S2 t => a x F' H' (e1.trans e2) S2 t
            | exc x μ2 =>
              rw [q] at a
              exact fun c d F' H' e2 S2 t => a c d F' H' (e1.trans e2) S2 t
            | stuck =>
              rw [q] at a
              exact a⟩⟩
        · exact a.elim
      · exact a.elim
theorem se_jst (hj : SJ G N k x) : SE G N k (.jst x) := by
  refine SE.of rfl rfl (fun {sc X W e} ok tk h => ?_) fun {sc e} h => ?_
  · split at h
    · obtain ⟨ts, p, q⟩ := pj_of ok tk hj h
      refine (fun q => ⟨q, pt_of q fun _ => rfl⟩) (PE.imp (pe_joined p) fun σ H Q ⟨ρ, μ, F, ι, S, a⟩ => ?_)
      refine q _ _ _ _ (Rd.mono (Aft.step (m := (den G x).j Str.empty) (U := RelS) a S Ext.refl) fun v1 H1 ⟨s1, μ1, F1, e1, d1, S1, r1, a⟩ => ?_)
      subst r1
      exact a.end_ S1 e1 (.str _)
    · cases h
  · split at h
    · exact fun _ _ => rfl
    · cases h
theorem strs_V {F : Hp} : ∀ {ds : List D} {ys : List Str} {vs : List V}, toStrs ds = some ys → DtAll F vs ds → vs = ys.map V.str
  | [], _, _, e, h => by
    cases h
    cases e
    rfl
  | d :: ds, _, _, e, h => by
    cases h with
    | cons h1 h2 =>
      cases d with
      | str x =>
        simp only [toStrs, Option.map_eq_some_iff] at e
        obtain ⟨ys, e, rfl⟩ := e
        cases h1
        rw [strs_V e h2]
        rfl
      | _ => simp [toStrs] at e
theorem se_joi {s : Str} (hx : SE G N k x) : SE G N k (.joi s x) := by
  refine SE.of rfl rfl (fun {sc X W e} ok tk h => ?_) fun {sc e} h => ?_
  · split at h
    · simp only [Bool.and_eq_true, decide_eq_true_eq] at h
      obtain ⟨⟨⟨rfl, rfl⟩, h1⟩, h2⟩ := h
      refine (fun q => ⟨q, pt_of q fun _ => rfl⟩) (PE.imp (pe_join pe_str (hx.e ok tk h1) (hx.st h1 [] X.env) rfl h2) fun σ H Q ⟨ρ, μ, F, ι, S, a⟩ => ?_)
      refine ⟨⟨_, rfl⟩, ?_⟩
      refine Rd.mono (Aft.step (U := RelE) a S Ext.refl) fun v1 H1 ⟨s1, μ1, F1, e1, d1, S1, ⟨r1, n1⟩, a⟩ => ?_
      obtain ⟨da, b1, a2⟩ := a.look S1 r1
      obtain ⟨res, l3, a3⟩ := a2.of
      have a4 : Aft X.mg W RelE ρ σ ι F H (.ok (.dat (.str res)) μ1) Q := a3
      clear a a2 a3
      unfold joinD at l3
      split at l3
      · split at l3
        · split at l3
          · rename_i ds ys hy hz
            cases l3
            obtain ⟨l, vs, rfl, h1, a1⟩ := bv_list S1.sub b1
            have ev := strs_V hy a1
            exact ⟨_, l, ys, rfl, rfl, .inl (.inl (by rw [← ev]; exact h1)), hz, a4.end_ S1 e1 (.str _)⟩
          · cases l3
        · cases l3
      · cases l3
    · cases h
  · split at h
    · exact fun _ _ => rfl
    · cases h
theorem dt_range {F : Hp} : ∀ (n : Nat) (lo : Nat), DtAll F ((List.range' lo n).map fun i : Nat => V.int ((0 : Int) + (i : Nat))) (rangeD (lo : Int) n)
  | 0, _ => .nil
  | n + 1, lo => by
    rw [List.range'_succ, List.map_cons]
    refine .cons ?_ (dt_range n (lo + 1))
    rw [Int.zero_add]
    exact .int _
theorem smallI_of' {i : Int} (h : smallI i = true) : -(2 ^ 62) ≤ i ∧ i < 2 ^ 62 := dec_and h
theorem se_lrg (hx : SE G N k x) : SE G N k (.lrg x) := by
  refine SE.of rfl rfl (fun {sc X W e} ok tk h => ?_) fun {sc e} h => ?_
  · split at h
    · simp only [Bool.and_eq_true, decide_eq_true_eq] at h
      obtain ⟨⟨⟨⟨rfl, rfl⟩, h1⟩, h2⟩, h3⟩ := h
      have hm1 : X.mg "list" = none := ok.blt _ (by decide +kernel)
      have hm2 : X.mg "range" = none := ok.blt _ (by decide +kernel)
      refine (fun q => ⟨q, pt_of q fun _ => rfl⟩) (PE.imp (pe_listRg ok.calm (gl_of ok.hsc h1) hm1 (prg_1 (gl_of ok.hsc h2) hm2 (hx.e ok tk h3) (hx.st h3 [] X.env)) rfl) fun σ H Q ⟨ρ, μ, F, ι, S, a⟩ => ?_)
      refine Rd.mono (Aft.step (U := RelE) a S Ext.refl) fun v1 H1 ⟨s1, μ1, F1, e1, d1, S1, ⟨r1, n1⟩, a⟩ => ?_
      obtain ⟨n, rfl, a⟩ := a.asI
      cases r1
      replace a : Aft X.mg W RelE ρ σ ι F H (if (smallI n && decide (n ≤ 10000000)) = true then .ok (.fre (rangeD 0 n.toNat)) μ1 else .stuck) Q := a
      split at a
      · rename_i hz
        obtain ⟨z1, z2⟩ := Bool.and_eq_true_iff.mp hz
        obtain ⟨z3, z4⟩ := smallI_of' z1
        have z5 := of_decide_eq_true z2
        refine ⟨n, rfl, ⟨by omega, by omega, z3, z4, by omega⟩, fun p hp => ?_⟩
        have dt := dt_range (F := F1) (n - 0).toNat 0
        rw [← List.range_eq_range', Int.sub_zero] at dt
        have := (a.aftr S1 e1).newL S1.sub dt p hp
        unfold rgV
        rw [Int.sub_zero]
        exact this
      · exact a.elim
    · cases h
  · split at h
    · exact fun _ _ => rfl
    · cases h
end
end DL

set_option maxHeartbeats 1000000
/-! DL10: calls of one's own defs. -/
namespace DL
open PySem PySem.Spec PyProof.Rows L2
section
variable {μ μ' : List Cell} {ι : List Addr} {H H' F F' : Hp}
/-- each of these stands there -/
abbrev Stands (ι : List Addr) : List Nat → List Addr → Prop := Paired fun k a => ι[k]? = some a
theorem Stands.mem : ∀ {ks : List Nat} {A : List Addr} {j : Nat} {a : Addr}, Stands ι ks A → ι[j]? = some a → j ∈ ks → a ∈ A
  | _, _, _, _, .nil, _, h => by cases h
  | _, _, j, a, .cons h t, e, m => by
    rcases List.mem_cons.mp m with rfl | m
    · rw [h] at e
      cases e
      exact List.mem_cons_self
    · exact List.mem_cons_of_mem _ (Stands.mem t e m)
theorem Stands.back (n : ι.Nodup) : ∀ {ks : List Nat} {A : List Addr} {j : Nat} {a : Addr}, Stands ι ks A → ι[j]? = some a → a ∈ A → j ∈ ks
  | _, _, _, _, .nil, _, h => by cases h
  | _, _, j, a, .cons h t, e, m => by
    rcases List.mem_cons.mp m with rfl | m
    · exact List.mem_cons.mpr (.inl (ix_inj n e h))
    · exact List.mem_cons_of_mem _ (Stands.back n t e m)
theorem Stands.sub : ∀ {ks : List Nat} {A : List Addr} {a : Addr}, Stands ι ks A → a ∈ A → a ∈ ι
  | _, _, _, .nil, h => by cases h
  | _, _, a, .cons h t, m => by
    rcases List.mem_cons.mp m with rfl | m
    · exact List.mem_of_getElem? h
    · exact Stands.sub t m
theorem wback_len : ∀ (ks : List Nat) (cs : List (List D)) (μ : List Cell), (wback ks cs μ).length = μ.length
  | [], _, _ => rfl
  | _ :: _, [], _ => rfl
  | k :: ks, ds :: cs, μ => by
    simp only [wback]
    rw [wback_len ks cs]
    split <;> simp
theorem wback_other : ∀ (ks : List Nat) (cs : List (List D)) (μ : List Cell) {j : Nat}, j ∉ ks → (wback ks cs μ)[j]? = μ[j]?
  | [], _, _, _, _ => rfl
  | _ :: _, [], _, _, _ => rfl
  | k :: ks, ds :: cs, μ, j, h => by
    simp only [wback]
    rw [wback_other ks cs _ (fun m => h (List.mem_cons_of_mem _ m))]
    have ne : k ≠ j := fun z => h (z ▸ List.mem_cons_self)
    split
    · rw [List.getElem?_set_ne ne]
    · rfl
/-- what comes back in the place of a list that was lent -/
theorem wback_mem : ∀ {ks : List Nat} {A : List Addr} {cs : List (List D)} {μ : List Cell} {j : Nat} {a : Addr} {c : Cell}, Stands ι ks A → ks.Nodup → Backs H F A cs → j ∈ ks → ι[j]? = some a → (wback ks cs μ)[j]? = some c →
    ∃ xs c0, μ[j]? = some c0 ∧ c.st = c0.st.op ∧ H a = some (.lst xs) ∧ F a = none ∧ DtAll F xs c.ds ∧ c.ds ∈ cs
  | _, _, _, _, _, _, _, .nil, _, _, m, _, _ => by cases m
  | k :: ks, _, _, μ, j, a, c, .cons h t, nd, .cons b1 b2 b3 b4, m, e, g => by
    rw [List.nodup_cons] at nd
    simp only [wback] at g
    by_cases z : j = k
    · subst z
      rw [wback_other ks _ _ nd.1] at g
      rw [h] at e
      cases e
      cases q : μ[j]? with
      | none =>
        rw [q] at g
        simp only at g
        rw [q] at g
        cases g
      | some c0 =>
        rw [q] at g
        simp only at g
        rw [List.getElem?_set_self (List.getElem?_eq_some_iff.mp q).1] at g
        cases g
        exact ⟨_, c0, rfl, rfl, b1, b2, b3, List.mem_cons_self⟩
    · have m' : j ∈ ks := (List.mem_cons.mp m).resolve_left z
      obtain ⟨xs, c0, q1, q2, q3, q4, q5, q6⟩ := wback_mem t nd.2 b4 m' e g
      refine ⟨xs, c0, ?_, q2, q3, q4, q5, List.mem_cons_of_mem _ q6⟩
      split at q1
      · rw [List.getElem?_set_ne (Ne.symm z)] at q1
        exact q1
      · exact q1
theorem froze_spec {k : Nat} {ds : List D} (h : froze k μ = some (ds, μ')) : μ'.length = μ.length ∧ (∃ c, μ[k]? = some c ∧ c.st ≠ .arg ∧ c.st ≠ .nest ∧ μ'[k]? = some ⟨.froz, c.ds⟩) ∧ ∀ j, j ≠ k → μ'[j]? = μ[j]? := by
  unfold froze at h
  split at h
  · rename_i c e
    obtain ⟨st, cs⟩ := c
    cases st with
    | arg => cases h
    | nest => cases h
    | live =>
      cases h
      exact ⟨by simp, ⟨_, e, by simp, by simp, List.getElem?_set_self (List.getElem?_eq_some_iff.mp e).1⟩, fun j z => List.getElem?_set_ne (Ne.symm z)⟩
    | froz =>
      cases h
      exact ⟨rfl, ⟨_, e, by simp, by simp, e⟩, fun _ _ => rfl⟩
  · cases h
theorem frozes_spec : ∀ {ks : List Nat} {μ μ' : List Cell}, frozes ks μ = some μ' → μ'.length = μ.length ∧ (∀ k ∈ ks, ∃ c, μ[k]? = some c ∧ c.st ≠ .arg ∧ c.st ≠ .nest ∧ μ'[k]? = some ⟨.froz, c.ds⟩) ∧ ∀ j, j ∉ ks → μ'[j]? = μ[j]?
  | [], μ, μ', h => by
    cases h
    exact ⟨rfl, fun _ m => (nomatch m), fun _ _ => rfl⟩
  | k :: ks, μ, μ', h => by
    unfold frozes at h
    split at h
    · rename_i μ1 e
      obtain ⟨l1, ⟨c, a1, a2, a2n, a3⟩, b1⟩ := froze_spec e
      obtain ⟨l2, a4, b2⟩ := frozes_spec h
      refine ⟨l2.trans l1, fun j m => ?_, fun j m => ?_⟩
      · by_cases z : j ∈ ks
        · obtain ⟨c', q1, q2, q2n, q3⟩ := a4 j z
          by_cases y : j = k
          · subst y
            rw [a3] at q1
            cases q1
            exact ⟨c, a1, a2, a2n, q3⟩
          · rw [b1 j y] at q1
            exact ⟨c', q1, q2, q2n, q3⟩
        · have y : j = k := (List.mem_cons.mp m).resolve_right z
          subst y
          exact ⟨c, a1, a2, a2n, (b2 j z).trans a3⟩
      · exact (b2 j fun z => m (List.mem_cons_of_mem _ z)).trans (b1 j fun z => m (List.mem_cons.mpr (.inl z)))
    · cases h
end
section
variable {ρ : Rho} {μ : List Cell} {σ : St} {H F : Hp} {ι : List Addr}
/-- the data of a def's call: what is lent stands among it -/
def lent (F H : Hp) (ι : List Addr) (ts : List Nat) : Hp := fun b => if (ts.any fun k => decide (ι[k]? = some b)) = true then H b else F b
theorem lent_in {ts : List Nat} {k : Nat} {b : Addr} (h : k ∈ ts) (e : ι[k]? = some b) : lent F H ι ts b = H b := by
  unfold lent
  rw [if_pos (List.any_eq_true.mpr ⟨k, h, decide_eq_true e⟩)]
theorem lent_out {ts : List Nat} {b : Addr} (h : ∀ k ∈ ts, ι[k]? ≠ some b) : lent F H ι ts b = F b := by
  unfold lent
  rw [if_neg]
  intro z
  obtain ⟨k, m, e⟩ := List.any_eq_true.mp z
  exact h k m (of_decide_eq_true e)
theorem lent_or {ts : List Nat} (b : Addr) : (∃ k ∈ ts, ι[k]? = some b) ∨ ∀ k ∈ ts, ι[k]? ≠ some b := by
  by_cases h : ∃ k ∈ ts, ι[k]? = some b
  · exact .inl h
  · exact .inr fun k m e => h ⟨k, m, e⟩
theorem lent_up (s : Same F H) {ts : List Nat} : Same F (lent F H ι ts) := fun b o h => by
  rcases lent_or (ι := ι) (ts := ts) b with ⟨k, m, e⟩ | z
  · rw [lent_in m e]
    exact s b o h
  · rw [lent_out z]
    exact h
theorem lent_sub (s : Same F H) {ts : List Nat} : Same (lent F H ι ts) H := fun b o h => by
  rcases lent_or (ι := ι) (ts := ts) b with ⟨k, m, e⟩ | z
  · rw [lent_in m e] at h
    exact h
  · rw [lent_out z] at h
    exact s b o h
theorem args_ok (S : Sat ρ μ σ H F ι) {ts : List Nat} : ∀ {vs : List V} {avs : List AV} {as : List Arg}, Paired (AvRep F ι) vs avs → avArgs μ avs = some as → (owns avs).Nodup → (∀ j ∈ owns avs, j ∉ ts) → (∀ j ∈ tmps avs, j ∈ ts) →
    ∃ A, ArgsRep H (lent F H ι ts) vs as A ∧ Stands ι (owns avs) A
  | _, [], _, h, e, _, _, _ => by
    cases h
    cases e
    exact ⟨[], .nil, .nil⟩
  | _, v :: avs, _, h, e, nd, h1, h2 => by
    cases h with
    | cons r t =>
      unfold avArgs at e
      split at e
      · rename_i d ds e1 e2
        cases e
        cases v with
        | dat x =>
          cases e1
          obtain ⟨A, a1, a2⟩ := args_ok S t e2 nd h1 h2
          exact ⟨A, .dat (Dt.mono (lent_up S.sub) r) a1, a2⟩
        | tmp j =>
          simp only [AV.arg] at e1
          obtain ⟨a, q, rfl⟩ := r
          split at e1
          · rename_i c ec
            split at e1
            · cases e1
            rename_i nn
            cases e1
            obtain ⟨A, a1, a2⟩ := args_ok S t e2 nd h1 fun i m => h2 i (List.mem_cons_of_mem _ m)
            obtain ⟨xs, c1, c2, _⟩ := S.cell j a c q ec
            replace c2 := c2.dt nn
            exact ⟨A, .dat (.lst (Rd.of ((lent_in (h2 j List.mem_cons_self) q).trans c1)) (DtAll.mono (lent_up S.sub) c2)) a1, a2⟩
          · cases e1
        | own j =>
          simp only [AV.arg] at e1
          obtain ⟨a, q, rfl⟩ := r
          split at e1
          · rename_i c ec
            split at e1
            · cases e1
            · rename_i nf
              cases e1
              have nd' : (j :: owns avs).Nodup := nd
              rw [List.nodup_cons] at nd'
              obtain ⟨A, a1, a2⟩ := args_ok S t e2 nd'.2 (fun i m => h1 i (List.mem_cons_of_mem _ m)) h2
              obtain ⟨xs, c1, c2, _, c3⟩ := S.cell j a c q ec
              obtain ⟨nf, nn⟩ := shut_froz nf
              replace c2 := c2.dt nn
              have out : ∀ i ∈ ts, ι[i]? ≠ some a := fun i m z => h1 j List.mem_cons_self (ix_inj S.nod z q ▸ m)
              exact ⟨a :: A, .own c1 ((lent_out out).trans (c3 nf)) (DtAll.mono (lent_up S.sub) c2) (fun m => nd'.1 (a2.back S.nod q m)) a1, .cons q a2⟩
          · cases e1
      · cases e
/-- behind a call, where what was lent goes on being one's own -/
def unlent (F F' : Hp) (ι : List Addr) (ts : List Nat) : Hp := fun b => if (ts.any fun k => decide (ι[k]? = some b)) = true then F b else F' b
theorem unlent_in {F' : Hp} {ts : List Nat} {k : Nat} {b : Addr} (h : k ∈ ts) (e : ι[k]? = some b) : unlent F F' ι ts b = F b := by
  unfold unlent
  rw [if_pos (List.any_eq_true.mpr ⟨k, h, decide_eq_true e⟩)]
theorem unlent_out {F' : Hp} {ts : List Nat} {b : Addr} (h : ∀ k ∈ ts, ι[k]? ≠ some b) : unlent F F' ι ts b = F' b := by
  unfold unlent
  rw [if_neg]
  intro z
  obtain ⟨k, m, e⟩ := List.any_eq_true.mp z
  exact h k m (of_decide_eq_true e)
/-- the call's end: the state of the caller -/
theorem call_sat1 {A : List Addr} {F' H' : Hp} {ks ts : List Nat} {cs : List (List D)} (S : Sat ρ μ σ H F ι) (hts : ∀ k ∈ ts, ∃ c, μ[k]? = some c) (st : Stands ι ks A) (nd : ks.Nodup) (dj : ∀ j ∈ ks, j ∉ ts)
    (e : Ext A (lent F H ι ts) H F' H') (s : Same F' H') (b : Backs H' F' A cs) (nl : cs.all noLists = true) :
    Ext ι F H (unlent F F' ι ts) H' ∧ Sat ρ (wback ks cs μ) σ H' (unlent F F' ι ts) ι ∧ TupSub F' (unlent F F' ι ts) := by
  have Fl : Same F F' := (lent_up S.sub).trans e.fs
  have inH : ∀ {k : Nat} {a : Addr}, k ∈ ts → ι[k]? = some a → ∃ xs, H a = some (.lst xs) ∧ F' a = some (.lst xs) := fun {k a} m q => by
    obtain ⟨c, ec⟩ := hts k m
    obtain ⟨xs, c1, _⟩ := S.cell k a c q ec
    exact ⟨xs, c1, e.fs _ _ ((lent_in m q).trans c1)⟩
  have up : Same F (unlent F F' ι ts) := fun a o h => by
    rcases lent_or (ι := ι) (ts := ts) a with ⟨k, m, q⟩ | z
    · rw [unlent_in m q]
      exact h
    · rw [unlent_out z]
      exact Fl a o h
  have dn : Same (unlent F F' ι ts) F' := fun a o h => by
    rcases lent_or (ι := ι) (ts := ts) a with ⟨k, m, q⟩ | z
    · rw [unlent_in m q] at h
      exact Fl a o h
    · rw [unlent_out z] at h
      exact h
  have ts' : TupSub F' (unlent F F' ι ts) := fun a xs h => by
    rcases lent_or (ι := ι) (ts := ts) a with ⟨k, m, q⟩ | z
    · obtain ⟨ys, _, c2⟩ := inH m q
      rcases h with h | ⟨o, h⟩
      · rw [c2] at h
        cases h
      · rw [c2] at h
        cases h
    · rcases h with h | ⟨o, h⟩
      · exact .inl ((unlent_out z).trans h)
      · exact .inr ⟨o, (unlent_out z).trans h⟩
  refine ⟨⟨up, fun a o h n => e.hs a o h fun m => n (st.sub m), e.ht, fun a o h => ?_⟩, ⟨dn.trans s, by rw [wback_len]; exact S.len, S.nod, fun j a c q g => ?_, S.slen, fun i sv h => ?_⟩, ts'⟩
  · rcases e.new a o (dn a o h) with h' | h' | h'
    · rcases lent_or (ι := ι) (ts := ts) a with ⟨k, m, q⟩ | z
      · exact .inr (.inr (List.mem_of_getElem? q))
      · rw [lent_out z] at h'
        exact .inl h'
    · exact .inr (.inl h')
    · exact .inr (.inr (st.sub h'))
  · by_cases m : j ∈ ks
    · obtain ⟨xs, c0, q1, q2, q3, q4, q5, q6⟩ := wback_mem st nd b m q g
      have out : ∀ i ∈ ts, ι[i]? ≠ some a := fun i y z => dj j m (ix_inj S.nod z q ▸ y)
      obtain ⟨_, _, _, f1, _⟩ := S.cell j a c0 q q1
      refine ⟨xs, q3, Its.of (by rw [q2]; exact op_nest _) (DtAll.noL ts' (List.all_eq_true.mp nl _ q6) q5), fun z => ?_, fun _ => (unlent_out out).trans q4⟩
      rw [q2, op_froz] at z
      have := Fl _ _ (f1 z)
      rw [q4] at this
      cases this
    · rw [wback_other ks cs μ m] at g
      obtain ⟨xs, c1, c2, f1, f2⟩ := S.cell j a c q g
      have nA : a ∉ A := fun y => m (st.back S.nod q y)
      refine ⟨xs, e.hs a _ c1 nA, Its.mono up c2, fun z => up _ _ (f1 z), fun z => ?_⟩
      rcases lent_or (ι := ι) (ts := ts) a with ⟨k, y, q'⟩ | y
      · exact (unlent_in y q').trans (f2 z)
      · rw [unlent_out y]
        cases w : F' a with
        | none => rfl
        | some o =>
          rcases e.new a o w with h' | h' | h'
          · rw [lent_out y, f2 z] at h'
            cases h'
          · rw [c1] at h'
            cases h'
          · exact absurd h' nA
  · obtain ⟨v, h1, h2⟩ := S.slot i sv h
    refine ⟨v, h1, ?_⟩
    cases sv with
    | dat d => exact Dt.mono up h2
    | own _ => exact h2
    | fre _ => exact h2
    | nst _ => exact h2
    | frn _ => exact h2
theorem call_sat2 {A : List Addr} {F' H' : Hp} {ks ts : List Nat} {cs : List (List D)} {μ' : List Cell} (S : Sat ρ μ σ H F ι) (st : Stands ι ks A) (nd : ks.Nodup) (dj : ∀ j ∈ ks, j ∉ ts)
    (e : Ext A (lent F H ι ts) H F' H') (s : Same F' H') (b : Backs H' F' A cs) (fz : frozes ts (wback ks cs μ) = some μ') :
    Ext ι F H F' H' ∧ Sat ρ μ' σ H' F' ι := by
  have Fl : Same F F' := (lent_up S.sub).trans e.fs
  obtain ⟨l, z1, z2⟩ := frozes_spec fz
  refine ⟨⟨Fl, fun a o h n => e.hs a o h fun m => n (st.sub m), e.ht, fun a o h => ?_⟩, ⟨s, by rw [l, wback_len]; exact S.len, S.nod, fun j a c q g => ?_, S.slen, fun i sv h => ?_⟩⟩
  · rcases e.new a o h with h' | h' | h'
    · rcases lent_or (ι := ι) (ts := ts) a with ⟨k, m, q⟩ | z
      · exact .inr (.inr (List.mem_of_getElem? q))
      · rw [lent_out z] at h'
        exact .inl h'
    · exact .inr (.inl h')
    · exact .inr (.inr (st.sub h'))
  · by_cases t : j ∈ ts
    · obtain ⟨c1, g1, _, gn, g2⟩ := z1 j t
      rw [g2] at g
      cases g
      have m : j ∉ ks := fun m => dj j m t
      rw [wback_other ks cs μ m] at g1
      obtain ⟨xs, c2, c3, _, _⟩ := S.cell j a c1 q g1
      have nA : a ∉ A := fun y => m (st.back S.nod q y)
      exact ⟨xs, e.hs a _ c2 nA, Its.of (fun z => nomatch z) (DtAll.mono Fl (c3.dt gn)), fun _ => e.fs _ _ ((lent_in t q).trans c2), fun z => absurd rfl z⟩
    · rw [z2 j t] at g
      have out : ∀ i ∈ ts, ι[i]? ≠ some a := fun i y z => t (ix_inj S.nod z q ▸ y)
      by_cases m : j ∈ ks
      · obtain ⟨xs, c0, q1, q2, q3, q4, q5, q6⟩ := wback_mem st nd b m q g
        obtain ⟨_, _, _, f1, _⟩ := S.cell j a c0 q q1
        refine ⟨xs, q3, Its.of (by rw [q2]; exact op_nest _) q5, fun z => ?_, fun _ => q4⟩
        rw [q2, op_froz] at z
        have := Fl _ _ (f1 z)
        rw [q4] at this
        cases this
      · rw [wback_other ks cs μ m] at g
        obtain ⟨xs, c1, c2, f1, f2⟩ := S.cell j a c q g
        have nA : a ∉ A := fun y => m (st.back S.nod q y)
        refine ⟨xs, e.hs a _ c1 nA, Its.mono Fl c2, fun z => Fl _ _ (f1 z), fun z => ?_⟩
        cases w : F' a with
        | none => rfl
        | some o =>
          rcases e.new a o w with h' | h' | h'
          · rw [lent_out out, f2 z] at h'
            cases h'
          · rw [c1] at h'
            cases h'
          · exact absurd h' nA
  · obtain ⟨v, h1, h2⟩ := S.slot i sv h
    refine ⟨v, h1, ?_⟩
    cases sv with
    | dat d => exact Dt.mono Fl h2
    | own _ => exact h2
    | fre _ => exact h2
    | nst _ => exact h2
    | frn _ => exact h2
end
end DL

set_option maxHeartbeats 1000000
/-! DL11: a call of one's own def as an expression. -/
namespace DL
open PySem PySem.Spec PyProof.Rows L2
theorem run_gfn {X : Cx} {k : Nat} {f : Addr} {fd : FuncData} {ps : List Str} {sp : Sp} {pins : List (Addr × Obj)} {σ : St} {H : Hp} {s : Shared} {Q : VK} {E : XK} {us : List Value} {vs : List V}
    (g : GFn X.prog X.w X.K X.mg X.base k f fd ps sp) (hg : X.A.guards = some []) (hr : Room k X.A) (hb : Binds X.K fd ps []) (hx : PassesAt (L2.CX X.prog X.w) X σ E) (I : Inv X pins σ H s) (r : Vals vs us) (hl : vs.length = ps.length) (h : sp vs H Q E) :
    wpAny (model X.prog X.w) X.A (call (.ref f) us) (EP X pins σ Q) X.xe s := by
  have bound : BindsTo s fd ⟨us, []⟩ (ps.zip us) := by
    have q := hb s us I.kIn (by rw [List.append_nil, ← r.length]; exact hl)
    rwa [List.append_nil] at q
  refine wpAny_call (codeAny_mono (g.run X.A X.stack s H ⟨us, []⟩ us vs Q E hg hr I.env0 bound r h hl) fun z s' hz => ?_)
  match z, hz with
  | .error e, hz => exact hx pins H s e s' I hz
  | .ok (.ret u), hz => exact I.after hz
  | .ok .next, hz => exact hz.elim
  | .ok .brk, hz => exact hz.elim
  | .ok .cont, hz => exact hz.elim
section
variable {ρ : Rho} {μ : List Cell} {σ : St} {H F : Hp} {ι : List Addr}
theorem tmps_in : ∀ {avs : List AV} {as : List Arg}, avArgs μ avs = some as → ∀ k ∈ tmps avs, ∃ c, μ[k]? = some c
  | [], _, _, _, m => by cases m
  | v :: avs, _, e, k, m => by
    unfold avArgs at e
    split at e
    · rename_i d ds e1 e2
      cases v with
      | dat x => exact tmps_in e2 k m
      | own j => exact tmps_in e2 k m
      | tmp j =>
        rcases List.mem_cons.mp m with rfl | m
        · simp only [AV.arg] at e1
          split at e1
          · exact ⟨_, by assumption⟩
          · cases e1
        · exact tmps_in e2 k m
    · cases e
theorem disj_of {as bs : List Nat} (h : disj as bs = true) : ∀ j ∈ as, j ∉ bs := fun j m z => by
  have q := List.all_eq_true.mp h j m
  have : bs.contains j = true := List.contains_iff_mem.mpr z
  rw [this] at q
  cases q
theorem args_len : ∀ {vs : List V} {as : List Arg} {A : List Addr}, ArgsRep H F vs as A → vs.length = as.length
  | _, _, _, .nil => rfl
  | _, _, _, .dat _ t => by rw [List.length_cons, List.length_cons, args_len t]
  | _, _, _, .own _ _ _ _ t => by rw [List.length_cons, List.length_cons, args_len t]
theorem fld_noL {F' : Hp} (e : TupSub F F') : ∀ {fs : List (Str × V)} {gs : List (Str × D)}, noLists (gs.map (·.2)) = true → FldRep F fs gs → FldRep F' fs gs
  | _, [], _, h => by
    cases h
    exact .nil
  | _, g :: gs, n, h => by
    simp only [List.map_cons, noLists, Bool.and_eq_true] at n
    cases h with
    | cons h t => exact .cons ⟨h.1, Dt.noL e n.1 h.2⟩ (fld_noL e n.2 t)
/-- the call's function on data, against the def's promise -/
theorem call_rd {mg : Str → Option Value} {W : WX} {c : Ce} {avs : List AV} {vs : List V} {F0 H0 : Hp} {Q : VK}
    (a : Aft mg W RelE ρ σ ι F0 H0 (callR c avs μ) Q) (S : Sat ρ μ σ H F ι) (e0 : Ext ι F0 H0 F H) (r : Paired (AvRep F ι) vs avs) : spOf mg c.sem vs H Q (WE W σ) ∧ avs.length = c.arity := by
  unfold callR at a
  split at a
  · rename_i cond
    obtain ⟨nd, dj, ar⟩ := cond
    have dj := disj_of dj
    refine ⟨?_, ar⟩
    split at a
    · exact a.elim
    · rename_i as eas
      obtain ⟨A, h1, h2⟩ := args_ok S (ts := tmps avs) r eas nd dj fun _ m => m
      have hts := tmps_in eas
      split at a
      · exact a.elim
      · rename_i rv cs eo
        split at a
        · refine ⟨lent F H ι (tmps avs), as, A, _, lent_sub S.sub, h1, eo, fun v F' H' e s b q => ?_⟩
          split at a
          · rename_i nl
            rw [Bool.and_eq_true] at nl
            obtain ⟨x1, x2, x3⟩ := call_sat1 S hts h2 nd dj e s b nl.2
            refine a v _ H' (e0.trans x1) x2 ?_
            cases rv with
            | dat d => exact ⟨Dt.noL x3 nl.1 q, trivial⟩
            | fre ds =>
              obtain ⟨p, ws, rfl, q1, q2, q3, q4, q5⟩ := q
              refine ⟨⟨p, ws, rfl, q2, ?_, S.notIn q1, DtAll.noL x3 nl.1 q5⟩, fun p' z => ?_⟩
              · cases w : unlent F F' ι (tmps avs) p with
                | none => rfl
                | some o =>
                  rcases x1.new p o w with y | y | y
                  · have := S.sub _ _ y
                    rw [q1] at this
                    cases this
                  · rcases lent_or (ι := ι) (ts := tmps avs) p with ⟨k, m, z⟩ | z
                    · exact absurd (List.mem_of_getElem? z) (S.notIn q1)
                    · rw [unlent_out z, q3] at w
                      cases w
                  · exact absurd y (S.notIn q1)
              · cases z
                exact e0.ht _ q1
          · split at a
            · rename_i μ' fz
              obtain ⟨x1, x2⟩ := call_sat2 S h2 nd dj e s b fz
              refine a v F' H' (e0.trans x1) x2 ?_
              cases rv with
              | dat d => exact ⟨q, trivial⟩
              | fre ds =>
                obtain ⟨p, ws, rfl, q1, q2, q3, q4, q5⟩ := q
                refine ⟨⟨p, ws, rfl, q2, q3, S.notIn q1, q5⟩, fun p' z => ?_⟩
                cases z
                exact e0.ht _ q1
            · exact a.elim
        · exact a.elim
      · rename_i xn cs eo
        split at a
        · refine ⟨lent F H ι (tmps avs), as, A, _, lent_sub S.sub, h1, eo, fun cl d F' H' e s b q => ?_⟩
          split at a
          · rename_i nl
            rw [Bool.and_eq_true] at nl
            obtain ⟨x1, x2, x3⟩ := call_sat1 S hts h2 nd dj e s b nl.2
            refine a cl d _ H' (e0.trans x1) x2 ⟨q.1, ?_⟩
            rcases q.2 with q | ⟨dd, fs, q1, q2, q3, q4⟩
            · exact .inl q
            · exact .inr ⟨dd, fs, q1, q2, q3, fld_noL x3 nl.1 q4⟩
          · split at a
            · rename_i μ' fz
              obtain ⟨x1, x2⟩ := call_sat2 S h2 nd dj e s b fz
              exact a cl d F' H' (e0.trans x1) x2 q
            · exact a.elim
        · exact a.elim
  · exact a.elim
end
section
variable {G : Ge} {N : List Str} {k : Nat} {x y z : IR}
theorem paired_len {α β : Type} {R : α → β → Prop} : ∀ {xs : List α} {ys : List β}, Paired R xs ys → xs.length = ys.length := fun h => Paired.length h
theorem as_ne {sc : Scope} {l : Expr} {ls : List Expr} (h : (mt G N x).as sc (l :: ls) = true) : ∃ a b, x = IR.cons a b := by
  cases x with
  | cons a b => exact ⟨a, b, rfl⟩
  | _ => cases h
theorem se_cal {j : Nat} (hx : SL G N k x) : SE G N k (.cal j x) := by
  refine SE.of rfl rfl (fun {sc X W e} ok tk h => ?_) fun {sc e} h => ?_
  · split at h
    · rename_i n p1 l ls p2
      simp only [Bool.and_eq_true] at h
      obtain ⟨⟨⟨h1, h2⟩, h3⟩, h4⟩ := h
      cases hc : G.ces[j]? with
      | none =>
        rw [hc] at h1
        cases h1
      | some c =>
        rw [hc] at h1
        have h1 := of_decide_eq_true h1
        subst h1
        obtain ⟨f, fd, ps, g, el, hm, hk, hb⟩ := (ok.cal c (List.mem_of_getElem? hc)).ex
        have hstar : ∀ env, starEach (l :: ls) env = (false, eval l env) :: starEach ls env := fun env => by
          have := hx.asl h4 ⟨0, 0, 0, 0⟩ env
          cases l <;> first
            | rfl
            | (exfalso; revert this; simp [starEach, backTo])
        have hno : NoStar ls := fun pos env => by
          have q := hx.asl h4 pos env
          rw [hstar env] at q
          exact q
        have run : PE X (.Call (.Name c.name p1) (l :: ls) [] p2) fun σ H Q => Rd X.mg W RelA (den G x).a σ H fun vs H1 => vs.length = ps.length ∧ spOf X.mg c.sem vs H1 Q (WE W σ) := by
          refine ⟨fun pins s σ H Q I h => ?_⟩
          refine wpAny_Call_Name_kw (ld_glob I (gl_of ok.hsc h2) hm ?_ (okName_of h3).1)
          refine PySem.W.callWith_K (h₀ := X.base) I.ok.mod.kin hk (thn ((hx.aa ok tk h4).run p2 pins s σ H _ I h) fun us s1 ⟨vs, H1, I1, r, q1, q2⟩ => ⟨I1.kIn, ?_⟩) (hstar _) (hno _ _)
          exact run_gfn g ok.grd ok.room hb (passAt tk σ) I1 r q1 q2
        refine (fun q => ⟨q, pt_of q fun _ => rfl⟩) (PE.imp run fun σ H Q ⟨ρ, μ, F, ι, S, a⟩ => ?_)
        simp only [hc] at a
        refine Rd.mono (Aft.step (U := RelA) a S Ext.refl) fun vs H1 ⟨avs, μ1, F1, e1, d1, S1, r1, a2⟩ => ?_
        obtain ⟨q1, q2⟩ := call_rd a2 S1 e1 r1
        exact ⟨by rw [paired_len r1, q2, el], q1⟩
    · cases h
  · split at h
    · exact fun _ _ => rfl
    · cases h
end
end DL

set_option maxHeartbeats 1000000
/-! DL12: what loops run over. -/
namespace DL
open PySem PySem.Spec PyProof.Rows L2
/-- an iterator that gives the items of ds, one by one, whatever else goes on -/
structure WalkD (J : It) (F0 : Hp) (ds : List D) : Prop where
  goes : ∀ F H i d, Same F0 F → Same F H → ds[i]? = some d → J.go i H
  stops : ∀ F H, Same F0 F → Same F H → J.stop ds.length H
  yields : ∀ F H i d x H', Same F0 F → Same F H → ds[i]? = some d → J.yld i H x H' → ∃ F', OpE F H F' H' ∧ Dt F' x d
abbrev RelI : Rel It (List D) := fun _ F' _ _ J ds => WalkD J F' ds
structure SI (G : Ge) (N : List Str) (k : Nat) (ir : IR) : Prop where
  p : ∀ {sc : Scope} {X : Cx} {W : WX} {tg x : Expr}, OkX G N k sc X → Takes X W → (mt G N ir).i sc tg x = true → PI X tg x fun σ H R => Rd X.mg W RelI (den G ir).i σ H R
  fs : ∀ {sc : Scope} {tg x : Expr}, (mt G N ir).i sc tg x = true → ∀ env v, foldedSetIterable x env v = pure v
section
variable {G : Ge} {N : List Str} {k : Nat} {x y z : IR}
theorem WalkD.list {K : PySem.W.Frag} {a : Addr} {xs : List V} {F : Hp} {ds : List D} (h : L2.Rd F a (.lst xs)) (q : DtAll F xs ds) : WalkD (Itl K a) F ds where
  goes := fun F' H i d s1 s2 e => by
    obtain ⟨v, hv, _⟩ := q.get e
    exact ⟨xs, v, .inl (Same.rd s2 (Same.rd s1 h)), hv⟩
  stops := fun F' H s1 s2 => ⟨xs, .inl (Same.rd s2 (Same.rd s1 h)), by rw [q.length]; exact Nat.le_refl _⟩
  yields := fun F' H i d x H' s1 s2 e y => by
    obtain ⟨rfl, y⟩ := y
    obtain ⟨v, hv, t⟩ := q.get e
    have := y xs (.inl (Same.rd s2 (Same.rd s1 h)))
    rw [hv] at this
    cases this
    exact ⟨F', OpE.refl s2, Dt.mono s1 t⟩
theorem WalkD.tup {K : PySem.W.Frag} {a : Addr} {xs : List V} {F : Hp} {ds : List D} (h : L2.Rd F a (.tup xs)) (q : DtAll F xs ds) : WalkD (Itt K a) F ds where
  goes := fun F' H i d s1 s2 e => by
    obtain ⟨v, hv, _⟩ := q.get e
    exact ⟨xs, v, .inl (Same.rd s2 (Same.rd s1 h)), hv⟩
  stops := fun F' H s1 s2 => ⟨xs, .inl (Same.rd s2 (Same.rd s1 h)), by rw [q.length]; exact Nat.le_refl _⟩
  yields := fun F' H i d x H' s1 s2 e y => by
    obtain ⟨rfl, y⟩ := y
    obtain ⟨v, hv, t⟩ := q.get e
    have := y xs (.inl (Same.rd s2 (Same.rd s1 h)))
    rw [hv] at this
    cases this
    exact ⟨F', OpE.refl s2, Dt.mono s1 t⟩
theorem rangeC_len (c : Int) : ∀ (n : Nat) (lo : Int), (rangeC lo c n).length = n
  | 0, _ => rfl
  | n + 1, lo => by simp [rangeC, rangeC_len c n]
theorem rangeC_get (c : Int) : ∀ (n : Nat) (lo : Int) (i : Nat) (d : D), (rangeC lo c n)[i]? = some d → i < n ∧ d = .int (lo + (i : Nat) * c)
  | 0, _, _, _, h => by simp [rangeC] at h
  | n + 1, lo, 0, d, h => by
    simp [rangeC] at h
    exact ⟨by omega, by rw [← h]; simp⟩
  | n + 1, lo, i + 1, d, h => by
    obtain ⟨h1, h2⟩ := rangeC_get c n (lo + c) i d (by simpa [rangeC] using h)
    refine ⟨by omega, ?_⟩
    rw [h2]
    congr 1
    rw [Int.natCast_add, Int.add_mul]
    omega
theorem rangeD_C : ∀ (n : Nat) (lo : Int), rangeD lo n = rangeC lo 1 n
  | 0, _ => rfl
  | n + 1, lo => by simp [rangeC, rangeD, rangeD_C n]
theorem WalkD.range {lo : Int} {n : Nat} {F : Hp} : WalkD (Itr lo n) F (rangeD lo n) where
  goes := fun F' H i d s1 s2 e => by
    rw [rangeD_C] at e
    exact (rangeC_get 1 n lo i d e).1
  stops := fun F' H s1 s2 => by
    rw [rangeD_C, rangeC_len]
    exact Nat.le_refl _
  yields := fun F' H i d x H' s1 s2 e y => by
    obtain ⟨rfl, rfl⟩ := y
    rw [rangeD_C] at e
    obtain ⟨_, rfl⟩ := rangeC_get 1 n lo i d e
    rw [Int.mul_one]
    exact ⟨F', OpE.refl s2, .int _⟩
theorem WalkD.rangeC {lo c : Int} {n : Nat} {F : Hp} : WalkD (Itc lo c n) F (rangeC lo c n) where
  goes := fun F' H i d s1 s2 e => (rangeC_get c n lo i d e).1
  stops := fun F' H s1 s2 => by
    rw [rangeC_len]
    exact Nat.le_refl _
  yields := fun F' H i d x H' s1 s2 e y => by
    obtain ⟨rfl, rfl⟩ := y
    obtain ⟨_, rfl⟩ := rangeC_get c n lo i d e
    exact ⟨F', OpE.refl s2, .int _⟩
theorem OpE.pair {F H : Hp} {T : Addr} {xs : List V} {ds : List D} (s : Same F H) (n : H T = none) (q : DtAll F xs ds) : ∃ F', OpE F H F' (upd H T (.tup xs)) ∧ Dt F' (.ref T) (.tuple ds) := by
  have nF : F T = none := by
    cases e : F T with
    | none => rfl
    | some o => rw [s _ _ e] at n; cases n
  refine ⟨upd F T (.tup xs), ⟨Same.upd nF, Same.upd n, fun b u h => ?_, fun b o h => ?_⟩, .tup (Rd.of upd_same) (DtAll.mono (Same.upd nF) q)⟩
  · by_cases z : b = T
    · subst z
      rw [upd_same] at h ⊢
      exact h
    · rw [upd_ne z] at h ⊢
      exact s _ _ h
  · by_cases z : b = T
    · subst z
      exact .inr n
    · rw [upd_ne z] at h
      exact .inl h
theorem enuD_len : ∀ (ds : List D) (j : Nat), (enuD j ds).length = ds.length
  | [], _ => rfl
  | d :: ds, j => by simp [enuD, enuD_len ds]
theorem enuD_get : ∀ (ds : List D) (j i : Nat) (e : D), (enuD j ds)[i]? = some e → ∃ d, ds[i]? = some d ∧ e = .tuple [.int ((j + i : Nat) : Int), d]
  | [], _, _, _, h => by simp [enuD] at h
  | d :: ds, j, 0, e, h => by
    simp [enuD] at h
    exact ⟨d, rfl, h.symm⟩
  | d :: ds, j, i + 1, e, h => by
    obtain ⟨d', h1, h2⟩ := enuD_get ds (j + 1) i e (by simpa [enuD] using h)
    refine ⟨d', by simpa using h1, ?_⟩
    rw [h2]
    congr 3
    omega
theorem WalkD.enum {K : PySem.W.Frag} {a : Addr} {xs : List V} {F : Hp} {ds : List D} (h : L2.Rd F a (.lst xs)) (q : DtAll F xs ds) : WalkD (Ite K a) F (enuD 0 ds) where
  goes := fun F' H i d s1 s2 e => by
    obtain ⟨d', e', _⟩ := enuD_get ds 0 i d e
    obtain ⟨v, hv, _⟩ := q.get e'
    exact ⟨xs, v, .inl (Same.rd s2 (Same.rd s1 h)), hv⟩
  stops := fun F' H s1 s2 => ⟨xs, .inl (Same.rd s2 (Same.rd s1 h)), by rw [enuD_len, q.length]; exact Nat.le_refl _⟩
  yields := fun F' H i d x H' s1 s2 e y => by
    obtain ⟨T, w, rfl, n, rfl, y⟩ := y
    obtain ⟨d', e', rfl⟩ := enuD_get ds 0 i d e
    obtain ⟨v, hv, t⟩ := q.get e'
    have := y xs (.inl (Same.rd s2 (Same.rd s1 h)))
    rw [hv] at this
    cases this
    refine OpE.pair s2 n (.cons ?_ (.cons (Dt.mono s1 t) .nil))
    rw [Nat.zero_add]
    exact .int _

/-! ### the iterables of a text -/
theorem notSet_of {b : Expr} (h : notSet b = true) : ∀ env v, foldedSetIterable b env v = pure v := fun env v => by
  cases b <;> first
    | rfl
    | cases h
theorem star_of {l : Expr} {ls : List Expr} (h : NoStar (l :: ls)) : (∀ env, starEach (l :: ls) env = (false, eval l env) :: starEach ls env) ∧ NoStar ls := by
  have hstar : ∀ env, starEach (l :: ls) env = (false, eval l env) :: starEach ls env := fun env => by
    have := h ⟨0, 0, 0, 0⟩ env
    cases l <;> first
      | rfl
      | (exfalso; revert this; simp [starEach, backTo])
  refine ⟨hstar, fun pos env => ?_⟩
  have q := h pos env
  rw [hstar env] at q
  exact q
theorem si_seq (hx : SE G N k x) : SI G N k (.iSeq x) where
  fs := fun {sc tg e} h => notSet_of (Bool.and_eq_true_iff.mp h).2
  p := fun {sc X W tg e} ok tk h => by
    obtain ⟨h1, h2⟩ := Bool.and_eq_true_iff.mp h
    have pe := hx.e ok tk h1
    refine ⟨fun pins s σ H Z I ⟨ρ, μ, F, ι, S, a⟩ => ?_⟩
    replace a : Aft X.mg W RelI ρ σ ι F H (((den G x).e ρ μ).bind fun v μ1 => (v.keep μ1).bind fun d μ2 => R.of (itemsD d) μ2) Z := a
    cases e1 : (den G x).e ρ μ with
    | stuck =>
      rw [e1] at a
      exact a.elim
    | exc y μ1 =>
      rw [e1] at a
      refine (pi_list pe).run pins s σ H Z I ⟨ρ, μ, F, ι, S, ?_⟩
      rw [e1]
      exact a
    | ok v μ1 =>
      rw [e1] at a
      replace a : Aft X.mg W RelI ρ σ ι F H ((v.keep μ1).bind fun d μ2 => R.of (itemsD d) μ2) Z := a
      cases e2 : v.keep μ1 with
      | stuck =>
        rw [e2] at a
        exact a.elim
      | exc y μ2 => exact (keep_exc e2).elim
      | ok d μ2 =>
        rw [e2] at a
        cases d with
        | list ds =>
          refine (pi_list pe).run pins s σ H Z I ⟨ρ, μ, F, ι, S, ?_⟩
          rw [e1]
          intro w F1 H1 x1 S1 ⟨r, n⟩
          obtain ⟨F2, x2, sf, S2, q⟩ := S1.keep x1 r n e2
          cases q with
          | lst hs ha => exact ⟨_, rfl, ⟨_, .inl (Same.rd S2.sub hs)⟩, a _ F2 H1 x2 S2 (.list hs ha)⟩
        | tuple ds =>
          refine (pi_tup pe).run pins s σ H Z I ⟨ρ, μ, F, ι, S, ?_⟩
          rw [e1]
          intro w F1 H1 x1 S1 ⟨r, n⟩
          obtain ⟨F2, x2, sf, S2, q⟩ := S1.keep x1 r n e2
          cases q with
          | tup hs ha => exact ⟨_, rfl, ⟨_, .inl (Same.rd S2.sub hs)⟩, a _ F2 H1 x2 S2 (.tup hs ha)⟩
        | _ => exact a.elim
theorem smallI_of {i : Int} (h : smallI i = true) : -(2 ^ 62) ≤ i ∧ i < 2 ^ 62 := dec_and h
/-- how many there are -/
def IR.len : IR → Nat
  | .cons _ y => y.len + 1
  | _ => 0
theorem mt_len {sc : Scope} : ∀ {x : IR} {l : List Expr}, (mt G N x).es sc l = true → x.len = l.length
  | x, l, h => by
    rcases nil_or_cons h with ⟨rfl, rfl⟩ | ⟨a, b, e, r, rfl, rfl⟩
    · rfl
    · have := mt_len (es_cons h).2
      simp [IR.len, this]
theorem den_len {ρ : Rho} : ∀ {x : IR} {μ μ' : List Cell} {vs : List SV}, (den G x).b ρ μ = .ok vs μ' → x.len = vs.length
  | x, μ, μ', vs, h => by
    cases x with
    | nil =>
      cases h
      rfl
    | cons a b =>
      replace h : (((den G a).e ρ μ).bind fun v μ1 => ((den G b).b ρ μ1).bind fun vs μ2 => .ok (v :: vs) μ2) = .ok vs μ' := h
      cases e1 : (den G a).e ρ μ with
      | stuck => rw [e1] at h; cases h
      | exc y μ1 => rw [e1] at h; cases h
      | ok v μ1 =>
        rw [e1] at h
        replace h : ((den G b).b ρ μ1).bind (fun vs μ2 => .ok (v :: vs) μ2) = .ok vs μ' := h
        cases e2 : (den G b).b ρ μ1 with
        | stuck => rw [e2] at h; cases h
        | exc y μ1 => rw [e2] at h; cases h
        | ok ws μ2 =>
          rw [e2] at h
          cases h
          simp [IR.len, den_len e2]
    | _ => cases h
theorem looks_len {μ : List Cell} : ∀ {vs : List SV} {ds : List D}, looks μ vs = some ds → ds.length = vs.length
  | [], _, e => by cases e; rfl
  | s :: ss, _, e => by
    unfold looks at e
    split at e
    · rename_i d ds e1 e2
      cases e
      simp [looks_len e2]
    · cases e
theorem rng_small {xs : List D} {ds : List D} (h : rngD xs = some ds) : (∃ j, xs = [.int j] ∧ -(2 ^ 62) ≤ j ∧ j < 2 ^ 62 ∧ ds = rangeD 0 j.toNat) ∨ (∃ i j, xs = [.int i, .int j] ∧ (-(2 ^ 62) ≤ i ∧ i < 2 ^ 62 ∧ -(2 ^ 62) ≤ j ∧ j < 2 ^ 62) ∧ ds = rangeD i (j - i).toNat) ∨
    ∃ i j, xs = [.int i, .int j, .int (-1)] ∧ RgC i j (-1) (i - j).toNat ∧ ds = rangeC i (-1) (i - j).toNat := by
  unfold rngD at h
  split at h
  · split at h
    · rename_i j q
      cases h
      obtain ⟨h1, h2⟩ := smallI_of q
      exact .inl ⟨j, rfl, h1, h2, rfl⟩
    · cases h
  · split at h
    · rename_i i j q
      cases h
      obtain ⟨q1, q2⟩ := Bool.and_eq_true_iff.mp q
      obtain ⟨h1, h2⟩ := smallI_of q1
      obtain ⟨h3, h4⟩ := smallI_of q2
      exact .inr (.inl ⟨i, j, rfl, ⟨h1, h2, h3, h4⟩, rfl⟩)
    · cases h
  · split at h
    · rename_i i j q
      cases h
      obtain ⟨q1, q2⟩ := Bool.and_eq_true_iff.mp q
      obtain ⟨h1, h2⟩ := smallI_of q1
      obtain ⟨h3, h4⟩ := smallI_of q2
      exact .inr (.inr ⟨i, j, rfl, RgC.neg h1 h2 h3 h4, rfl⟩)
    · cases h
  · cases h
theorem si_rng (hx : SL G N k x) : SI G N k (.iRng x) where
  fs := fun {sc tg e} h env v => by
    dsimp only [mt] at h
    split at h
    · rfl
    · cases h
  p := fun {sc X W tg e} ok tk h => by
    dsimp only [mt] at h
    split at h
    · rename_i n p1 l ls p2
      simp only [Bool.and_eq_true, decide_eq_true_eq] at h
      obtain ⟨⟨⟨rfl, h2⟩, hlen⟩, h3⟩ := h
      have hgl := gl_of ok.hsc h2
      have hm : X.mg "range" = none := ok.blt _ (by decide +kernel)
      have hpa := hx.b ok tk h3
      obtain ⟨st1, ns1⟩ := star_of (hx.sl h3)
      -- what the bounds are
      have core : ∀ (σ : St) (H : Hp) (Z : It → Hp → Prop), Rd X.mg W RelI (den G (.iRng x)).i σ H Z → Rd X.mg W RelL (den G x).b σ H fun vs H1 =>
          (∃ j : Int, x.len = 1 ∧ vs = [.int j] ∧ -(2 ^ 62) ≤ j ∧ j < 2 ^ 62 ∧ Z (Itr 0 j.toNat) H1) ∨ (∃ i j : Int, x.len = 2 ∧ vs = [.int i, .int j] ∧ (-(2 ^ 62) ≤ i ∧ i < 2 ^ 62 ∧ -(2 ^ 62) ≤ j ∧ j < 2 ^ 62) ∧ Z (Itr i (j - i).toNat) H1) ∨
          ∃ i j : Int, x.len = 3 ∧ vs = [.int i, .int j, .int (-1)] ∧ RgC i j (-1) (i - j).toNat ∧ Z (Itc i (-1) (i - j).toNat) H1 := by
        intro σ H Z ⟨ρ, μ, F, ι, S, a⟩
        refine ⟨ρ, μ, F, ι, S, ?_⟩
        replace a : Aft X.mg W RelI ρ σ ι F H (((den G x).b ρ μ).bind fun vs μ1 => (R.of (looks μ1 vs) μ1).bind fun ds μ2 => R.of (rngD ds) μ2) Z := a
        cases e1 : (den G x).b ρ μ with
        | stuck =>
          rw [e1] at a
          exact a.elim
        | exc y μ1 =>
          rw [e1] at a
          exact a
        | ok ss μ1 =>
          rw [e1] at a
          have ln := den_len e1
          replace a : Aft X.mg W RelI ρ σ ι F H ((R.of (looks μ1 ss) μ1).bind fun ds μ2 => R.of (rngD ds) μ2) Z := a
          obtain ⟨ds, e2, a⟩ := a.of
          obtain ⟨out, e3, a⟩ := a.of1
          intro vs F1 H1 x1 S1 r
          have bv := bvs_of S1 r e2
          have ll := looks_len e2
          rw [← ln] at ll
          rcases rng_small e3 with ⟨j, rfl, q1, q2, rfl⟩ | ⟨i, j, rfl, q, rfl⟩ | ⟨i, j, rfl, q, rfl⟩
          · obtain ⟨w, rfl, b1⟩ := bvs1 bv
            rw [bv_int b1]
            exact .inl ⟨j, ll.symm, rfl, q1, q2, a _ F1 H1 x1 S1 .range⟩
          · obtain ⟨w, w', rfl, b1, b2⟩ := bvs2 bv
            rw [bv_int b1, bv_int b2]
            exact .inr (.inl ⟨i, j, ll.symm, rfl, q, a _ F1 H1 x1 S1 .range⟩)
          · cases bv with
            | cons b1 bb =>
              obtain ⟨w, w', rfl, b2, b3⟩ := bvs2 bb
              rw [bv_int b1, bv_int b2, bv_int b3]
              exact .inr (.inr ⟨i, j, ll.symm, rfl, q, a _ F1 H1 x1 S1 .rangeC⟩)
      have ln := mt_len h3
      match ls, hpa, st1, ns1, ln, hlen with
      | [], hpa, st1, ns1, ln, _ =>
        refine ⟨fun pins s σ H R I q => (pi_range1 hgl hm hpa (st1 _)).run pins s σ H R I (Rd.mono (core σ H R q) fun vs H1 z => ?_)⟩
        rcases z with ⟨j, hl, e, z1, z2, z3⟩ | ⟨i, j, hl, _⟩ | ⟨i, j, hl, _⟩
        · exact ⟨j, e, z1, z2, z3⟩
        · rw [ln] at hl; cases hl
        · rw [ln] at hl; cases hl
      | [b], hpa, st1, ns1, ln, _ =>
        obtain ⟨st2, _⟩ := star_of ns1
        refine ⟨fun pins s σ H R I q => (pi_range2 hgl hm hpa (by rw [st1, st2]; rfl) (by rw [st2]; rfl)).run pins s σ H R I (Rd.mono (core σ H R q) fun vs H1 z => ?_)⟩
        rcases z with ⟨j, hl, e, z1, z2, z3⟩ | ⟨i, j, hl, z⟩ | ⟨i, j, hl, _⟩
        · rw [ln] at hl; cases hl
        · exact ⟨i, j, z⟩
        · rw [ln] at hl; cases hl
      | [b, c], hpa, st1, ns1, ln, _ =>
        refine ⟨fun pins s σ H R I q => (pi_range3 hgl hm hpa (st1 _) (ns1 _ _)).run pins s σ H R I (Rd.mono (core σ H R q) fun vs H1 z => ?_)⟩
        rcases z with ⟨j, hl, e, z1, z2, z3⟩ | ⟨i, j, hl, z⟩ | ⟨i, j, hl, z⟩
        · rw [ln] at hl; cases hl
        · rw [ln] at hl; cases hl
        · exact ⟨i, j, _, _, z⟩
      | b :: c :: d :: r, hpa, st1, ns1, ln, hlen => exact absurd hlen (by simp)
    · cases h
theorem PI.imp {X : Cx} {tg e : Expr} {t t' : TI} (h : PI X tg e t) (i : ∀ σ H Q, t' σ H Q → t σ H Q) : PI X tg e t' := ⟨fun pins s σ H Q I q => h.run pins s σ H Q I (i σ H Q q)⟩
theorem si_enu (hx : SE G N k x) : SI G N k (.iEnu x) where
  fs := fun {sc tg e} h env v => by
    dsimp only [mt] at h
    split at h
    · rfl
    · cases h
  p := fun {sc X W tg e} ok tk h => by
    dsimp only [mt] at h
    split at h
    · simp only [Bool.and_eq_true, decide_eq_true_eq] at h
      obtain ⟨⟨rfl, h2⟩, h3⟩ := h
      have hm : X.mg "enumerate" = none := ok.blt _ (by decide +kernel)
      have st := hx.st h3 [] X.env
      refine PI.imp (pi_enum (gl_of ok.hsc h2) hm (pa_cons (hx.e ok tk h3) pa_nil st) st) fun σ H Z ⟨ρ, μ, F, ι, S, a⟩ => ?_
      refine Rd.mono (Aft.step (U := RelE) a S Ext.refl) fun v1 H1 ⟨s1, μ1, F1, e1, d1, S1, ⟨r1, n1⟩, a⟩ => ?_
      obtain ⟨d, μ2, F2, e2, sf, S2, q, a⟩ := a.keep S1 e1 r1 n1 fun _ z => z
      cases d with
      | list ds =>
        cases q with
        | lst hs ha => exact ⟨_, _, rfl, .inl (Same.rd S2.sub hs), a _ F2 H1 e2 S2 (.enum hs ha)⟩
      | _ => exact a.elim
    · cases h
end
end DL

set_option maxHeartbeats 1000000
/-! Z0: zip with strict=. -/
namespace DL
open PySem PySem.Spec PyProof.Rows
abbrev IsZipT (st : Bool) (h : Heap) (z TI TO : Addr) (f0 : Value) : Prop :=
  h.get? z = some { cls := .type "zip", dict := none, data := .fields #[f0, .bool false, .bool st, .ref TI, .ref TO], slots := #[] }
section
variable {prog : Program} {w : World} {A : Around} {E : Value → Shared → Prop} {s : Shared} {z TI TO i1 i2 it : Addr} {fp fp1 fp2 : List Addr} {n n1 n2 i : Nat} {P P1 P2 : Nat → Value → Prop} {St St1 St2 : Nat → Heap → Prop} {a1 a2 : Value}
theorem nx_item {Q : Option Value → Shared → Prop} (D : Draws prog w A it fp n P St) (hi : i < n) (st : St i s.heap)
    (h : ∀ x h' tk, P i x → St (i + 1) h' → Heap.SameBut it s.heap h' → Q (some x) { s with heap := h', toks := tk }) : wpAny (model prog w) A (Builtin.SmallTypes.nextOrEnd (.ref it)) Q E s := by
  unfold Builtin.SmallTypes.nextOrEnd
  exact wpAny_bind (wpAny_attempt (D.item i s _ _ hi st fun x h' tk p st' sb => wpAny_pure (h x h' tk p st' sb)))
theorem nx_end {Q : Option Value → Shared → Prop} (D : Draws prog w A it fp n P St) (st : St n s.heap)
    (h : ∀ h', Heap.ExtBut it s.heap h' → Q none { s with heap := h' }) : wpAny (model prog w) A (Builtin.SmallTypes.nextOrEnd (.ref it)) Q E s := by
  unfold Builtin.SmallTypes.nextOrEnd
  refine wpAny_bind (wpAny_attempt (D.done s _ _ st fun h' e ex he => ?_))
  obtain ⟨o, ho, hc⟩ := he
  refine wpAny_bind (wpAny_isInstance (T := "StopIteration") (b := true) ⟨o, ho, hc⟩ isSubtype_stop ?_)
  exact wpAny_pure (h _ ex)
theorem stop_ {α : Type} {Q : α → Shared → Prop} (hh : A.handled = none)
    (hE : ∀ h' e, (∀ c o, s.heap.get? c = some o → h'.get? c = some o) → (∃ o, h'.get? e = some o ∧ o.cls = .type "StopIteration") → E (.ref e) { s with heap := h' }) :
    wpAny (model prog w) A (Builtin.SmallTypes.stopIteration : Sem α) Q E s := by
  show wpAny _ _ (newExc (.type "StopIteration") [] >>= _) _ _ _
  refine wpAny_bind ?_
  simp only [newExc, newTuple]
  refine wpAny_bind (wpAny_newObj_type ?_ (by size_fits))
  refine wpAny_bind (m := firstArgMember _ _) (wpAny_of_eq (a := Value.none) (by first | rfl | (simp only [firstArgMember]; rfl)) ?_)
  refine wpAny_newObj_type ?_ (by size_fits)
  simp only [raiseNew]
  refine wpAny_bind (wpAny_handled ?_)
  first | rw [show A.in1.handled = none from hh] | rw [hh]
  refine wpAny_bind (wpAny_pure (wpAny_throw ?_))
  exact hE _ _ (fun c o e => Heap.get?_push_of_some _ (Heap.get?_push_of_some _ e)) ⟨_, Heap.get?_push_size _ rfl, rfl⟩
theorem zipT_next_item {Q : Value → Shared → Prop} (S : ZipSep2 z TI TO i1 i2 fp1 fp2) (D1 : Draws prog w A i1 fp1 n1 P1 St1) (D2 : Draws prog w A i2 fp2 n2 P2 St2)
    (hz : IsZipT true s.heap z TI TO .none) (hTI : IsTupOf2 s.heap TI (.ref i1) (.ref i2)) (hTO : IsTupOf2 s.heap TO a1 a2) (st1 : St1 i s.heap) (st2 : St2 i s.heap) (hlt1 : i < n1) (hlt2 : i < n2)
    (hQ : ∀ x1 x2 h' tk, P1 i x1 → P2 i x2 → IsZipT true h' z TI TO (rawInt s.heap.objs.size) → IsTupOf2 h' TO x1 x2 → St1 (i + 1) h' → St2 (i + 1) h' → IsTupOf2 h' s.heap.objs.size x1 x2 → h'.objs.size = s.heap.objs.size + 1 →
      (∀ c o, c ≠ z → c ≠ TO → c ≠ i1 → c ≠ i2 → s.heap.get? c = some o → h'.get? c = some o) → Q (.ref s.heap.objs.size) { s with heap := h', toks := tk }) :
    wpAny (model prog w) A (Builtin.«zip.__next__» ⟨[.ref z], []⟩) (fun fin s' => ∃ v, fin = .done (.ret v) ∧ Q v s') E s := by
  obtain ⟨hp, g, d, tk0, os⟩ := s
  show wpAny _ _ (field (.ref z) 2 >>= _) _ _ _
  refine wpAny_bind (wpAny_field hz rfl (x := .bool true) rfl ?_)
  show wpAny _ _ (field (.ref z) 3 >>= _) _ _ _
  refine wpAny_bind (wpAny_field hz rfl (x := .ref TI) rfl ?_)
  refine wpAny_bind (wpAny_seqItems hTI rfl ?_)
  show wpAny _ _ (Builtin.SmallTypes.ownedTupleIsFree (.ref z) >>= _) _ _ _
  refine wpAny_bind ?_
  unfold Builtin.SmallTypes.ownedTupleIsFree
  refine wpAny_bind (wpAny_field hz rfl (x := .none) rfl (wpAny_pure ?_))
  simp only [if_true]
  refine wpAny_bind (wpAny_rule ?_)
  refine wpAny_bind (wpAny_field hz rfl (x := .ref TO) rfl ?_)
  refine wpAny_bind (wpAny_setField_rec hz (by simp) fun g0 hz0 hs0 => ?_)
  replace hz0 : IsZipT true g0 z TI TO .ellipsis := hz0
  replace hs0 : Heap.SameBut z hp g0 := hs0
  refine wpAny_bind ?_
  simp only [List.zipIdx_cons, List.zipIdx_nil, List.forIn_cons, List.forIn_nil]
  refine wpAny_bind (wpAny_bind (wpAny_onRaise ?_))
  show wpAny _ _ (Builtin.SmallTypes.nextOrEnd (.ref i1)) _ _ ⟨g0, g, d, tk0, os⟩
  refine nx_item D1 hlt1 (D1.over st1 hs0 S.zf1) fun x1 p1 tk1 hx1 sn1 hp1 => ?_
  replace hp1 : Heap.SameBut i1 g0 p1 := hp1
  have hU1 : IsTupOf2 p1 TO a1 a2 := hp1.extBut _ _ S.Ti1 (hs0.extBut _ _ S.TOz hTO)
  refine wpAny_bind (wpAny_seqItems (s := ⟨p1, g, d, tk1, os⟩) hU1 rfl ?_)
  refine wpAny_bind (updateSeq_IsTupOf2 (s := ⟨p1, g, d, tk1, os⟩) hU1 fun g1 hT1 hs1 => ?_)
  replace hT1 : IsTupOf2 g1 TO x1 a2 := hT1
  replace hs1 : Heap.SameBut TO p1 g1 := hs1
  refine wpAny_bind (wpAny_letGo (wpAny_pure ?_))
  refine wpAny_bind (wpAny_bind (wpAny_onRaise ?_))
  show wpAny _ _ (Builtin.SmallTypes.nextOrEnd (.ref i2)) _ _ ⟨g1, g, d, tk1, os⟩
  refine nx_item D2 hlt2 (D2.over (D2.over (D2.over st2 hs0 S.zf2) hp1 S.sep1_2) hs1 S.Tf2) fun x2 p2 tk2 hx2 sn2 hp2 => ?_
  replace hp2 : Heap.SameBut i2 g1 p2 := hp2
  have hU2 : IsTupOf2 p2 TO x1 a2 := hp2.extBut _ _ S.Ti2 hT1
  refine wpAny_bind (wpAny_seqItems (s := ⟨p2, g, d, tk2, os⟩) hU2 rfl ?_)
  refine wpAny_bind (updateSeq_IsTupOf2 (s := ⟨p2, g, d, tk2, os⟩) hU2 fun g2 hT2 hs2 => ?_)
  replace hT2 : IsTupOf2 g2 TO x1 x2 := hT2
  replace hs2 : Heap.SameBut TO p2 g2 := hs2
  refine wpAny_bind (wpAny_letGo (wpAny_pure (wpAny_pure ?_)))
  refine wpAny_bind (wpAny_seqItems (s := ⟨g2, g, d, tk2, os⟩) hT2 rfl ?_)
  refine wpAny_bind (wpAny_newTuple ?_)
  have hsz : g2.objs.size = hp.objs.size := by rw [hs2.1, hp2.1, hs1.1, hp1.1, hs0.1]
  have hzz : IsZipT true g2 z TI TO .ellipsis := (hs2.extBut _ _ S.TOz.symm (hp2.extBut _ _ S.zi2 (hs1.extBut _ _ S.TOz.symm (hp1.extBut _ _ S.zi1 hz0))))
  have hkk : ∀ c o, c ≠ z → c ≠ TO → c ≠ i1 → c ≠ i2 → hp.get? c = some o → g2.get? c = some o := fun c o cz cT c1 c2 e =>
    (hs2.extBut _ _ cT (hp2.extBut _ _ c2 (hs1.extBut _ _ cT (hp1.extBut _ _ c1 (hs0.extBut _ _ cz e)))))
  have hj1 : St1 (i + 1) g2 := (D1.over (D1.over (D1.over sn1 hs1 S.Tf1) hp2 S.sep2_1) hs2 S.Tf1)
  have hj2 : St2 (i + 1) g2 := (D2.over sn2 hs2 S.Tf2)
  have hzlt : z < g2.objs.size := Heap.lt_size hzz
  show wpAny _ _ (Builtin.SmallTypes.ownedTupleHandOut (.ref z) (.ref g2.objs.size) >>= _) _ _ ⟨g2.push { cls := .type "tuple", data := .seq #[x1, x2] }, g, d, tk2, os⟩
  refine wpAny_bind ?_
  unfold Builtin.SmallTypes.ownedTupleHandOut
  have hz₆ : IsZipT true (g2.push { cls := .type "tuple", data := .seq #[x1, x2] }) z TI TO .ellipsis := Heap.get?_push_of_some _ hzz
  refine wpAny_bind (wpAny_setField_rec hz₆ (by simp) fun h₇ hz₇ hs₇ => ?_)
  replace hz₇ : IsZipT true h₇ z TI TO (rawInt g2.objs.size) := hz₇
  refine wpAny_setField_rec hz₇ (by simp) fun h₈ hz₈ hs₈ => ?_
  replace hz₈ : IsZipT true h₈ z TI TO (rawInt g2.objs.size) := hz₈
  replace hs₇ : Heap.SameBut z (g2.push { cls := .type "tuple", data := .seq #[x1, x2] }) h₇ := hs₇
  replace hs₈ : Heap.SameBut z h₇ h₈ := hs₈
  have up : ∀ c o, c ≠ z → g2.get? c = some o → h₈.get? c = some o := fun c o c1 e => hs₈.extBut _ _ c1 (hs₇.extBut _ _ c1 (Heap.get?_push_of_some _ e))
  have hT₈ : IsTupOf2 h₈ g2.objs.size x1 x2 := hs₈.extBut _ _ (Nat.ne_of_gt hzlt) (hs₇.extBut _ _ (Nat.ne_of_gt hzlt) (Heap.get?_push_size _ rfl))
  have hz8 : h₈.objs.size = g2.objs.size + 1 := by rw [hs₈.1, hs₇.1, Heap.size_push]
  rw [hsz] at hz₈ hT₈ hz8
  refine wpAny_pure ⟨_, rfl, ?_⟩
  show Q (.ref g2.objs.size) ⟨h₈, g, d, tk2, os⟩
  rw [hsz]
  exact hQ x1 x2 h₈ tk2 hx1 hx2 hz₈ (up _ _ S.TOz hT2) (D1.frame _ _ _ hj1 fun b hb o e => up b o (fun q => S.zf1 (q ▸ hb)) e) (D2.frame _ _ _ hj2 fun b hb o e => up b o (fun q => S.zf2 (q ▸ hb)) e) hT₈ hz8 fun c o cz cT c1 c2 e => up c o cz (hkk c o cz cT c1 c2 e)
theorem zipT_next_end {Q : Fin → Shared → Prop} (hh : A.handled = none) (S : ZipSep2 z TI TO i1 i2 fp1 fp2) (D1 : Draws prog w A i1 fp1 n P1 St1) (D2 : Draws prog w A i2 fp2 n P2 St2)
    (hz : IsZipT true s.heap z TI TO .none) (hTI : IsTupOf2 s.heap TI (.ref i1) (.ref i2)) (hTO : IsTupOf2 s.heap TO a1 a2) (st1 : St1 n s.heap) (st2 : St2 n s.heap)
    (hE : ∀ h' tk e, (∀ c o, c ≠ z → c ≠ TO → c ≠ i1 → c ≠ i2 → s.heap.get? c = some o → h'.get? c = some o) → (∃ o, h'.get? e = some o ∧ o.cls = .type "StopIteration") → E (.ref e) { s with heap := h', toks := tk }) :
    wpAny (model prog w) A (Builtin.«zip.__next__» ⟨[.ref z], []⟩) Q E s := by
  obtain ⟨hp, g, d, tk0, os⟩ := s
  show wpAny _ _ (field (.ref z) 2 >>= _) _ _ _
  refine wpAny_bind (wpAny_field hz rfl (x := .bool true) rfl ?_)
  show wpAny _ _ (field (.ref z) 3 >>= _) _ _ _
  refine wpAny_bind (wpAny_field hz rfl (x := .ref TI) rfl ?_)
  refine wpAny_bind (wpAny_seqItems hTI rfl ?_)
  show wpAny _ _ (Builtin.SmallTypes.ownedTupleIsFree (.ref z) >>= _) _ _ _
  refine wpAny_bind ?_
  unfold Builtin.SmallTypes.ownedTupleIsFree
  refine wpAny_bind (wpAny_field hz rfl (x := .none) rfl (wpAny_pure ?_))
  simp only [if_true]
  refine wpAny_bind (wpAny_rule ?_)
  refine wpAny_bind (wpAny_field hz rfl (x := .ref TO) rfl ?_)
  refine wpAny_bind (wpAny_setField_rec hz (by simp) fun g0 hz0 hs0 => ?_)
  replace hz0 : IsZipT true g0 z TI TO .ellipsis := hz0
  replace hs0 : Heap.SameBut z hp g0 := hs0
  refine wpAny_bind ?_
  simp only [List.zipIdx_cons, List.zipIdx_nil, List.forIn_cons, List.forIn_nil]
  refine wpAny_bind (wpAny_bind (wpAny_onRaise ?_))
  show wpAny _ _ (Builtin.SmallTypes.nextOrEnd (.ref i1)) _ _ ⟨g0, g, d, tk0, os⟩
  refine nx_end D1 (D1.over st1 hs0 S.zf1) fun q hq => ?_
  replace hq : Heap.ExtBut i1 g0 q := hq
  have hzq : IsZipT true q z TI TO .ellipsis := hq _ _ S.zi1 hz0
  refine wpAny_bind (wpAny_setField_rec (s := ⟨q, g, d, tk0, os⟩) hzq (by simp) fun q' hz' hq' => ?_)
  replace hq' : Heap.SameBut z q q' := hq'
  refine wpAny_bind ?_
  show wpAny _ _ (Bind.bind _ _) _ _ _
  refine wpAny_bind ?_
  simp only [List.drop_succ_cons, List.drop_zero, List.zipIdx_cons, List.zipIdx_nil, List.forIn_cons, List.forIn_nil]
  refine wpAny_bind (wpAny_bind (nx_end (s := ⟨q', g, d, tk0, os⟩) D2 (D2.over (D2.frame _ _ _ (D2.over st2 hs0 S.zf2) fun b hb o e => hq b o (fun x => S.sep1_2 (x ▸ hb)) e) hq' S.zf2) fun q2 hq2 => ?_))
  replace hq2 : Heap.ExtBut i2 q' q2 := hq2
  refine wpAny_pure (wpAny_pure ?_)
  refine wpAny_bind (wpAny_rule (stop_ hh fun h' e k he => ?_))
  exact hE h' tk0 e (fun c o cz cT c1 c2 x => k c o (hq2 _ _ c2 (hq'.extBut _ _ cz (hq _ _ c1 (hs0.extBut _ _ cz x))))) he
theorem typeT {st : Bool} {f0 : Value} (hz : IsZipT st s.heap z TI TO f0) : s.TypeIs (.ref z) "zip" := ⟨_, hz, rfl⟩
theorem letGoT {st : Bool} {elts : List Expr} {x1} {pos : Pos} {T : Addr} {Q : Unit → Shared → Prop} (hz : IsZipT st s.heap z TI TO (rawInt T))
    (hQ : ∀ h', IsZipT st h' z TI TO .none → Heap.SameBut z s.heap h' → Q () { s with heap := h' }) :
    wpAny (model prog w) A (letOwnedTupleGo (.Tuple elts x1 pos) (.ref z) (.ref T)) Q E s := by
  unfold letOwnedTupleGo
  refine wpAny_bind (wpAny_load hz ?_)
  show wpAny _ _ (if (["enumerate", "zip", "dict_itemiterator", "dict_reverseitemiterator", "odict_iterator", "itertools.zip_longest", "itertools.pairwise"].contains "zip" &&
      (#[rawInt T, .bool false, .bool st, .ref TI, .ref TO] : Array Value)[0]? == some (rawInt T)) = true then _ else _) Q E s
  rw [if_pos (by simp)]
  refine wpAny_bind (wpAny_rule ?_)
  show wpAny _ _ (setField (.ref z) 0 .none) Q E s
  exact wpAny_setField_rec hz (by simp) fun h' hz' hs' => hQ h' hz' hs'
theorem selfT {st : Bool} {f0 : Value} {Q : Value → Shared → Prop} (hz : IsZipT st s.heap z TI TO f0) (h : Q (.ref z) s) : wpAny (model prog w) A (pyIter (.ref z)) Q E s := by
  have hT := typeT hz
  refine wpAny_pyIter_slot hT F.slot_zip_iter (wpAny_call_entry F.slot_zip_iter hT F.entry_zip_iter ?_ (F.args_zip_iter_1 _))
  show wpAny _ _ (ret (.ref z)) _ _ s
  exact wpAny_pure ⟨_, rfl, "zip", _, hT, F.slot_zip_next.lookup, h⟩
end
section
variable {prog : Program} {w : World} {A : Around} {E : Value → Shared → Prop} {s : Shared} {z TI TO i1 i2 : Addr} {fp1 fp2 : List Addr} {n1 n2 i : Nat} {P1 P2 : Nat → Value → Prop} {St1 St2 : Nat → Heap → Prop} {a1 a2 : Value} {st : Bool}
/-- the next pair of a zip -/
theorem nextT_item {Q : Option Value → Shared → Prop} (S : ZipSep2 z TI TO i1 i2 fp1 fp2) (D1 : Draws prog w A.in1 i1 fp1 n1 P1 St1) (D2 : Draws prog w A.in1 i2 fp2 n2 P2 St2)
    (hz : IsZipT st s.heap z TI TO .none) (hTI : IsTupOf2 s.heap TI (.ref i1) (.ref i2)) (hTO : IsTupOf2 s.heap TO a1 a2) (st1 : St1 i s.heap) (st2 : St2 i s.heap) (hlt1 : i < n1) (hlt2 : i < n2)
    (hQ : ∀ x1 x2 h' tk, P1 i x1 → P2 i x2 → IsZipT st h' z TI TO (rawInt s.heap.objs.size) → IsTupOf2 h' TO x1 x2 → St1 (i + 1) h' → St2 (i + 1) h' → IsTupOf2 h' s.heap.objs.size x1 x2 → h'.objs.size = s.heap.objs.size + 1 →
      (∀ c o, c ≠ z → c ≠ TO → c ≠ i1 → c ≠ i2 → s.heap.get? c = some o → h'.get? c = some o) → Q (some (.ref s.heap.objs.size)) { s with heap := h', toks := tk }) :
    wpAny (model prog w) A (pyNext (.ref z)) Q E s := by
  cases st with
  | false => exact wpAny_pyNext_zipD2_item S D1 D2 hz hTI hTO st1 st2 hlt1 hlt2 hQ
  | true =>
    have hT := typeT hz
    unfold pyNext
    exact wpAny_bind (wpAny_attempt (wpAny_callSpecial?_slot (name := Str.ofString "__next__") hT F.slot_zip_next
      (wpAny_call_entry F.slot_zip_next hT F.entry_zip_next
        (zipT_next_item S D1 D2 hz hTI hTO st1 st2 hlt1 hlt2 fun x1 x2 h' tk y1 y2 b1 b2 d1 d2 b5 b6 b7 => wpAny_pure (hQ x1 x2 h' tk y1 y2 b1 b2 d1 d2 b5 b6 b7)) (F.args_zip_next_1 _))))
/-- its end: at the shortest, or at all at once -/
theorem nextT_end {Q : Option Value → Shared → Prop} (hh : A.in1.handled = none) (S : ZipSep2 z TI TO i1 i2 fp1 fp2) (D1 : Draws prog w A.in1 i1 fp1 n1 P1 St1) (D2 : Draws prog w A.in1 i2 fp2 n2 P2 St2)
    (hz : IsZipT st s.heap z TI TO .none) (hTI : IsTupOf2 s.heap TI (.ref i1) (.ref i2)) (hTO : IsTupOf2 s.heap TO a1 a2) (st1 : St1 i s.heap) (st2 : St2 i s.heap) (hle1 : i ≤ n1) (hle2 : i ≤ n2) (hend : i = n1 ∨ i = n2) (hst : st = true → n1 = n2)
    (hQ : ∀ h' tk, (∀ c o, c ≠ z → c ≠ TO → c ≠ i1 → c ≠ i2 → s.heap.get? c = some o → h'.get? c = some o) → Q none { s with heap := h', toks := tk }) : wpAny (model prog w) A (pyNext (.ref z)) Q E s := by
  cases st with
  | false => exact wpAny_pyNext_zipD2_end S D1 D2 hz hTI hTO st1 st2 hle1 hle2 hend hQ
  | true =>
    have e := hst rfl
    subst e
    have e : i = n1 := by omega
    subst e
    have hT := typeT hz
    unfold pyNext
    refine wpAny_bind (wpAny_attempt (wpAny_callSpecial?_slot (name := Str.ofString "__next__") hT F.slot_zip_next
      (wpAny_call_entry F.slot_zip_next hT F.entry_zip_next (zipT_next_end hh S D1 D2 hz hTI hTO st1 st2 fun h' tk e hk he => ?_) (F.args_zip_next_1 _))))
    obtain ⟨o, ho, hc⟩ := he
    refine wpAny_bind (wpAny_isInstance (T := "StopIteration") (b := true) ⟨o, ho, hc⟩ isSubtype_stop ?_)
    exact wpAny_pure (hQ _ _ hk)
end

/-! ### zip(v1, v2, strict=st) begins -/
abbrev gzS (st : Bool) (h : Heap) (o1 o2 : Obj) : Heap := (gzO2 h o1 o2).push { cls := .type "zip", data := .fields #[.none, .bool false, .bool st, .ref ((h.push o1).push o2).objs.size, .ref (gzT2 h o1 o2).objs.size] }
theorem meets_zipS {v1 v2 : Value} {o1 o2 : Obj} {H1 H2 : Heap → Prop} {st : Bool} (B1 : Begins v1 o1 H1) (B2 : Begins v2 o2 H2) :
    Meets (Builtin.«zip.__new__» ⟨[.type "zip", v1, v2], [(Str.ofString "strict", .bool st)]⟩) (fun _ R s => (H1 s.heap ∧ H2 s.heap) ∧
      R (.ok (.ret (.ref (gzO2 s.heap o1 o2).objs.size))) { s with heap := gzS st s.heap o1 o2 }) :=
  .of_wp fun prog w A R s h => by
    obtain ⟨hp, g, d, tk, os⟩ := s
    obtain ⟨⟨h1, h2⟩, h⟩ := h
    have hsub := sub_zip
    have q1 : ∀ {A' : Around} {E : Value → Shared → Prop} {Q : Value → Shared → Prop}, Q (.ref hp.objs.size) ⟨(hp.push o1), g, d, tk, os⟩ → wpAny (model prog w) A' (pyIter v1) Q E ⟨hp, g, d, tk, os⟩ :=
      fun q => B1.iter prog w _ _ ⟨hp, g, d, tk, os⟩ _ (B1.keeps _ _ h1 fun b o' e => e) q
    have q2 : ∀ {A' : Around} {E : Value → Shared → Prop} {Q : Value → Shared → Prop}, Q (.ref (hp.push o1).objs.size) ⟨((hp.push o1).push o2), g, d, tk, os⟩ → wpAny (model prog w) A' (pyIter v2) Q E ⟨(hp.push o1), g, d, tk, os⟩ :=
      fun q => B2.iter prog w _ _ ⟨(hp.push o1), g, d, tk, os⟩ _ (B2.keeps _ _ h2 fun b o' e => (Heap.get?_push_of_some _ e)) q
    have e2 : (Str.ofString "strict" != ("strict" : Str)) = false := by decide +kernel
    wp_walk using q1, q2
    exact ⟨_, rfl, h⟩
theorem typeCall_zipS (a b c : Value) : checkTypeCall "zip" ⟨[a, b], [(Str.ofString "strict", c)]⟩ = pure () := by kernel_rfl
theorem newCall_zipS (a b c : Value) : checkBuiltinCall "zip.__new__" ⟨[.type "zip", a, b], [(Str.ofString "strict", c)]⟩ = pure () := by kernel_rfl
theorem args_init_zipS (obj a b c : Value) : argsOk "object.__init__" ⟨[obj, a, b], [(Str.ofString "strict", c)]⟩ := by unfold argsOk; kernel_rfl
section
variable {prog : Program} {w : World} {A : Around} {E : Value → Shared → Prop} {s : Shared}
theorem zipS_begins {v1 v2 : Value} {o1 o2 : Obj} {H1 H2 : Heap → Prop} {st : Bool} {Q : Value → Shared → Prop} (B1 : Begins v1 o1 H1) (B2 : Begins v2 o2 H2) (h1 : H1 s.heap) (h2 : H2 s.heap)
    (h : ∀ h', IsZipT st h' (s.heap.objs.size + 4) (s.heap.objs.size + 2) (s.heap.objs.size + 3) .none → IsTupOf2 h' (s.heap.objs.size + 2) (.ref s.heap.objs.size) (.ref (s.heap.objs.size + 1)) →
      IsTupOf2 h' (s.heap.objs.size + 3) .none .none → h'.get? s.heap.objs.size = some o1 → h'.get? (s.heap.objs.size + 1) = some o2 → h'.objs.size = s.heap.objs.size + 5 →
      (∀ c o, s.heap.get? c = some o → h'.get? c = some o) → Q (.ref (s.heap.objs.size + 4)) { s with heap := h' }) :
    wpAny (model prog w) A (call (.type "zip") [v1, v2] [(Str.ofString "strict", .bool st)]) Q E s := by
  refine callType_newKw F.called_zip (by decide) (typeCall_zipS _ _ _) (newCall_zipS _ _ _) (fun obj => args_init_zipS obj _ _ _) F.entry_zip_new
    (meets_zipS B1 B2) ⟨⟨h1, h2⟩, ?_⟩
  have z1 : (s.heap.push o1).objs.size = s.heap.objs.size + 1 := by rw [Heap.size_push]
  have z2 : ((s.heap.push o1).push o2).objs.size = s.heap.objs.size + 2 := by rw [Heap.size_push, z1]
  have zT : (gzT2 s.heap o1 o2).objs.size = s.heap.objs.size + 3 := by rw [Heap.size_push, z2]
  have zO : (gzO2 s.heap o1 o2).objs.size = s.heap.objs.size + 4 := by rw [Heap.size_push, zT]
  have zZ : (gzS st s.heap o1 o2).objs.size = s.heap.objs.size + 5 := by rw [Heap.size_push, zO]
  have gZ : (gzS st s.heap o1 o2).get? (gzO2 s.heap o1 o2).objs.size = some { cls := .type "zip", data := .fields #[.none, .bool false, .bool st, .ref ((s.heap.push o1).push o2).objs.size, .ref (gzT2 s.heap o1 o2).objs.size] } := Heap.get?_push_size _ rfl
  have gO : (gzS st s.heap o1 o2).get? (gzT2 s.heap o1 o2).objs.size = some { cls := .type "tuple", data := .seq #[.none, .none] } := Heap.get?_push_of_some _ (Heap.get?_push_size _ rfl)
  have gT : (gzS st s.heap o1 o2).get? ((s.heap.push o1).push o2).objs.size = some { cls := .type "tuple", data := .seq #[.ref s.heap.objs.size, .ref (s.heap.push o1).objs.size] } := Heap.get?_push_of_some _ (Heap.get?_push_of_some _ (Heap.get?_push_size _ rfl))
  have g1 : (gzS st s.heap o1 o2).get? s.heap.objs.size = some o1 := Heap.get?_push_of_some _ (Heap.get?_push_of_some _ (Heap.get?_push_of_some _ (Heap.get?_push_of_some _ (Heap.get?_push_size _ B1.free))))
  have g2 : (gzS st s.heap o1 o2).get? (s.heap.push o1).objs.size = some o2 := Heap.get?_push_of_some _ (Heap.get?_push_of_some _ (Heap.get?_push_of_some _ (Heap.get?_push_size _ B2.free)))
  rw [zO, zT, z2] at gZ
  rw [zT] at gO
  rw [z2, z1] at gT
  rw [z1] at g2
  show _ ∧ _
  rw [zO]
  exact ⟨⟨_, gZ, rfl⟩, h _ gZ gT gO g1 g2 zZ fun c o e => Heap.get?_push_of_some _ (Heap.get?_push_of_some _ (Heap.get?_push_of_some _ (Heap.get?_push_of_some _ (Heap.get?_push_of_some _ e))))⟩
end
section
variable {M : Model} {A : Around} {E : Value → Shared → Prop} {s : Shared} {env : Env}
/-- a built-in class called with keywords -/
theorem callWith_typeK {pos : Pos} {T : String} {e : Expr} {rest : List Expr} {kws : List Keyword} {Q : Value → Shared → Prop}
    (h : wpAny M A (spliced (backTo pos (starEach (e :: rest) env))) (fun vs s₁ => wpAny M A (evalAll ((backToKw pos (keywordEach kws env)).map (·.2)))
      (fun kvs s₂ => wpAny M A (call (.type T) vs (((backToKw pos (keywordEach kws env)).filterMap (·.1)).zip kvs)) Q E s₂) E s₁) E s)
    (he : backTo pos (starEach (e :: rest) env) = (false, eval e env) :: backTo pos (starEach rest env) := by rfl)
    (hplain : (backTo pos (starEach (e :: rest) env)).any (·.1) = false := by rfl)
    (hall : (backToKw pos (keywordEach kws env)).all (·.1.isSome) = true := by rfl)
    (hkw : (backToKw pos (keywordEach kws env)).any (·.1.isNone) = false := by rfl) :
    wpAny M A (callWith pos (.type T) [] (backTo pos (starEach (e :: rest) env)) (backToKw pos (keywordEach kws env))) Q E s := by
  unfold callWith
  rw [he] at h ⊢
  refine wpAny_bind (wpAny_holding (evalArgs_kwB hall (wpAny_mono h (fun vs s1 h1 => wpAny_mono h1 (fun kvs s2 h2 => wpAny_bind (wpAny_standAt ?_)) fun _ _ x => x) fun _ _ x => x)))
  rw [← he]
  simp only [hplain, hkw, Bool.or_false]
  refine wpAny_bind (wpAny_pure ?_)
  exact wpAny_bind (wpAny_mono h2 (fun r s₂ hr => wpAny_bind (wpAny_holding (wpAny_point (wpAny_pure hr)))) fun _ _ x => x)
end
end DL

set_option maxHeartbeats 1000000
/-! DL13: zip of two lists or tuples. -/
namespace DL
open PySem PySem.Spec PyProof.Rows L2
inductive Kd where
  | l | t
def Kd.sq (K : PySem.W.Frag) : Kd → Hp → Addr → List V → Prop
  | .l => SqL K
  | .t => SqT K
def Kd.isIt : Kd → Heap → Addr → Addr → Nat → Prop
  | .l => fun h it a i => h.IsListIter it a i
  | .t => fun h it a i => h.IsTupleIter it a i
def Kd.isO : Kd → Heap → Addr → Array Value → Prop
  | .l => fun h a vs => h.IsList a vs
  | .t => fun h a vs => h.IsTuple a vs
def Kd.it0 (a : Addr) : Kd → Obj
  | .l => { cls := .type "list_iterator", data := .fields #[.ref a, .int 0 0] }
  | .t => { cls := .type "tuple_iterator", data := .fields #[.ref a, .int 0 0] }
theorem Kd.draws {P : Program} {w : World} {A : Around} (k : Kd) (hh : A.handled = none) {it a : Addr} (ne : a ≠ it) (its : Array Value) : Draws P w A it [it, a] its.size (fun i v => its[i]? = some v) (fun i h => k.isIt h it a i ∧ k.isO h a its) := by
  cases k with
  | l => exact Draws.list hh it a ne its
  | t => exact Draws.tuple hh it a ne its
theorem Kd.begins (k : Kd) (a : Addr) (its : Array Value) : Begins (.ref a) (k.it0 a) fun h => k.isO h a its := by
  cases k with
  | l => exact begins_list a its
  | t => exact begins_tuple a its
theorem Kd.at {k : Kd} {h h' : Heap} {it a : Addr} {i : Nat} (st : k.isIt h it a i) (q : ∀ o, h.get? it = some o → h'.get? it = some o) : k.isIt h' it a i := by
  cases k with
  | l => exact Heap.IsListIter.at st q
  | t => exact Heap.IsTupleIter.at st q
theorem Kd.obj {k : Kd} {h : Heap} {it a : Addr} {i : Nat} (st : k.isIt h it a i) : ∃ o, h.get? it = some o ∧ ∀ v, o.data ≠ .cell v := by
  cases k with
  | l =>
    obtain ⟨o, e, c, d⟩ := st
    exact ⟨o, e, fun v z => by rw [d] at z; cases z⟩
  | t =>
    obtain ⟨o, e, c, d⟩ := st
    exact ⟨o, e, fun v z => by rw [d] at z; cases z⟩
theorem Kd.start {k : Kd} {h : Heap} {it a : Addr} (e : h.get? it = some (k.it0 a)) : k.isIt h it a 0 := by
  cases k with
  | l => exact ⟨_, e, rfl, rfl⟩
  | t => exact ⟨_, e, rfl, rfl⟩
section
variable {X : Cx} {pins : List (Addr × Obj)} {σ : St} {H : Hp} {s : Shared} {a : Addr} {xs ys : List V}
theorem Kd.inv {k : Kd} (I : Inv X pins σ H s) (h : k.sq X.K H a xs) : ∃ its : List Value, Vals xs its ∧ k.isO s.heap a its.toArray := by
  cases k with
  | l =>
    obtain ⟨its, rv, p, _⟩ := I.list h
    exact ⟨its, rv, p.isList⟩
  | t =>
    obtain ⟨its, rv, p, _⟩ := I.tuple h
    exact ⟨its, rv, p⟩
theorem Kd.inj {k : Kd} (I : Inv X pins σ H s) (h : k.sq X.K H a xs) (g : k.sq X.K H a ys) : xs = ys := by
  cases k with
  | l => exact I.list_inj h g
  | t => exact I.tuple_inj h g
theorem Kd.lt {k : Kd} (I : Inv X pins σ H s) (h : k.sq X.K H a xs) : a < s.heap.objs.size := by
  cases k with
  | l =>
    obtain ⟨its, rv, p, _⟩ := I.list h
    exact p.lt
  | t =>
    obtain ⟨its, rv, p, _⟩ := I.tuple h
    obtain ⟨o, e, _⟩ := id p
    exact Heap.lt_size e
end
def Itzd (K : PySem.W.Frag) (k k' : Kd) (a b : Addr) (st : Bool) : It :=
  ⟨fun i H => ∃ (xs ys : List V) (x y : V), k.sq K H a xs ∧ k'.sq K H b ys ∧ xs[i]? = some x ∧ ys[i]? = some y,
    fun i H v H' => ∃ T x y, v = .ref T ∧ H T = none ∧ H' = upd H T (.tup [x, y]) ∧ (∀ xs, k.sq K H a xs → xs[i]? = some x) ∧ ∀ ys, k'.sq K H b ys → ys[i]? = some y,
    fun i H => ∃ xs ys : List V, k.sq K H a xs ∧ k'.sq K H b ys ∧ i = min xs.length ys.length ∧ (st = true → xs.length = ys.length)⟩
theorem turn_zipd {P : Program} {w : World} {K : PySem.W.Frag} {k k' : Kd} {st : Bool} {elts : List Expr} {kk : Nat} {tpos : Pos} {a b z TI TO i1 i2 : Addr} (S : ZipSep2 z TI TO i1 i2 [i1, a] [i2, b]) (n1 : a ≠ i1) (n2 : b ≠ i2) :
    Turn P w K (.Tuple elts kk tpos) (Itzd K k k' a b st) [z, TI, TO, i1, i2] z (fun i h => IsZipT st h z TI TO .none ∧ IsTupOf2 h TI (.ref i1) (.ref i2) ∧ (∃ x y, IsTupOf2 h TO x y) ∧ k.isIt h i1 a i ∧ k'.isIt h i2 b i) where
  mem := by simp
  obj := fun i h st c hc => by
    obtain ⟨hz, hTI, ⟨x, y, hTO⟩, h1, h2⟩ := st
    have e' : c = z ∨ c = TI ∨ c = TO ∨ c = i1 ∨ c = i2 := by simpa using hc
    rcases e' with q | q | q | q | q
    · rw [q]; exact ⟨_, hz, fun v q => nomatch q⟩
    · rw [q]; exact ⟨_, hTI, fun v q => nomatch q⟩
    · rw [q]; exact ⟨_, hTO, fun v q => nomatch q⟩
    · rw [q]; exact Kd.obj h1
    · rw [q]; exact Kd.obj h2
  keep := fun i h h' st k => by
    obtain ⟨hz, hTI, ⟨x, y, hTO⟩, h1, h2⟩ := st
    exact ⟨k z (by simp) _ hz, k TI (by simp) _ hTI, ⟨x, y, k TO (by simp) _ hTO⟩, Kd.at h1 fun o q => k i1 (by simp) o q, Kd.at h2 fun o q => k i2 (by simp) o q⟩
  item := by
    intro X hP hw hK hc i pins s σ H E I hf st hg
    subst hP hw hK
    obtain ⟨hz, hTI, ⟨x0, y0, hTO⟩, h1, h2⟩ := st
    obtain ⟨xs, ys, x, y, hqx, hqy, hx, hy⟩ := hg
    obtain ⟨its, rv, p⟩ := Kd.inv I hqx
    obtain ⟨its2, rv2, p2⟩ := Kd.inv I hqy
    obtain ⟨u, hu, ru⟩ := rv.get hx
    obtain ⟨u2, hu2, ru2⟩ := rv2.get hy
    have hzl : z < s.heap.objs.size := Heap.lt_size hz
    have hd : X.A.in1.handled = none := I.ok.hd hc
    have l1 : i < its.toArray.size := by
      have := (List.getElem?_eq_some_iff.mp hu).1
      simpa using this
    have l2 : i < its2.toArray.size := by
      have := (List.getElem?_eq_some_iff.mp hu2).1
      simpa using this
    refine nextT_item S (k.draws hd n1 its.toArray) (k'.draws hd n2 its2.toArray) hz hTI hTO ⟨h1, p⟩ ⟨h2, p2⟩ l1 l2 fun u' u2' h' tk e1 e2 z' TO' st1' st2' hT hsz hk => ?_
    have e1' : u' = u := by
      have q : its.toArray[i]? = some u' := e1
      have q' : its.toArray[i]? = some u := by simpa using hu
      rw [q'] at q
      exact (Option.some.inj q).symm
    have e2' : u2' = u2 := by
      have q : its2.toArray[i]? = some u2' := e2
      have q' : its2.toArray[i]? = some u2 := by simpa using hu2
      rw [q'] at q
      exact (Option.some.inj q).symm
    subst e1' e2'
    refine ⟨_, rfl, letGoT (s := { s with heap := h', toks := tk }) z' fun h'' z'' sb => ?_⟩
    have hT2 : h''.get? s.heap.objs.size = some { cls := .type "tuple", data := .seq #[u', u2'] } := (sb.2 _ (Nat.ne_of_gt hzl)).trans hT
    have new : ObjOk X.prog X.w (upd H s.heap.objs.size (.tup [x, y])) h'' s.heap.objs.size (.tup [x, y]) :=
      ⟨by show 2 ≤ sizeLine; decide, [u', u2'], .cons ru (.cons ru2 .nil), ⟨_, hT2, rfl, _, rfl⟩⟩
    have I1 : Inv X pins σ (upd H s.heap.objs.size (.tup [x, y])) { s with heap := h'', toks := tk } :=
      I.turnedNew (t' := tk) (ch := [z, TI, TO, i1, i2]) (fun c o hb q => (sb.2 c (fun q' => hb (by simp [q']))).trans (hk c o (fun q' => hb (by simp [q'])) (fun q' => hb (by simp [q'])) (fun q' => hb (by simp [q'])) (fun q' => hb (by simp [q'])) q)) hf (Nat.le_refl _) new
    refine ⟨.ref s.heap.objs.size, _, I1, rfl, ⟨_, x, y, rfl, I.hok.fresh (Nat.le_refl _), rfl, fun l hl => by rw [Kd.inj I hl hqx]; exact hx, fun l hl => by rw [Kd.inj I hl hqy]; exact hy⟩, ⟨z'', ?_, ⟨u', u2', ?_⟩, ?_, ?_⟩, fun c hcm => ?_⟩
    · exact (sb.2 _ S.TIz).trans (hk _ _ S.TIz S.TITO S.TIi1 S.TIi2 hTI)
    · exact (sb.2 _ S.TOz).trans TO'
    · exact Kd.at st1'.1 fun o q => (sb.2 _ S.zi1.symm).trans q
    · exact Kd.at st2'.1 fun o q => (sb.2 _ S.zi2.symm).trans q
    · have hlt : c < s.heap.objs.size := by
        have e' : c = z ∨ c = TI ∨ c = TO ∨ c = i1 ∨ c = i2 := by simpa using hcm
        rcases e' with q | q | q | q | q
        · rw [q]; exact hzl
        · rw [q]; exact Heap.lt_size hTI
        · rw [q]; exact Heap.lt_size hTO
        · rw [q]; obtain ⟨_, e1, _⟩ := Kd.obj h1; exact Heap.lt_size e1
        · rw [q]; obtain ⟨_, e2, _⟩ := Kd.obj h2; exact Heap.lt_size e2
      rw [upd_ne (Nat.ne_of_lt hlt)]
      exact (hf c hcm).1
  done := by
    intro X hP hw hK hc i pins s σ H E I hf st hg
    subst hP hw hK
    obtain ⟨hz, hTI, ⟨x0, y0, hTO⟩, h1, h2⟩ := st
    obtain ⟨xs, ys, hqx, hqy, hend, hsame⟩ := hg
    obtain ⟨its, rv, p⟩ := Kd.inv I hqx
    obtain ⟨its2, rv2, p2⟩ := Kd.inv I hqy
    have l1 := rv.length
    have l2 := rv2.length
    have hd : X.A.in1.handled = none := I.ok.hd hc
    refine nextT_end hd S (k.draws hd n1 its.toArray) (k'.draws hd n2 its2.toArray) hz hTI hTO ⟨h1, p⟩ ⟨h2, p2⟩ (by simp; omega) (by simp; omega) (by simp; omega) (fun e => by have := hsame e; simp; omega) fun h' tk hk => ⟨rfl, I.turnedL (t' := tk) (ch := [z, TI, TO, i1, i2]) (fun c o hb q =>
      hk c o (fun q' => hb (by simp [q'])) (fun q' => hb (by simp [q'])) (fun q' => hb (by simp [q'])) (fun q' => hb (by simp [q'])) q) hf⟩
  self := fun A i s Q E st h => selfT st.1 h
theorem zipD_len : ∀ (ds es : List D), (zipD ds es).length = min ds.length es.length
  | [], _ => by simp [zipD]
  | d :: ds, [] => by simp [zipD]
  | d :: ds, e :: es => by simp [zipD, zipD_len ds es]
theorem zipD_get : ∀ (ds es : List D) (i : Nat) (e : D), (zipD ds es)[i]? = some e → ∃ d d', ds[i]? = some d ∧ es[i]? = some d' ∧ e = .tuple [d, d']
  | [], _, i, e, h => by simp [zipD] at h
  | d :: ds, [], i, e, h => by simp [zipD] at h
  | d :: ds, d' :: es, 0, e, h => by
    simp [zipD] at h
    exact ⟨d, d', rfl, rfl, h.symm⟩
  | d :: ds, d' :: es, i + 1, e, h => by
    obtain ⟨a, b, h1, h2, h3⟩ := zipD_get ds es i e (by simpa [zipD] using h)
    exact ⟨a, b, by simpa using h1, by simpa using h2, h3⟩
def Kd.ho : Kd → List V → HO
  | .l => .lst
  | .t => .tup
theorem Kd.sqOf {K : PySem.W.Frag} {k : Kd} {F : Hp} {a : Addr} {xs : List V} (h : L2.Rd F a (k.ho xs)) : k.sq K F a xs := by
  cases k with
  | l => exact .inl h
  | t => exact .inl h
theorem WalkD.zip {K : PySem.W.Frag} {k k' : Kd} {a b : Addr} {st : Bool} {xs ys : List V} {F : Hp} {ds es : List D} (h : L2.Rd F a (k.ho xs)) (q : DtAll F xs ds) (h' : L2.Rd F b (k'.ho ys)) (q' : DtAll F ys es) (hl : st = true → ds.length = es.length) : WalkD (Itzd K k k' a b st) F (zipD ds es) where
  goes := fun F' H i d s1 s2 e => by
    obtain ⟨d1, d2, e1, e2, _⟩ := zipD_get ds es i d e
    obtain ⟨v, hv, _⟩ := q.get e1
    obtain ⟨w, hw, _⟩ := q'.get e2
    exact ⟨xs, ys, v, w, Kd.sqOf (Same.rd s2 (Same.rd s1 h)), Kd.sqOf (Same.rd s2 (Same.rd s1 h')), hv, hw⟩
  stops := fun F' H s1 s2 => ⟨xs, ys, Kd.sqOf (Same.rd s2 (Same.rd s1 h)), Kd.sqOf (Same.rd s2 (Same.rd s1 h')), by rw [zipD_len, q.length, q'.length], fun e => by rw [q.length, q'.length]; exact hl e⟩
  yields := fun F' H i d x H' s1 s2 e y => by
    obtain ⟨T, v1, v2, rfl, n, rfl, y1, y2⟩ := y
    obtain ⟨d1, d2, e1, e2, rfl⟩ := zipD_get ds es i d e
    obtain ⟨v, hv, t1⟩ := q.get e1
    obtain ⟨w, hw, t2⟩ := q'.get e2
    have z1 := y1 xs (Kd.sqOf (Same.rd s2 (Same.rd s1 h)))
    have z2 := y2 ys (Kd.sqOf (Same.rd s2 (Same.rd s1 h')))
    rw [hv] at z1
    rw [hw] at z2
    cases z1
    cases z2
    exact OpE.pair s2 n (.cons (Dt.mono s1 t1) (.cons (Dt.mono s1 t2) .nil))
def iZipd (K : PySem.W.Frag) (st : Bool) (ta : TA) : TI := fun σ H R => ta σ H fun vs H1 => ∃ a b k k' xs ys, vs = [.ref a, .ref b] ∧ Kd.sq K k H1 a xs ∧ Kd.sq K k' H1 b ys ∧ R (Itzd K k k' a b st) H1
theorem pi_zipd {X : Cx} {e e2 : Expr} {ta : TA} {p pos tpos : Pos} {elts : List Expr} {kk : Nat} (hg : Gl X "zip") (hm : X.mg "zip" = none) (ha : PA X [e, e2] ta)
    (hs : starEach [e, e2] X.env = (false, eval e X.env) :: starEach [e2] X.env := by rfl) (hpl : (backTo pos (starEach [e2] X.env)).any (·.1) = false := by rfl) :
    PI X (.Tuple elts kk tpos) (.Call (.Name "zip" p) [e, e2] [] pos) (iZipd X.K false ta) := by
  refine ⟨fun pins s σ H R I h => ?_⟩
  refine Call_ (ld_blt I hg hm PyProof.Rows.boot_zip (PyProof.Rows.callWith_type1 (thn (ha.run pos pins s σ H _ I h) fun us s1 ⟨vs, H1, I1, r1, q1⟩ => ?_) hs hpl))
  obtain ⟨a, b, k, k', xs, ys, ex, hqx, hqy, q⟩ := q1
  subst ex
  cases r1 with
  | cons r rr =>
    cases rr with
    | cons r' rr =>
      cases rr
      cases r
      cases r'
      obtain ⟨its, rv, p1⟩ := Kd.inv I1 hqx
      obtain ⟨its2, rv2, p2⟩ := Kd.inv I1 hqy
      have la := Kd.lt I1 hqx
      have lb := Kd.lt I1 hqy
      refine zip_begins2 (k.begins a its.toArray) (k'.begins b its2.toArray) p1 p2 fun h' hz hTI hTO h1 h2 hsz hk => selfT (st := false) hz ?_
      have I2 : Inv X pins σ H1 { s1 with heap := h' } := I1.kept (t' := s1.toks) hk
      refine ⟨s1.heap.objs.size + 4, [s1.heap.objs.size + 4, s1.heap.objs.size + 2, s1.heap.objs.size + 3, s1.heap.objs.size, s1.heap.objs.size + 1], _, _, H1, rfl, I2,
        turn_zipd (zip_sep2 (fp1 := [a]) (fp2 := [b]) (fun c hc => by rw [List.mem_singleton.mp hc]; exact la) fun c hc => by rw [List.mem_singleton.mp hc]; exact lb) (Nat.ne_of_lt la) (Nat.ne_of_lt (Nat.lt_succ_of_lt lb)), ⟨hz, hTI, ⟨_, _, hTO⟩, Kd.start h1, Kd.start h2⟩, fun c hcm => ?_, q⟩
      have e' : c = s1.heap.objs.size + 4 ∨ c = s1.heap.objs.size + 2 ∨ c = s1.heap.objs.size + 3 ∨ c = s1.heap.objs.size ∨ c = s1.heap.objs.size + 1 := by simpa using hcm
      have hle : s1.heap.objs.size ≤ c := by
        rcases e' with z | z | z | z | z
        · rw [z]; exact Nat.le_add_right _ _
        · rw [z]; exact Nat.le_add_right _ _
        · rw [z]; exact Nat.le_add_right _ _
        · rw [z]; exact Nat.le_refl _
        · rw [z]; exact Nat.le_add_right _ _
      exact I1.fpOk hle (I1.hok.fresh hle)
theorem pi_zipk {X : Cx} {e e2 : Expr} {ta : TA} {p pos tpos cp kp : Pos} {cu : Nat} {elts : List Expr} {kk : Nat} {st : Bool} (hg : Gl X "zip") (hm : X.mg "zip" = none) (ha : PA X [e, e2] ta)
    (he : backTo pos (starEach [e, e2] X.env) = (false, eval e X.env) :: backTo pos (starEach [e2] X.env)) (hpl : (backTo pos (starEach [e, e2] X.env)).any (·.1) = false) :
    PI X (.Tuple elts kk tpos) (.Call (.Name "zip" p) [e, e2] [⟨some "strict", .Constant (.bool st) cu cp, kp⟩] pos) (iZipd X.K st ta) := by
  refine ⟨fun pins s σ H R I h => ?_⟩
  refine wpAny_Call_Name_kw (ld_blt I hg hm PyProof.Rows.boot_zip (callWith_typeK (thn (ha.run pos pins s σ H _ I h) fun us s0 ⟨vs, H0, I0, r0, q0⟩ => thn ((pk_cons (X := X) (nm := some "strict") (kpos := kp) (pe_bl (X := X) (b := st)) pk_nil).run pos pins s0 σ H0 (fun zs H1 => zs = [.bl st] ∧ H1 = H0) I0 ⟨rfl, rfl⟩) fun ws s1 ⟨zs, H1, I1, r1, q1⟩ => ?_) he hpl))
  obtain ⟨rfl, rfl⟩ := q1
  obtain ⟨a, b, k, k', xs, ys, ex, hqx, hqy, q⟩ := q0
  subst ex
  cases r1 with
  | cons rz rr =>
    cases rr
    cases rz
    cases r0 with
    | cons r rr =>
      cases rr with
      | cons r' rr =>
        cases rr
        cases r
        cases r'
        obtain ⟨its, rv, p1⟩ := Kd.inv I1 hqx
        obtain ⟨its2, rv2, p2⟩ := Kd.inv I1 hqy
        have la := Kd.lt I1 hqx
        have lb := Kd.lt I1 hqy
        refine zipS_begins (k.begins a its.toArray) (k'.begins b its2.toArray) p1 p2 fun h' hz hTI hTO h1 h2 hsz hk => selfT hz ?_
        have I2 : Inv X pins σ H1 { s1 with heap := h' } := I1.kept (t' := s1.toks) hk
        refine ⟨s1.heap.objs.size + 4, [s1.heap.objs.size + 4, s1.heap.objs.size + 2, s1.heap.objs.size + 3, s1.heap.objs.size, s1.heap.objs.size + 1], _, _, H1, rfl, I2,
          turn_zipd (zip_sep2 (fp1 := [a]) (fp2 := [b]) (fun c hc => by rw [List.mem_singleton.mp hc]; exact la) fun c hc => by rw [List.mem_singleton.mp hc]; exact lb) (Nat.ne_of_lt la) (Nat.ne_of_lt (Nat.lt_succ_of_lt lb)), ⟨hz, hTI, ⟨_, _, hTO⟩, Kd.start h1, Kd.start h2⟩, fun c hcm => ?_, q⟩
        have e' : c = s1.heap.objs.size + 4 ∨ c = s1.heap.objs.size + 2 ∨ c = s1.heap.objs.size + 3 ∨ c = s1.heap.objs.size ∨ c = s1.heap.objs.size + 1 := by simpa using hcm
        have hle : s1.heap.objs.size ≤ c := by
          rcases e' with z | z | z | z | z
          · rw [z]; exact Nat.le_add_right _ _
          · rw [z]; exact Nat.le_add_right _ _
          · rw [z]; exact Nat.le_add_right _ _
          · rw [z]; exact Nat.le_refl _
          · rw [z]; exact Nat.le_add_right _ _
        exact I1.fpOk hle (I1.hok.fresh hle)
theorem items_rep {F : Hp} {v : V} {d : D} {ds : List D} (q : Dt F v d) (e : itemsD d = some ds) : ∃ k a xs, v = .ref a ∧ L2.Rd F a (Kd.ho k xs) ∧ DtAll F xs ds := by
  cases q with
  | lst hs ha =>
    cases e
    exact ⟨.l, _, _, rfl, hs, ha⟩
  | tup hs ha =>
    cases e
    exact ⟨.t, _, _, rfl, hs, ha⟩
  | _ => cases e
section
variable {G : Ge} {N : List Str} {k : Nat} {x y z : IR}
theorem si_zip {st : Option Bool} (hx : SE G N k x) (hy : SE G N k y) : SI G N k (.iZip st x y) where
  fs := fun {sc tg e} h env v => by
    dsimp only [mt] at h
    split at h
    · rfl
    · cases h
  p := fun {sc X W tg e} ok tk h => by
    dsimp only [mt] at h
    split at h
    · rename_i el kk tp n p1 l r ks p2
      simp only [Bool.and_eq_true, decide_eq_true_eq] at h
      obtain ⟨⟨⟨⟨rfl, h2⟩, h3⟩, h4⟩, h5⟩ := h
      have hm : X.mg "zip" = none := ok.blt _ (by decide +kernel)
      have st1 := hx.st h3 [r] X.env
      have st2 := hy.st h4 [] X.env
      have core : ∀ (σ : St) (H : Hp) (Z : It → Hp → Prop), Rd X.mg W RelI (den G (.iZip st x y)).i σ H Z → Rd X.mg W RelE (den G x).e σ H fun v H1 => Rd X.mg W RelE (den G y).e σ H1 fun w H2 => ∃ a b k k' xs ys, [v, w] = [.ref a, .ref b] ∧ Kd.sq X.K k H2 a xs ∧ Kd.sq X.K k' H2 b ys ∧ Z (Itzd X.K k k' a b (st == some true)) H2 := by
        intro σ H Z ⟨ρ, μ, F, ι, S, a⟩
        refine Rd.mono (Aft.step (U := RelE) a S Ext.refl) fun v1 H1 ⟨s1, μ1, F1, e1, d1, S1, ⟨r1, n1⟩, a⟩ => ?_
        obtain ⟨d, μ2, F2, e2, sf, S2, q, a⟩ := a.keep S1 e1 r1 n1 fun _ z => z
        refine Rd.mono (Aft.step (U := RelE) a S2 e2) fun v2 H3 ⟨s3, μ3, F3, e3, d3, S3, ⟨r3, n3⟩, a⟩ => ?_
        obtain ⟨d', μ4, F4, e4, sf4, S4, q', a⟩ := a.keep S3 e3 r3 n3 e2.ht
        obtain ⟨ds, i1, a⟩ := a.of
        obtain ⟨es, i2, a⟩ := a.of
        obtain ⟨k1, a1, xs1, rfl, t1, t1'⟩ := items_rep (Dt.mono (d3.fs.trans sf4) q) i1
        obtain ⟨k2, a2, xs2, rfl, t2, t2'⟩ := items_rep q' i2
        split at a
        · exact a.elim
        · rename_i hne
          exact ⟨a1, a2, k1, k2, xs1, xs2, rfl, Kd.sqOf (Same.rd S4.sub t1), Kd.sqOf (Same.rd S4.sub t2), a _ F4 H3 e4 S4 (.zip t1 t1' t2 t2' fun e => Classical.byContradiction fun y => hne ⟨eq_of_beq e, y⟩)⟩
      match st, ks, h5, core with
      | some b, [⟨some n, .Constant (.bool c) _ _, _⟩], h5, core =>
        simp only [Bool.and_eq_true, decide_eq_true_eq] at h5
        obtain ⟨rfl, rfl⟩ := h5
        have eb : (some b == some true) = b := by cases b <;> rfl
        rw [eb] at core
        exact PI.imp (pi_zipk (gl_of ok.hsc h2) hm (pa_cons (hx.e ok tk h3) (pa_cons (hy.e ok tk h4) pa_nil st2) st1) (by rw [st1]; rfl) (by rw [st1, st2]; rfl)) core
      | none, [], _, core => exact PI.imp (pi_zipd (gl_of ok.hsc h2) hm (pa_cons (hx.e ok tk h3) (pa_cons (hy.e ok tk h4) pa_nil st2) st1) st1 (by rw [st2]; rfl)) core
    · cases h
end
end DL

set_option maxHeartbeats 1000000
/-! DL14: targets, comprehensions. -/
namespace DL
open PySem PySem.Spec PyProof.Rows L2
section
variable {ρ ρ' : Rho} {μ : List Cell} {σ : St} {F H : Hp} {ι : List Addr} {G : Ge} {N : List Str} {k : Nat}
theorem Sat.setS (S : Sat ρ μ σ H F ι) (i : Nat) {v : V} {sv : SV} (q : SlotOk F ι v sv) : Sat (ρ.set i (some sv)) μ (σ.set i (some v)) H F ι where
  sub := S.sub
  len := S.len
  nod := S.nod
  cell := S.cell
  slen := by simp [S.slen]
  slot := fun j w e => by
    by_cases z : i = j
    · subst z
      have hl : i < ρ.length := by
        have := (List.getElem?_eq_some_iff.mp e).1
        simpa using this
      rw [List.getElem?_set_self hl] at e
      cases e
      exact ⟨v, List.getElem?_set_self (S.slen ▸ hl), q⟩
    · rw [List.getElem?_set_ne z] at e
      obtain ⟨v', h1, h2⟩ := S.slot j w e
      exact ⟨v', by rw [List.getElem?_set_ne z]; exact h1, h2⟩
theorem Sat.wipe1 (S : Sat ρ μ σ H F ι) (i : Nat) : Sat (ρ.set i none) μ (σ.set i none) H F ι where
  sub := S.sub
  len := S.len
  nod := S.nod
  cell := S.cell
  slen := by simp [S.slen]
  slot := fun j w e => by
    by_cases z : i = j
    · subst z
      have hl : i < ρ.length := by
        have := (List.getElem?_eq_some_iff.mp e).1
        simpa using this
      rw [List.getElem?_set_self hl] at e
      cases e
    · rw [List.getElem?_set_ne z] at e
      obtain ⟨v', h1, h2⟩ := S.slot j w e
      exact ⟨v', by rw [List.getElem?_set_ne z]; exact h1, h2⟩
theorem Sat.wipe (S : Sat ρ μ σ H F ι) : ∀ vs : List Nat, Sat (wipeR ρ vs) μ (L2.wipe σ vs) H F ι
  | [] => S
  | v :: vs => (Sat.wipe S vs).wipe1 v
theorem Sat.upd (S : Sat ρ μ σ H F ι) {a : Addr} {o : HO} (n : F a = none) (m : a ∉ ι) : Sat ρ μ σ (upd H a o) F ι where
  sub := fun b u h => by
    rw [upd_ne (ne_of_none h n)]
    exact S.sub b u h
  len := S.len
  nod := S.nod
  cell := fun j b c h1 h2 => by
    obtain ⟨vs, q, r⟩ := S.cell j b c h1 h2
    have ne : b ≠ a := fun z => m (z ▸ List.mem_of_getElem? h1)
    exact ⟨vs, by rw [upd_ne ne]; exact q, r⟩
  slen := S.slen
  slot := S.slot
/-- the slots may go on as they are, in another state -/
theorem Sat.slots {μ' : List Cell} {σ' : St} {F' H' : Hp} (S : Sat ρ μ σ H F ι) (T : Sat ρ' μ' σ' H' F' ι) (s : Same F F') : Sat ρ μ' σ H' F' ι where
  sub := T.sub
  len := T.len
  nod := T.nod
  cell := T.cell
  slen := S.slen
  slot := fun j w e => by
    obtain ⟨v, h1, h2⟩ := S.slot j w e
    refine ⟨v, h1, ?_⟩
    cases w with
    | dat d => exact Dt.mono s h2
    | own j => exact h2
    | fre _ => exact h2
    | nst j => exact h2
    | frn _ => exact h2

/-! ### targets -/
def Tg.len : Tg → Nat
  | .cons _ b => b.len + 1
  | _ => 0
structure Gt where
  one : TG
  all : TGs
def gOf (K : PySem.W.Frag) : Tg → Gt
  | .nm i => ⟨gName i, fun _ _ _ _ => False⟩
  | .nil => ⟨gTup K 0 gNil, gNil⟩
  | .cons a b => ⟨gTup K (b.len + 1) (gCons (gOf K a).one (gOf K b).all), gCons (gOf K a).one (gOf K b).all⟩
theorem each_of {sc : Scope} : ∀ {t : Tg} {ys : List Expr}, (tgm N t).all sc ys = true → t.len = ys.length ∧ ∀ env, assignEach ys env = ys.map fun y => (false, assign y env)
  | .nm i, ys, h => nomatch h
  | .nil, [], h => ⟨rfl, fun _ => rfl⟩
  | .nil, _ :: _, h => nomatch h
  | .cons a b, [], h => nomatch h
  | .cons a b, y :: ys, h => by
    obtain ⟨h1, h2⟩ := Bool.and_eq_true_iff.mp h
    obtain ⟨q1, q2⟩ := each_of h2
    refine ⟨by simp [Tg.len, q1], fun env => ?_⟩
    rw [List.map_cons, ← q2 env]
    cases a with
    | nm i => cases y <;> first
      | rfl
      | (dsimp only [tgm] at h1; cases h1)
    | nil => cases y <;> first
      | rfl
      | (dsimp only [tgm] at h1; cases h1)
    | cons a c => cases y <;> first
      | rfl
      | (dsimp only [tgm] at h1; cases h1)
theorem each_none (env : Env) : ∀ ys : List Expr, (ys.map fun y => (false, assign y env)).findIdx? (·.1) = none
  | [] => rfl
  | y :: ys => by
    rw [List.map_cons, List.findIdx?_cons, each_none env ys]
    rfl
theorem pgs_tg {sc : Scope} {X : Cx} (ok : OkX G N k sc X) : ∀ t : Tg, (∀ {x : Expr}, (tgm N t).one sc x = true → PG X x (gOf X.K t).one) ∧ ∀ {ys : List Expr}, (tgm N t).all sc ys = true → PGs X ys (gOf X.K t).all
  | .nm i => by
    refine ⟨fun {x} h => ?_, fun h => nomatch h⟩
    dsimp only [tgm] at h
    split at h
    · simp only [Bool.and_eq_true, decide_eq_true_eq] at h
      exact pg_name (by rw [ok.hN]; exact ok.nd) (by rw [ok.hN]; exact h.1) (loc_of ok.hsc h.2) (fn_of' ok h.2)
    · cases h
  | .nil => by
    refine ⟨fun {x} h => ?_, fun {ys} h => ?_⟩
    · dsimp only [tgm] at h
      split at h
      · exact pg_tup ok.calm pgs_nil
      · cases h
    · dsimp only [tgm] at h
      split at h
      · exact pgs_nil
      · cases h
  | .cons a b => by
    have ha := pgs_tg ok a
    have hb := pgs_tg ok b
    have all : ∀ {ys : List Expr}, (tgm N (.cons a b)).all sc ys = true → PGs X ys (gOf X.K (.cons a b)).all := fun {ys} h => by
      have ea := each_of h
      cases ys with
      | nil => cases h
      | cons y ys =>
        obtain ⟨h1, h2⟩ := Bool.and_eq_true_iff.mp h
        refine pgs_cons (ha.1 h1) (hb.2 h2) ?_
        rw [ea.2, (each_of h2).2]
        simp
    refine ⟨fun {x} h => ?_, all⟩
    dsimp only [tgm] at h
    split at h
    · rename_i y ys _ _
      have h' : (tgm N (.cons a b)).all sc (y :: ys) = true := h
      have ea := each_of h'
      exact pg_tup ok.calm (all h') (by rw [ea.2, List.length_map]; exact ea.1.symm) (by rw [ea.2]; exact each_none _ _)
    · cases h
theorem all_len : ∀ (t : Tg) {ρ ρ' : Rho} {ds : List D}, t.f.all ds ρ = some ρ' → ds.length = t.len
  | .nm i, _, _, _, e => nomatch e
  | .nil, _, _, [], _ => rfl
  | .nil, _, _, _ :: _, e => nomatch e
  | .cons a b, _, _, [], e => nomatch e
  | .cons a b, ρ, ρ', x :: ds, e => by
    have e' : (match a.f.one x ρ with
      | some ρ' => b.f.all ds ρ'
      | none => none) = some ρ' := e
    split at e'
    · simp [Tg.len, all_len b e']
    · cases e'
theorem g_ok {K : PySem.W.Frag} : ∀ t : Tg, (∀ {ρ ρ' : Rho} {σ : St} {d : D} {v : V} {Q : St → Hp → Prop}, t.f.one d ρ = some ρ' → Sat ρ μ σ H F ι → Dt F v d →
      (∀ σ', Sat ρ' μ σ' H F ι → (∀ j, j ∉ t.vars → σ'[j]? = σ[j]?) → σ'.length = σ.length → Q σ' H) → (gOf K t).one v σ H Q) ∧
    ∀ {ρ ρ' : Rho} {σ : St} {ds : List D} {vs : List V} {Q : St → Hp → Prop}, t.f.all ds ρ = some ρ' → Sat ρ μ σ H F ι → DtAll F vs ds →
      (∀ σ', Sat ρ' μ σ' H F ι → (∀ j, j ∉ t.vars → σ'[j]? = σ[j]?) → σ'.length = σ.length → Q σ' H) → (gOf K t).all vs σ H Q
  | .nm i => by
    refine ⟨fun {ρ ρ' σ d v Q} e S q c => ?_, fun e => nomatch e⟩
    cases e
    refine c _ (S.setS i (sv := .dat d) q) (fun j hj => ?_) (by simp)
    exact List.getElem?_set_ne fun z => hj (by simp [Tg.vars, z])
  | .nil => by
    refine ⟨fun {ρ ρ' σ d v Q} e S q c => ?_, fun {ρ ρ' σ ds vs Q} e S q c => ?_⟩
    · cases q with
      | tup h w =>
        cases w with
        | nil =>
          cases e
          exact ⟨_, _, rfl, .inl (Same.rd S.sub h), rfl, rfl, c _ S (fun _ _ => rfl) rfl⟩
        | cons _ _ => cases e
      | _ => cases e
    · cases q with
      | nil =>
        cases e
        exact ⟨rfl, c _ S (fun _ _ => rfl) rfl⟩
      | cons _ _ => cases e
  | .cons a b => by
    have ha := g_ok (K := K) a
    have hb := g_ok (K := K) b
    have all : ∀ {ρ ρ' : Rho} {σ : St} {ds : List D} {vs : List V} {Q : St → Hp → Prop}, (Tg.cons a b).f.all ds ρ = some ρ' → Sat ρ μ σ H F ι → DtAll F vs ds →
      (∀ σ', Sat ρ' μ σ' H F ι → (∀ j, j ∉ (Tg.cons a b).vars → σ'[j]? = σ[j]?) → σ'.length = σ.length → Q σ' H) → (gOf K (.cons a b)).all vs σ H Q := fun {ρ ρ' σ ds vs Q} e S q c => by
      cases q with
      | nil => cases e
      | cons q1 q2 =>
        rename_i v vs x ds
        have e' : (match a.f.one x ρ with
          | some ρ' => b.f.all ds ρ'
          | none => none) = some ρ' := e
        split at e'
        · rename_i ρ1 e1
          refine ⟨v, vs, rfl, ha.1 e1 S q1 fun σ1 S1 k1 l1 => hb.2 e' S1 q2 fun σ2 S2 k2 l2 => c σ2 S2 (fun j hj => ?_) (l2.trans l1)⟩
          have hj' : j ∉ a.vars ∧ j ∉ b.vars := by
            constructor
            · intro z
              exact hj (List.mem_append_left _ z)
            · intro z
              exact hj (List.mem_append_right _ z)
          rw [k2 j hj'.2, k1 j hj'.1]
        · cases e'
    refine ⟨fun {ρ ρ' σ d v Q} e S q c => ?_, all⟩
    cases q with
    | tup h w =>
      rename_i p xs ds
      have e2 : (Tg.cons a b).f.all ds ρ = some ρ' := by
        cases ds with
        | nil => cases e
        | cons x ds => exact e
      exact ⟨_, _, rfl, .inl (Same.rd S.sub h), by rw [w.length, all_len _ e2]; rfl, all e2 S w c⟩
    | _ => cases e
theorem wipe_out {τ : St} {j : Nat} : ∀ {ws : List Nat}, j ∉ ws → (L2.wipe τ ws)[j]? = τ[j]?
  | [], _ => rfl
  | w :: ws, z => by
    show ((L2.wipe τ ws).set w none)[j]? = _
    have ne : w ≠ j := fun y => z (by rw [y]; exact List.mem_cons_self ..)
    rw [List.getElem?_set_ne ne]
    exact wipe_out fun y => z (List.mem_cons_of_mem _ y)
theorem wipe_eq {σ σ' : St} : ∀ {vs : List Nat}, σ'.length = σ.length → (∀ j, j ∉ vs → σ'[j]? = σ[j]?) → L2.wipe σ' vs = L2.wipe σ vs := fun {vs} hl h => by
  refine List.ext_getElem? fun j => ?_
  by_cases hj : j ∈ vs
  · have get : ∀ (τ : St) (ws : List Nat), j ∈ ws → (L2.wipe τ ws)[j]? = if j < τ.length then some none else none := fun τ ws => by
      induction ws with
      | nil => intro z; cases z
      | cons w ws ih =>
        intro z
        show ((L2.wipe τ ws).set w none)[j]? = _
        by_cases y : w = j
        · subst y
          by_cases hl : w < τ.length
          · rw [if_pos hl, List.getElem?_set_self (by rw [wipe_length]; exact hl)]
          · rw [if_neg hl]
            exact List.getElem?_eq_none (by simp [wipe_length]; omega)
        · rw [List.getElem?_set_ne y]
          refine ih ?_
          rcases List.mem_cons.mp z with e | e
          · exact absurd e.symm y
          · exact e
    rw [get σ' vs hj, get σ vs hj, hl]
  · have get : ∀ (τ : St) (ws : List Nat), j ∉ ws → (L2.wipe τ ws)[j]? = τ[j]? := fun τ ws => by
      induction ws with
      | nil => intro _; rfl
      | cons w ws ih =>
        intro z
        show ((L2.wipe τ ws).set w none)[j]? = _
        have ne : w ≠ j := fun y => z (by rw [y]; exact List.mem_cons_self ..)
        rw [List.getElem?_set_ne ne]
        exact ih fun y => z (List.mem_cons_of_mem _ y)
    rw [get σ' vs hj, get σ vs hj, h j hj]
end
end DL

set_option maxHeartbeats 1000000
/-! DL15: comprehensions. -/
namespace DL
open PySem PySem.Spec PyProof.Rows L2
abbrev W0 : WX := fun _ _ _ _ => False
section
variable {G : Ge} {N : List Str} {k : Nat} {x y z : IR}
theorem lookup_rel {c : Str → Bool} : ∀ {names : List (Str × NameKind)} {x : Str}, (names.map fun (n, k) => if (k == NameKind.free && c n) then (n, NameKind.cell) else (n, k)).lookup x = (match names.lookup x with
    | some .free => if c x = true then some .cell else some .free
    | o => o)
  | [], x => rfl
  | (n, k) :: r, x => by
    rw [List.map_cons]
    cases hx : x == n with
    | true =>
      have e : x = n := eq_of_beq hx
      subst e
      rw [List.lookup_cons_self]
      by_cases hc : (k == NameKind.free && c x) = true
      · have h2 := Bool.and_eq_true_iff.mp hc
        have e : k = .free := eq_of_beq h2.1
        subst e
        simp [h2.2]
      · cases k <;> first
          | (simp at hc; simp [hc])
          | simp
    | false =>
      have e : List.lookup x ((n, k) :: r) = List.lookup x r := by simp [List.lookup_cons, hx]
      rw [e]
      rw [← lookup_rel (c := c) (names := r) (x := x)]
      show List.lookup x ((if (k == NameKind.free && c n) = true then (n, NameKind.cell) else (n, k)) :: _) = _
      by_cases hc : (k == NameKind.free && c n) = true
      · rw [if_pos hc]
        simp only [List.lookup_cons, hx]
      · rw [if_neg hc]
        simp only [List.lookup_cons, hx]
theorem lookup_relabel {scope : Scope} {env : Env} {x : Str} : (relabel scope env).names.lookup x = (match scope.names.lookup x with
    | some .free => if (env.scope.kind == .function && env.kindOf x == some .cell) = true then some .cell else some .free
    | o => o) := by
  have := lookup_rel (c := fun n => env.scope.kind == .function && env.kindOf n == some .cell) (names := scope.names) (x := x)
  rw [← this]
  unfold relabel
  simp only [Bool.and_assoc]
theorem Sees.blk {scope : Scope} {X : Cx} (s : Shared) (H : Hp) (C : Addr) (cl : List (Str × Addr)) (fp : List Addr) (hk : scope.kind = .function) : Sees scope (X.blk s H scope (compEnvC scope cl C X.env) fp) where
  vis := fun n h => by
    show Vis (relabel scope X.env) n
    unfold Vis
    rw [lookup_relabel]
    unfold visB at h
    split at h
    · rename_i e
      rw [e]
      exact .inl rfl
    · rename_i e
      rw [e]
      exact .inr (.inl rfl)
    · rename_i e
      rw [e]
      by_cases c : (X.env.scope.kind == .function && X.env.kindOf n == some .cell) = true
      · exact .inr (.inl (by simp [c]))
      · exact .inr (.inr (by simp [c]))
    · cases h
  loc := fun n h => by
    show L2.Loc (relabel scope X.env) n ∧ ((scope.names.lookup n == some .cell) = true ∨ (relabel scope X.env).names.lookup n = some .local)
    unfold L2.Loc
    rw [lookup_relabel]
    unfold locB at h
    split at h
    · rename_i e
      rw [e]
      exact ⟨.inl rfl, .inr rfl⟩
    · rename_i e
      rw [e]
      exact ⟨.inr rfl, .inl rfl⟩
    · cases h
  gl := fun n h => by
    show (relabel scope X.env).names.lookup n = some .globalImplicit
    rw [lookup_relabel]
    unfold glB at h
    split at h
    · rename_i e
      rw [e]
    · cases h
  lcl := fun n h => by
    show (relabel scope X.env).names.lookup n = some .local
    rw [lookup_relabel]
    unfold lclB at h
    split at h
    · rename_i e
      rw [e]
    · cases h
  fr := fun n h => by
    show (relabel scope X.env).names.lookup n = some .cell ∨ (relabel scope X.env).names.lookup n = some .free
    rw [lookup_relabel]
    rcases h with h | h
    · rw [h]
      exact .inl rfl
    · rw [h]
      by_cases c : (X.env.scope.kind == .function && X.env.kindOf n == some .cell) = true
      · exact .inl (by simp [c])
      · exact .inr (by simp [c])
  kind := hk
theorem OkX.blk {sc scope : Scope} {X : Cx} (ok : OkX G N k sc X) (hk : scope.kind = .function) (s : Shared) (H : Hp) (C : Addr) (cl : List (Str × Addr)) (fp : List Addr) : OkX G N k scope (X.blk s H scope (compEnvC scope cl C X.env) fp) where
  hN := ok.hN
  nd := ok.nd
  hsc := Sees.blk s H C cl fp hk
  calm := ok.calm
  room := ok.room
  grd := ok.grd
  cal := fun c h => ⟨(ok.cal c h).ex⟩
  con := ok.con
  blt := ok.blt
  exo := fun c h => ⟨(ok.exo c h).ex⟩
  exm := ok.exm
theorem PTs.imp {X : Cx} {e : List Expr} {t t' : TT} (h : PTs X e t) (i : ∀ σ H Q, t' σ H Q → t σ H Q) : PTs X e t' := ⟨fun pins s σ H Q I q => h.run pins s σ H Q I (i σ H Q q)⟩
noncomputable def lcT (G : Ge) (t : IR) : Rho → List Cell → R Bool := fun ρ1 μ2 => match t with
  | .nil => .ok true μ2
  | _ => testR (den G t).e ρ1 μ2
noncomputable def lcE (G : Ge) (e : IR) : Rho → List Cell → R D := fun ρ1 μ2 => ((den G e).e ρ1 μ2).bind fun v μ3 => v.keep μ3
/-- the state of a comprehension's loop -/
structure LcSt (asg : D → Rho → Option Rho) (tt : Rho → List Cell → R Bool) (te : Rho → List Cell → R (List D)) (ρ : Rho) (σ : St) (ι : List Addr) (ds ys : List D) (μ' : List Cell) (F1 H1 : Hp) (D : Addr) (i : Nat) (H : Hp) : Prop where
  ex : ∃ μ acc F vs, H D = some (.lst vs) ∧ F D = none ∧ DtAll F vs acc ∧ acc.length ≤ i ∧ Ext ι F1 H1 F H ∧ Sat ρ μ σ H F ι ∧ ∃ rest, lcR asg tt te ρ (ds.drop i) μ = .ok rest μ' ∧ acc ++ rest = ys
theorem Ext.updNew {ι : List Addr} {F0 H0 F H : Hp} {D : Addr} {o : HO} (e : Ext ι F0 H0 F H) (n : H0 D = none) : Ext ι F0 H0 F (upd H D o) where
  fs := e.fs
  hs := fun b u h m => by
    rw [upd_ne (ne_of_none h n)]
    exact e.hs b u h m
  ht := fun b h => by
    obtain ⟨h1, h2⟩ := upd_none h
    exact e.ht b h2
  new := e.new
theorem noX_ok {α : Type} {r : R α} {a : α} {μ : List Cell} (h : r.noX = .ok a μ) : r = .ok a μ := by
  cases r <;> first
    | exact h
    | cases h
theorem bind_ok {α β : Type} {r : R α} {f : α → List Cell → R β} {b : β} {μ : List Cell} (h : r.bind f = .ok b μ) : ∃ a μ1, r = .ok a μ1 ∧ f a μ1 = .ok b μ := by
  cases r with
  | ok a μ1 => exact ⟨a, μ1, rfl, h⟩
  | exc x μ1 => cases h
  | stuck => cases h
theorem Ext.free {ι : List Addr} {F H F' H' : Hp} {D : Addr} {o : HO} (e : Ext ι F H F' H') (h : H D = some o) (n : F D = none) (m : D ∉ ι) : F' D = none := by
  cases q : F' D with
  | none => rfl
  | some u =>
    rcases e.new D u q with z | z | z
    · rw [n] at z; cases z
    · rw [h] at z; cases z
    · exact absurd z m
/-- behind a turn the slots are forgotten again -/
theorem dropW {ρ ρ' : Rho} {μ μ' : List Cell} {σ σ' : St} {F H F' H' : Hp} {ι : List Addr} (S : Sat ρ μ σ H F ι) (T : Sat ρ' μ' σ' H' F' ι) (s : Same F F') : Sat ρ μ' σ H' F' ι := S.slots T s
theorem lc_read {X : Cx} {W : WX} {vs : List (Str × Nat)} {tg : Tg} {it t e : IR} (hv : ∀ i ∈ tg.vars, i ∈ vs.map (·.2)) {σ : St} {H : Hp} {Q : VK} (h : Rd X.mg W RelE (den G (.lc vs tg it t e)).e σ H Q) :
    tLc (fun σ H R => Rd X.mg W RelI (den G it).i σ H R) (gOf X.K tg).one (Rd X.mg W0 RelB (lcT G t)) (Rd X.mg W0 RelE (den G e).e) (vs.map (·.2)) σ H Q := by
  obtain ⟨ρ, μ, F, ι, S, a⟩ := h
  refine ⟨ρ, μ, F, ι, S, ?_⟩
  replace a : Aft X.mg W RelE ρ σ ι F H (((den G it).i ρ μ).noX.bind fun ds μ1 =>
      if ds.length ≤ 10000000 then
        (lcR tg.f.one (lcT G t) (fun ρ1 μ2 => ((den G e).e ρ1 μ2).bind fun v μ3 => (v.keep μ3).bind fun d μ4 => .ok [d] μ4) (wipeR ρ (vs.map (·.2))) ds μ1).noX.bind fun ys μ2 => .ok (.fre ys) μ2
      else .stuck) Q := a
  cases e1 : (den G it).i ρ μ with
  | stuck =>
    rw [e1] at a
    exact a.elim
  | exc x μ1 =>
    rw [e1] at a
    exact a.elim
  | ok ds μ1 =>
    rw [e1] at a
    replace a : Aft X.mg W RelE ρ σ ι F H (if ds.length ≤ 10000000 then
        (lcR tg.f.one (lcT G t) (fun ρ1 μ2 => ((den G e).e ρ1 μ2).bind fun v μ3 => (v.keep μ3).bind fun d μ4 => .ok [d] μ4) (wipeR ρ (vs.map (·.2))) ds μ1).noX.bind fun ys μ2 => .ok (.fre ys) μ2
      else .stuck) Q := a
    split at a
    case isFalse => exact a.elim
    rename_i hlen
    cases e2 : lcR tg.f.one (lcT G t) (fun ρ1 μ2 => ((den G e).e ρ1 μ2).bind fun v μ3 => (v.keep μ3).bind fun d μ4 => .ok [d] μ4) (wipeR ρ (vs.map (·.2))) ds μ1 with
    | stuck =>
      rw [e2] at a
      exact a.elim
    | exc x μ1 =>
      rw [e2] at a
      exact a.elim
    | ok ys μ2 =>
      rw [e2] at a
      intro J F1 H1 x1 S1 wd Dn hD
      have mD : Dn ∉ ι := S1.notIn hD
      have fD : F1 Dn = none := by
        cases q : F1 Dn with
        | none => rfl
        | some u => rw [S1.sub _ _ q] at hD; cases hD
      have app : ∀ (i : Nat) (m : Nat) (H : Hp), (m = ds.length - i ∧ i ≤ ds.length ∧ LcSt tg.f.one (lcT G t) (fun ρ1 μ2 => ((den G e).e ρ1 μ2).bind fun v μ3 => (v.keep μ3).bind fun d μ4 => .ok [d] μ4) (wipeR ρ (vs.map (·.2))) (L2.wipe σ (vs.map (·.2))) ι ds ys μ2 F1 H1 Dn i H) →
        (J.stop i H ∧ Q (.ref Dn) H) ∨ (J.go i H ∧ ∃ Nx : Hp → Prop, (∀ H', Nx H' → ∃ m', m' < m ∧ (m' = ds.length - (i + 1) ∧ i + 1 ≤ ds.length ∧ LcSt tg.f.one (lcT G t) (fun ρ1 μ2 => ((den G e).e ρ1 μ2).bind fun v μ3 => (v.keep μ3).bind fun d μ4 => .ok [d] μ4) (wipeR ρ (vs.map (·.2))) (L2.wipe σ (vs.map (·.2))) ι ds ys μ2 F1 H1 Dn (i + 1) H')) ∧
          ∀ x H', J.yld i H x H' → (gOf X.K tg).one x (L2.wipe σ (vs.map (·.2))) H' fun σ2 H2 => L2.wipe σ2 (vs.map (·.2)) = L2.wipe σ (vs.map (·.2)) ∧ Rd X.mg W0 RelB (lcT G t) σ2 H2 fun b H3 =>
            if b = true then Rd X.mg W0 RelE (den G e).e σ2 H3 fun y H4 => ∃ acc, H4 Dn = some (.lst acc) ∧ acc.length < sizeLine ∧ Nx (L2.upd H4 Dn (.lst (acc ++ [y]))) else Nx H3) := by
        rintro i m Hi ⟨rfl, hi, ⟨μi, acc, Fi, vsi, g1, g2, g3, g4, g5, g6, rest, g7, g8⟩⟩
        have gs : Same Fi Hi := g6.sub
        have gf : Same F1 Fi := g5.fs
        by_cases hlt : i < ds.length
        · have hd : ds[i]? = some ds[i] := by simp [hlt]
          rw [List.drop_eq_getElem_cons hlt] at g7
          unfold lcR at g7
          split at g7
          case h_1 => cases g7
          rename_i ρ1 ea
          obtain ⟨b, μb, eb, g7⟩ := bind_ok g7
          refine .inr ⟨wd.goes Fi Hi i _ gf gs hd, fun H' => i + 1 ≤ ds.length ∧ LcSt tg.f.one (lcT G t) (fun ρ1 μ2 => ((den G e).e ρ1 μ2).bind fun v μ3 => (v.keep μ3).bind fun d μ4 => .ok [d] μ4) (wipeR ρ (vs.map (·.2))) (L2.wipe σ (vs.map (·.2))) ι ds ys μ2 F1 H1 Dn (i + 1) H', fun H' q => ⟨_, by omega, rfl, q⟩, fun x H' y => ?_⟩
          obtain ⟨F2, op, dx⟩ := wd.yields Fi Hi i _ x H' gf gs hd y
          have S2 := op.sat g6
          refine (g_ok tg).1 ea S2 dx fun σ2 S3 k3 l3 => ?_
          have wq : L2.wipe σ2 (vs.map (·.2)) = L2.wipe σ (vs.map (·.2)) := by
            have h1 : L2.wipe σ2 (vs.map (·.2)) = L2.wipe (L2.wipe σ (vs.map (·.2))) (vs.map (·.2)) := wipe_eq l3 fun j hj => k3 j fun z => hj (hv j z)
            rw [h1]
            exact wipe_eq (wipe_length _ _) fun j hj => wipe_out hj
          refine ⟨wq, ρ1, μi, F2, ι, S3, ?_⟩
          rw [eb]
          intro b' F3 H3 x3 S4 rb
          subst rb
          have opx := op.ext (ι := ι)
          have g1' : H3 Dn = some (.lst vsi) := x3.hs _ _ (op.hs _ _ g1) mD
          have g2' : F3 Dn = none := (opx.trans x3).free g1 g2 mD
          have xx : Ext ι F1 H1 F3 H3 := g5.trans (opx.trans x3)
          cases b' with
          | false =>
            rw [if_neg Bool.false_ne_true]
            exact ⟨by omega, ⟨μb, acc, F3, vsi, g1', g2', DtAll.mono (opx.trans x3).fs g3, by omega, xx, dropW g6 S4 (opx.trans x3).fs, rest, g7, g8⟩⟩
          | true =>
            rw [if_pos rfl]
            obtain ⟨yy, μy, ey, g7⟩ := bind_ok g7
            obtain ⟨v, μv, ev, ey⟩ := bind_ok ey
            obtain ⟨dd, μd, ed, ey⟩ := bind_ok ey
            cases ey
            obtain ⟨rest', μr, er, g7⟩ := bind_ok g7
            cases g7
            refine ⟨ρ1, μb, F3, ι, S4, ?_⟩
            rw [ev]
            intro yv F4 H4 x4 S5 ⟨ry, ny⟩
            obtain ⟨F5, x5, sf, S6, q⟩ := S5.keep x4 ry ny ed
            have g1'' : H4 Dn = some (.lst vsi) := x5.hs _ _ g1' mD
            have g2'' : F5 Dn = none := x5.free g1' g2' mD
            have all := DtAll.mono ((opx.trans x3).trans x5).fs g3
            refine ⟨vsi, g1'', ?_, by omega, ⟨μy, acc ++ [dd], F5, vsi ++ [yv], upd_same, g2'', all.append (.cons q .nil), by simp; omega, (xx.trans x5).updNew hD, (dropW g6 S6 ((opx.trans x3).trans x5).fs).upd g2'' mD, rest', er, ?_⟩⟩
            · have := all.length
              have h2 := size7 (n := acc.length + 1) (by omega)
              omega
            · rw [List.append_assoc]
              exact g8
        · have e : i = ds.length := by omega
          subst e
          rw [List.drop_length] at g7
          cases g7
          rw [List.append_nil] at g8
          subst g8
          refine .inl ⟨wd.stops Fi Hi gf gs, a (.ref Dn) Fi Hi (x1.trans g5) (S.slots g6 (x1.trans g5).fs) ⟨⟨Dn, vsi, rfl, g1, g2, mD, g3⟩, fun p z => ?_⟩⟩
          cases z
          exact x1.ht _ hD
      refine ⟨fun i m H => m = ds.length - i ∧ i ≤ ds.length ∧ LcSt tg.f.one (lcT G t) (fun ρ1 μ2 => ((den G e).e ρ1 μ2).bind fun v μ3 => (v.keep μ3).bind fun d μ4 => .ok [d] μ4) (wipeR ρ (vs.map (·.2))) (L2.wipe σ (vs.map (·.2))) ι ds ys μ2 F1 H1 Dn i H, ⟨_, rfl, Nat.zero_le _, ⟨μ1, [], F1, [], upd_same, fD, .nil, Nat.le_refl _, Ext.refl.updNew hD, (S1.upd fD mD).wipe _, ys, e2, rfl⟩⟩, ?_⟩
      rintro i m H ⟨rfl, hi, q⟩
      rcases app i _ H ⟨rfl, hi, q⟩ with h | ⟨h1, Nx, h2, h3⟩
      · exact .inl h
      · exact .inr ⟨h1, Nx, h2, h3⟩
/-- the state of the outer loop of a comprehension of two sources -/
structure Lc2St (f : List D → List Cell → R (List D)) (ρ : Rho) (σ : St) (ι : List Addr) (ds ys : List D) (μ' : List Cell) (F1 H1 : Hp) (D : Addr) (i : Nat) (H : Hp) : Prop where
  ex : ∃ μ acc F vs, H D = some (.lst vs) ∧ F D = none ∧ DtAll F vs acc ∧ Ext ι F1 H1 F H ∧ Sat ρ μ σ H F ι ∧ ∃ rest, f (ds.drop i) μ = .ok rest μ' ∧ acc ++ rest = ys
/-- the state of its inner loop -/
structure Lc2In (f : List D → List Cell → R (List D)) (ρ : Rho) (σ : St) (ι : List Addr) (ds zs acc0 : List D) (μ' : List Cell) (F1 H1 F4 : Hp) (D : Addr) (j : Nat) (H : Hp) : Prop where
  ex : ∃ μ acc F vs, H D = some (.lst vs) ∧ F D = none ∧ DtAll F vs (acc0 ++ acc) ∧ Ext ι F1 H1 F H ∧ Same F4 F ∧ Sat ρ μ σ H F ι ∧ ∃ rest, f (ds.drop j) μ = .ok rest μ' ∧ acc ++ rest = zs
abbrev lcY : Rho → List Cell → R Bool := fun _ μ => .ok true μ
noncomputable abbrev lcF (G : Ge) (e : IR) : Rho → List Cell → R (List D) := fun ρ2 μ4 => ((den G e).e ρ2 μ4).bind fun v μ5 => (v.keep μ5).bind fun d μ6 => .ok [d] μ6
noncomputable abbrev lcI (G : Ge) (vs1 : List Nat) (tg' : Tg) (it' e : IR) : Rho → List Cell → R (List D) := fun ρ1 μ2 => ((den G it').i ρ1 μ2).noX.bind fun ds' μ3 => lcR tg'.f.one lcY (lcF G e) (wipeR ρ1 vs1) ds' μ3
theorem tYes_eq {σ : St} {H : Hp} {Q : Bool → Hp → Prop} : tYes σ H Q = Q true H := rfl
theorem wipe_tg {tg : Tg} {vs : List Nat} (hv : ∀ i ∈ tg.vars, i ∈ vs) {σ σ2 : St} (k3 : ∀ j, j ∉ tg.vars → σ2[j]? = (L2.wipe σ vs)[j]?) (l3 : σ2.length = (L2.wipe σ vs).length) : L2.wipe σ2 vs = L2.wipe σ vs := by
  have h1 : L2.wipe σ2 vs = L2.wipe (L2.wipe σ vs) vs := wipe_eq l3 fun j hj => k3 j fun z => hj (hv j z)
  rw [h1]
  exact wipe_eq (wipe_length _ _) fun j hj => wipe_out hj
theorem lc2_read {X : Cx} {W : WX} {vs : List (Str × Nat)} {vs1 : List Nat} {tg tg' : Tg} {it it' e : IR} (hv : ∀ i ∈ tg.vars, i ∈ vs.map (·.2)) (hv1 : ∀ i ∈ tg'.vars, i ∈ vs1) {σ : St} {H : Hp} {Q : VK} (h : Rd X.mg W RelE (den G (.lc2 vs vs1 tg it tg' it' e)).e σ H Q) :
    tLc2 (fun σ H R => Rd X.mg W RelI (den G it).i σ H R) (gOf X.K tg).one tYes (fun σ H R => Rd X.mg W0 RelI (den G it').i σ H R) (gOf X.K tg').one tYes (Rd X.mg W0 RelE (den G e).e) (vs.map (·.2)) vs1 σ H Q := by
  obtain ⟨ρ, μ, F, ι, S, a⟩ := h
  refine ⟨ρ, μ, F, ι, S, ?_⟩
  replace a : Aft X.mg W RelE ρ σ ι F H (((den G it).i ρ μ).noX.bind fun ds μ1 =>
      (lcR tg.f.one lcY (lcI G vs1 tg' it' e) (wipeR ρ (vs.map (·.2))) ds μ1).noX.bind fun ys μ2 => if ys.length ≤ 10000000 then .ok (.fre ys) μ2 else .stuck) Q := a
  cases e1 : (den G it).i ρ μ with
  | stuck =>
    rw [e1] at a
    exact a.elim
  | exc x μ1 =>
    rw [e1] at a
    exact a.elim
  | ok ds μ1 =>
    rw [e1] at a
    replace a : Aft X.mg W RelE ρ σ ι F H ((lcR tg.f.one lcY (lcI G vs1 tg' it' e) (wipeR ρ (vs.map (·.2))) ds μ1).noX.bind fun ys μ2 => if ys.length ≤ 10000000 then .ok (.fre ys) μ2 else .stuck) Q := a
    cases e2 : lcR tg.f.one lcY (lcI G vs1 tg' it' e) (wipeR ρ (vs.map (·.2))) ds μ1 with
    | stuck =>
      rw [e2] at a
      exact a.elim
    | exc x μ1 =>
      rw [e2] at a
      exact a.elim
    | ok ys μ2 =>
      rw [e2] at a
      replace a : Aft X.mg W RelE ρ σ ι F H (if ys.length ≤ 10000000 then .ok (.fre ys) μ2 else .stuck) Q := a
      split at a
      case isFalse => exact a.elim
      rename_i hlen
      intro J F1 H1 x1 S1 wd Dn hD
      have mD : Dn ∉ ι := S1.notIn hD
      have fD : F1 Dn = none := by
        cases q : F1 Dn with
        | none => rfl
        | some u => rw [S1.sub _ _ q] at hD; cases hD
      refine ⟨fun i m H => m = ds.length - i ∧ i ≤ ds.length ∧ Lc2St (lcR tg.f.one lcY (lcI G vs1 tg' it' e) (wipeR ρ (vs.map (·.2)))) (wipeR ρ (vs.map (·.2))) (L2.wipe σ (vs.map (·.2))) ι ds ys μ2 F1 H1 Dn i H, ⟨_, rfl, Nat.zero_le _, ⟨μ1, [], F1, [], upd_same, fD, .nil, Ext.refl.updNew hD, (S1.upd fD mD).wipe _, ys, e2, rfl⟩⟩, ?_⟩
      rintro i m Hi ⟨rfl, hi, ⟨μi, acc, Fi, vsi, g1, g2, g3, g5, g6, rest, g7, g8⟩⟩
      have gs : Same Fi Hi := g6.sub
      have gf : Same F1 Fi := g5.fs
      by_cases hlt : i < ds.length
      · have hd : ds[i]? = some ds[i] := by simp [hlt]
        rw [List.drop_eq_getElem_cons hlt] at g7
        unfold lcR at g7
        split at g7
        case h_1 => cases g7
        rename_i ρ1 ea
        obtain ⟨b, μb, eb, g7⟩ := bind_ok g7
        cases eb
        obtain ⟨zs, μz, ez, g7⟩ := bind_ok g7
        obtain ⟨rest', μr, er, g7⟩ := bind_ok g7
        cases g7
        obtain ⟨ds', μd, ed, ez⟩ := bind_ok ez
        replace ed := noX_ok ed
        refine .inr ⟨wd.goes Fi Hi i _ gf gs hd, fun H' => i + 1 ≤ ds.length ∧ Lc2St (lcR tg.f.one lcY (lcI G vs1 tg' it' e) (wipeR ρ (vs.map (·.2)))) (wipeR ρ (vs.map (·.2))) (L2.wipe σ (vs.map (·.2))) ι ds ys μ2 F1 H1 Dn (i + 1) H', fun H' q => ⟨_, by omega, rfl, q⟩, fun x H' y => ?_⟩
        obtain ⟨F2, op, dx⟩ := wd.yields Fi Hi i _ x H' gf gs hd y
        refine (g_ok tg).1 ea (op.sat g6) dx fun σ2 S3 k3 l3 => ?_
        refine ⟨wipe_tg hv k3 l3, ?_⟩
        rw [tYes_eq]
        rw [if_pos rfl]
        refine ⟨ρ1, μi, F2, ι, S3, ?_⟩
        rw [ed]
        intro J1 F4 H4 x4 S4 wd1
        have opx := op.ext (ι := ι)
        have g1' : H4 Dn = some (.lst vsi) := x4.hs _ _ (op.hs _ _ g1) mD
        have g2' : F4 Dn = none := (opx.trans x4).free g1 g2 mD
        have sx : Same Fi F4 := (opx.trans x4).fs
        refine ⟨fun j k H => k = ds'.length - j ∧ j ≤ ds'.length ∧ Lc2In (lcR tg'.f.one lcY (lcF G e) (wipeR ρ1 vs1)) (wipeR ρ1 vs1) (L2.wipe σ2 vs1) ι ds' zs acc μz F1 H1 F4 Dn j H, ⟨_, rfl, Nat.zero_le _, ⟨μd, [], F4, vsi, g1', g2', by rw [List.append_nil]; exact DtAll.mono sx g3, g5.trans (opx.trans x4), Same.refl _, S4.wipe _, zs, ez, rfl⟩⟩, ?_⟩
        rintro j k Hj ⟨rfl, hj, ⟨μj, acc1, Fj, vsj, f1, f2, f3, f4, f5, f6, rest1, f7, f8⟩⟩
        by_cases hlt1 : j < ds'.length
        · have hd1 : ds'[j]? = some ds'[j] := by simp [hlt1]
          rw [List.drop_eq_getElem_cons hlt1] at f7
          unfold lcR at f7
          split at f7
          case h_1 => cases f7
          rename_i ρ2 ea1
          obtain ⟨b, μb, eb, f7⟩ := bind_ok f7
          cases eb
          obtain ⟨yy, μy, ey, f7⟩ := bind_ok f7
          obtain ⟨rest2, μr, er2, f7⟩ := bind_ok f7
          cases f7
          obtain ⟨v, μv, ev, ey⟩ := bind_ok ey
          obtain ⟨dd, μe, ek, ey⟩ := bind_ok ey
          cases ey
          refine .inr ⟨wd1.goes Fj Hj j _ f5 f6.sub hd1, fun H' => j + 1 ≤ ds'.length ∧ Lc2In (lcR tg'.f.one lcY (lcF G e) (wipeR ρ1 vs1)) (wipeR ρ1 vs1) (L2.wipe σ2 vs1) ι ds' zs acc μz F1 H1 F4 Dn (j + 1) H', fun H' q => ⟨_, by omega, rfl, q⟩, fun x H' y => ?_⟩
          obtain ⟨F5, op5, dx5⟩ := wd1.yields Fj Hj j _ x H' f5 f6.sub hd1 y
          refine (g_ok tg').1 ea1 (op5.sat f6) dx5 fun σ3 S5 k5 l5 => ?_
          refine ⟨wipe_tg hv1 k5 l5, ?_⟩
          rw [tYes_eq]
          rw [if_pos rfl]
          refine ⟨ρ2, _, F5, ι, S5, ?_⟩
          rw [ev]
          intro yv F6 H6 x6 S6 ⟨ry, ny⟩
          obtain ⟨F7, x7, sf, S7, q⟩ := S6.keep x6 ry ny ek
          have op5x := op5.ext (ι := ι)
          have f1' : H6 Dn = some (.lst vsj) := x7.hs _ _ (op5.hs _ _ f1) mD
          have xx : Ext ι Fj Hj F7 H6 := op5x.trans x7
          have f2' : F7 Dn = none := xx.free f1 f2 mD
          have all := DtAll.mono xx.fs f3
          refine ⟨vsj, f1', ?_, by omega, ⟨_, acc1 ++ [dd], F7, vsj ++ [yv], upd_same, f2', by rw [← List.append_assoc]; exact all.append (.cons q .nil), (f4.trans xx).updNew hD, f5.trans xx.fs, (dropW f6 S7 xx.fs).upd f2' mD, rest2, er2, ?_⟩⟩
          · have h1 := all.length
            have h2 := size7 hlen
            rw [← g8, ← f8] at h2
            simp at h1 h2
            omega
          · rw [← f8]
            simp
        · have ej : j = ds'.length := by omega
          subst ej
          rw [List.drop_length] at f7
          cases f7
          rw [List.append_nil] at f8
          subst f8
          refine .inl ⟨wd1.stops Fj Hj f5 f6.sub, by omega, ⟨_, acc ++ acc1, Fj, vsj, f1, f2, f3, f4, dropW g6 f6 (sx.trans f5), rest', er, ?_⟩⟩
          rw [← g8]
          simp
      · have ei : i = ds.length := by omega
        subst ei
        rw [List.drop_length] at g7
        cases g7
        rw [List.append_nil] at g8
        subst g8
        refine .inl ⟨wd.stops Fi Hi gf gs, a (.ref Dn) Fi Hi (x1.trans g5) (S.slots g6 (x1.trans g5).fs) ⟨⟨Dn, vsi, rfl, g1, g2, mD, g3⟩, fun p z => ?_⟩⟩
        cases z
        exact x1.ht _ hD
end
end DL

set_option maxHeartbeats 1000000
/-! DL16: comprehensions as expressions and as what a name is set to. -/
namespace DL
open PySem PySem.Spec PyProof.Rows L2
section
variable {G : Ge} {N : List Str} {k : Nat} {x y z : IR}
theorem blk_of {sc scope : Scope} {X : Cx} {vs : List (Str × Nat)} (ok : OkX G N k sc X) (h : blkC N sc scope vs = true) : BlkOk X.N X.env.scope scope vs := by
  have b := blkOk_by h
  exact ⟨b.kind, b.uniq, by rw [ok.hN]; exact b.ix, fun y hy e => ok.hsc.fr _ (b.free y hy e), by rw [ok.hN]; exact b.own⟩
/-- what a comprehension's text gives -/
structure LcOk (X : Cx) (W : WX) (elt tg iter : Expr) (ifs : List Expr) (scope : Scope) (own : List (Str × Nat)) (G : Ge) (t : Tg) (it tt e : IR) : Prop where
  hi : PI X tg iter fun σ H R => Rd X.mg W RelI (den G it).i σ H R
  ok : BlkOk X.N X.env.scope scope own
  hg : ∀ (s : Shared) (H : Hp) (C : Addr) (cl : List (Str × Addr)) (fp : List Addr), PG (X.blk s H scope (compEnvC scope cl C X.env) fp) tg (gOf X.K t).one
  ht : ∀ (s : Shared) (H : Hp) (C : Addr) (cl : List (Str × Addr)) (fp : List Addr), PTs (X.blk s H scope (compEnvC scope cl C X.env) fp) ifs (Rd X.mg W0 RelB (lcT G tt))
  he : ∀ (s : Shared) (H : Hp) (C : Addr) (cl : List (Str × Addr)) (fp : List Addr), PE (X.blk s H scope (compEnvC scope cl C X.env) fp) elt (Rd X.mg W0 RelE (den G e).e)
  hs : ∀ x, foldedSetIterable iter X.env x = pure x
  hv : ∀ i ∈ t.vars, i ∈ own.map (·.2)
theorem all_in {as bs : List Nat} (h : (as.all fun i => bs.contains i) = true) : ∀ i ∈ as, i ∈ bs := fun i hi => by
  have := List.all_eq_true.mp h i hi
  simpa using this
theorem lc_parts {vs : List (Str × Nat)} {tg : Tg} {it t e : IR} (hit : SI G N k it) (ht : SE G N k t) (he : SE G N k e) {sc : Scope} {X : Cx} {W : WX} {x : Expr} (ok : OkX G N k sc X) (tk : Takes X W) (h : (mt G N (.lc vs tg it t e)).e sc x = true) :
    ∃ elt tg' iter ifs scope pos, x = .ListComp elt [⟨tg', iter, ifs, 0⟩] scope pos ∧ LcOk X W elt tg' iter ifs scope vs G tg it t e := by
  dsimp only [mt, Mt.ofE] at h
  split at h
  · rename_i elt tg' it' ifs' scope pos
    simp only [Bool.and_eq_true] at h
    obtain ⟨⟨⟨⟨⟨h1, h2⟩, h3⟩, h4⟩, h5⟩, h6⟩ := h
    have b := blk_of ok h4
    refine ⟨elt, tg', it', ifs', scope, pos, rfl, hit.p ok tk h2, b, fun s H C cl fp => (pgs_tg (ok.blk b.kind s H C cl fp) tg).1 h1, fun s H C cl fp => ?_, fun s H C cl fp => he.e (ok.blk b.kind s H C cl fp) takes0 h3, hit.fs h2 _, all_in h5⟩
    have okb := ok.blk b.kind s H C cl fp
    cases t with
    | nil =>
      cases ifs' with
      | nil => exact PTs.imp pts_nil fun σ H Q ⟨ρ, μ, F, ι, S, a⟩ => a true F H Ext.refl S rfl
      | cons _ _ => cases h6
    | _ =>
      cases ifs' with
      | nil => cases h6
      | cons c cs =>
        cases cs with
        | nil => exact pts_one (ht.t okb takes0 h6)
        | cons _ _ => cases h6
  · cases h
theorem se_lc {vs : List (Str × Nat)} {tg : Tg} {it t e : IR} (hit : SI G N k it) (ht : SE G N k t) (he : SE G N k e) : SE G N k (.lc vs tg it t e) := by
  refine SE.of rfl rfl (fun {sc X W x} ok tk h => ?_) fun {sc x} h => ?_
  · obtain ⟨elt, tg', iter, ifs, scope, pos, rfl, p⟩ := lc_parts hit ht he ok tk h
    have q : PE X (.ListComp elt [⟨tg', iter, ifs, 0⟩] scope pos) (Rd X.mg W RelE (den G (.lc vs tg it t e)).e) := PE.imp (pe_lc ok.calm (by rw [ok.hN]; exact ok.nd) p.hi p.ok p.hg p.ht p.he p.hs) fun σ H Q a => lc_read p.hv a
    exact ⟨q, pt_of q fun _ => rfl⟩
  · split at h
    · exact fun _ _ => rfl
    · cases h
structure Lc2Ok (X : Cx) (W : WX) (elt t0 i0 t1 i1 : Expr) (scope : Scope) (own : List (Str × Nat)) (vs1 : List Nat) (G : Ge) (tg : Tg) (it : IR) (tg' : Tg) (it' e : IR) : Prop where
  hi : PI X t0 i0 fun σ H R => Rd X.mg W RelI (den G it).i σ H R
  ok : BlkOk X.N X.env.scope scope own
  hvs : ∀ i ∈ vs1, i ∈ own.map (·.2)
  hg : ∀ (s : Shared) (H : Hp) (C : Addr) (cl : List (Str × Addr)) (fp : List Addr), PG (X.blk s H scope (compEnvC scope cl C X.env) fp) t0 (gOf X.K tg).one
  hi1 : ∀ (s : Shared) (H : Hp) (C : Addr) (cl : List (Str × Addr)) (fp : List Addr), PI (X.blk s H scope (compEnvC scope cl C X.env) fp) t1 i1 fun σ H R => Rd X.mg W0 RelI (den G it').i σ H R
  hg1 : ∀ (s : Shared) (H : Hp) (C : Addr) (cl : List (Str × Addr)) (fp : List Addr), PG (X.blk s H scope (compEnvC scope cl C X.env) fp) t1 (gOf X.K tg').one
  he : ∀ (s : Shared) (H : Hp) (C : Addr) (cl : List (Str × Addr)) (fp : List Addr), PE (X.blk s H scope (compEnvC scope cl C X.env) fp) elt (Rd X.mg W0 RelE (den G e).e)
  hs : ∀ x, foldedSetIterable i0 X.env x = pure x
  hs1 : ∀ env x, foldedSetIterable i1 env x = pure x
  hv : ∀ i ∈ tg.vars, i ∈ own.map (·.2)
  hv1 : ∀ i ∈ tg'.vars, i ∈ vs1
theorem lc2_parts {vs : List (Str × Nat)} {vs1 : List Nat} {tg tg' : Tg} {it it' e : IR} (hit : SI G N k it) (hit' : SI G N k it') (he : SE G N k e) {sc : Scope} {X : Cx} {W : WX} {x : Expr} (ok : OkX G N k sc X) (tk : Takes X W) (h : (mt G N (.lc2 vs vs1 tg it tg' it' e)).e sc x = true) :
    ∃ elt t0 i0 t1 i1 scope pos, x = .ListComp elt [⟨t0, i0, [], 0⟩, ⟨t1, i1, [], 0⟩] scope pos ∧ Lc2Ok X W elt t0 i0 t1 i1 scope vs vs1 G tg it tg' it' e := by
  dsimp only [mt, Mt.ofE] at h
  split at h
  · rename_i elt t0 i0 t1 i1 scope pos
    simp only [Bool.and_eq_true] at h
    obtain ⟨⟨⟨⟨⟨⟨⟨⟨h1, h2⟩, h3⟩, h4⟩, h5⟩, h6⟩, h7⟩, h8⟩, h9⟩ := h
    have b := blk_of ok h6
    exact ⟨elt, t0, i0, t1, i1, scope, pos, rfl, hit.p ok tk h2, b, all_in h9, fun s H C cl fp => (pgs_tg (ok.blk b.kind s H C cl fp) tg).1 h1, fun s H C cl fp => hit'.p (ok.blk b.kind s H C cl fp) takes0 h4, fun s H C cl fp => (pgs_tg (ok.blk b.kind s H C cl fp) tg').1 h3,
      fun s H C cl fp => he.e (ok.blk b.kind s H C cl fp) takes0 h5, hit.fs h2 _, fun env => hit'.fs h4 env, all_in h7, all_in h8⟩
  · cases h
theorem se_lc2 {vs : List (Str × Nat)} {vs1 : List Nat} {tg tg' : Tg} {it it' e : IR} (hit : SI G N k it) (hit' : SI G N k it') (he : SE G N k e) : SE G N k (.lc2 vs vs1 tg it tg' it' e) := by
  refine SE.of rfl rfl (fun {sc X W x} ok tk h => ?_) fun {sc x} h => ?_
  · obtain ⟨elt, t0, i0, t1, i1, scope, pos, rfl, p⟩ := lc2_parts hit hit' he ok tk h
    have q : PE X (.ListComp elt [⟨t0, i0, [], 0⟩, ⟨t1, i1, [], 0⟩] scope pos) (Rd X.mg W RelE (den G (.lc2 vs vs1 tg it tg' it' e)).e) := PE.imp (pe_lc2 ok.calm (by rw [ok.hN]; exact ok.nd) p.hi p.ok p.hvs p.hg (fun _ _ _ _ _ => pts_nil) p.hi1 p.hg1 (fun _ _ _ _ _ => pts_nil) p.he p.hs p.hs1) fun σ H Q a => lc2_read p.hv p.hv1 a
    exact ⟨q, pt_of q fun _ => rfl⟩
  · split at h
    · exact fun _ _ => rfl
    · cases h
theorem Sees.name {sc : Scope} {X : Cx} (ok : OkX G N k sc X) {i : Nat} {n : Str} (h1 : N[i]? = some n) : X.N[i]? = some n := by
  rw [ok.hN]
  exact h1
/-- name = expression -/
structure SA (G : Ge) (N : List Str) (k : Nat) (ir : IR) : Prop where
  a : ∀ {sc : Scope} {X : Cx} {W : WX} {x : Expr} {i : Nat} {n : Str} {p spos : Pos}, OkX G N k sc X → Takes X W → (mt G N ir).e sc x = true → N[i]? = some n → locB sc n = true → compSet sc n p x = true → PS X (.Assign [.Name n p] x spos) (tAsg (Rd X.mg W RelE (den G ir).e) (gName i))
theorem sa_lc {vs : List (Str × Nat)} {tg : Tg} {it t e : IR} (hit : SI G N k it) (ht : SE G N k t) (he : SE G N k e) : SA G N k (.lc vs tg it t e) where
  a := fun {sc X W x i n p spos} ok tk h h1 h2 h3 => by
    obtain ⟨elt, tg', iter, ifs, scope, pos, rfl, q⟩ := lc_parts hit ht he ok tk h
    simp only [compSet, Bool.and_eq_true, Bool.not_eq_true'] at h3
    obtain ⟨⟨h3, h4⟩, h5⟩ := h3
    have hl := ok.hsc.lcl n h3
    refine PS.imp (ps_setLc ok.calm (by rw [ok.hN]; exact ok.nd) (Sees.name ok h1) hl (sw_true ok.hsc.kind hl h4 h5) q.hi q.ok q.hg q.ht q.he q.hs) fun D σ H a => lc_read q.hv a
theorem sa_lc2 {vs : List (Str × Nat)} {vs1 : List Nat} {tg tg' : Tg} {it it' e : IR} (hit : SI G N k it) (hit' : SI G N k it') (he : SE G N k e) : SA G N k (.lc2 vs vs1 tg it tg' it' e) where
  a := fun {sc X W x i n p spos} ok tk h h1 h2 h3 => by
    obtain ⟨elt, t0, i0, t1, i1, scope, pos, rfl, q⟩ := lc2_parts hit hit' he ok tk h
    simp only [compSet, Bool.and_eq_true, Bool.not_eq_true'] at h3
    obtain ⟨⟨h3, h4⟩, h5⟩ := h3
    have hl := ok.hsc.lcl n h3
    refine PS.imp (ps_setLc2 ok.calm (by rw [ok.hN]; exact ok.nd) (Sees.name ok h1) hl (sw_true ok.hsc.kind hl h4 h5) q.hi q.ok q.hvs q.hg (fun _ _ _ _ _ => pts_nil) q.hi1 q.hg1 (fun _ _ _ _ _ => pts_nil) q.he q.hs q.hs1) fun D σ H a => lc2_read q.hv q.hv1 a
theorem sa_of (hx : SE G N k x) (hl : ∀ vs tg it t e, x ≠ .lc vs tg it t e) (hl2 : ∀ vs vs1 tg it tg' it' e, x ≠ .lc2 vs vs1 tg it tg' it' e) (hl3 : ∀ vs i it, x ≠ .nlc vs i it := by intros; simp) : SA G N k x where
  a := fun {sc X W e i n p spos} ok tk h h1 h2 h3 => by
    have nc : isComp e = false := by
      cases e with
      | ListComp elt gs scope pos =>
        exfalso
        cases x <;> first
          | exact hl _ _ _ _ _ rfl
          | exact hl2 _ _ _ _ _ _ _ rfl
          | exact hl3 _ _ _ rfl
          | exact absurd h (by simp [mt, Mt.ofE, Mt.no])
      | _ => first
        | rfl
        | (simp [compSet, isComp] at h3)
    refine ps_set (by rw [ok.hN]; exact ok.nd) (Sees.name ok h1) (loc_of ok.hsc h2) (hx.e ok tk h) ?_ (fn_of' ok h2)
    cases e <;> first
      | rfl
      | cases nc
end
end DL

set_option maxHeartbeats 1000000
/-! N1: nests: lists of one's own within a list. -/
namespace DL
open PySem PySem.Spec PyProof.Rows L2
section
variable {G : Ge} {N : List Str} {k : Nat} {x y z : IR}
theorem se_nil : SE G N k .nil where
  e := fun _ _ h => nomatch h
  t := fun _ _ h => nomatch h
  st := fun h => nomatch h
  a := fun _ _ h => nomatch h
  ast := fun h => nomatch h
  o := fun {sc X W e} ok tk h => by
    cases e with
    | none => exact PO.imp po_none fun σ H Q ⟨ρ, μ, F, ι, S, a⟩ => a none F H Ext.refl S rfl
    | some _ => cases h
theorem rows_at : ∀ {ds : List D} {dss : List (List D)}, rowsD ds = some dss → ds.length = dss.length ∧ ∀ (i : Nat) (d : D), ds[i]? = some d → ∃ es, dss[i]? = some es ∧ (d = .list es ∨ d = .tuple es)
  | [], _, h => by
    cases h
    exact ⟨rfl, fun i d e => by simp at e⟩
  | d0 :: ds, dss, h => by
    have key : ∀ (a : List D) (r : Option (List (List D))), r = rowsD ds → r.map (a :: ·) = some dss → (d0 = .list a ∨ d0 = .tuple a) → (d0 :: ds).length = dss.length ∧ ∀ (i : Nat) (d : D), (d0 :: ds)[i]? = some d → ∃ es, dss[i]? = some es ∧ (d = .list es ∨ d = .tuple es) := fun a r hr h1 h2 => by
      cases e : rowsD ds with
      | none =>
        rw [hr, e] at h1
        cases h1
      | some r' =>
        rw [hr, e] at h1
        cases h1
        obtain ⟨q1, q2⟩ := rows_at e
        refine ⟨by simp [q1], fun i d ei => ?_⟩
        cases i with
        | zero =>
          cases ei
          exact ⟨a, rfl, h2⟩
        | succ i => exact q2 i d (by simpa using ei)
    cases d0 with
    | list a => exact key a _ rfl h (.inl rfl)
    | tuple a => exact key a _ rfl h (.inr rfl)
    | _ => cases h
theorem map_ref : ∀ {as bs : List Addr}, as.map V.ref = bs.map V.ref → as = bs
  | [], [], _ => rfl
  | [], _ :: _, h => by cases h
  | _ :: _, [], h => by cases h
  | a :: as, b :: bs, h => by
    rw [List.map_cons, List.map_cons] at h
    injection h with h1 h2
    cases h1
    rw [map_ref h2]
theorem kids_mem {F H : Hp} {ι : List Addr} : ∀ {bs : List Addr} {dss : List (List D)} {b : Addr}, Kids F H ι bs dss → b ∈ bs → ∃ ws, H b = some (.lst ws) ∧ F b = none ∧ b ∉ ι
  | _, _, b, .nil, h => by cases h
  | _, _, b, .cons ⟨ws, h1, h2, h3, _⟩ t, h => by
    rcases List.mem_cons.mp h with rfl | h
    · exact ⟨ws, h1, h2, h3⟩
    · exact kids_mem t h
theorem kids_upd {F H : Hp} {ι : List Addr} {D : Addr} {o : HO} : ∀ {bs : List Addr} {dss : List (List DL.D)}, Kids F H ι bs dss → D ∉ bs → Kids F (L2.upd H D o) ι bs dss
  | _, _, .nil, _ => .nil
  | _, _, .cons ⟨ws, h1, h2, h3, h4⟩ t, h => by
    rw [List.mem_cons, not_or] at h
    exact .cons ⟨ws, by rw [upd_ne (Ne.symm h.1)]; exact h1, h2, h3, h4⟩ (kids_upd t h.2)
theorem kids_app {F H : Hp} {ι : List Addr} {b : Addr} {es : List DL.D} (q : ∃ ws, H b = some (.lst ws) ∧ F b = none ∧ b ∉ ι ∧ DtAll F ws es) : ∀ {bs : List Addr} {dss : List (List DL.D)}, Kids F H ι bs dss → Kids F H ι (bs ++ [b]) (dss ++ [es])
  | _, _, .nil => .cons q .nil
  | _, _, .cons p t => .cons p (kids_app q t)
/-- the state of such a comprehension's loop -/
structure NlSt (ρ : Rho) (μ : List Cell) (σ : St) (ι : List Addr) (dss : List (List D)) (F1 H1 : Hp) (D : Addr) (i : Nat) (H : Hp) : Prop where
  ex : ∃ F bs, H D = some (.lst (bs.map V.ref)) ∧ F D = none ∧ (D :: bs).Nodup ∧ Kids F H ι bs (dss.take i) ∧ (∀ b ∈ bs, H1 b = none) ∧ Ext ι F1 H1 F H ∧ Sat ρ μ σ H F ι
abbrev irL1 (i : Nat) : IR := .blt .list1 (.cons (.var i) .nil)
theorem l1_eq {i : Nat} {ρ : Rho} {μ : List Cell} {d : D} {es : List D} (h : ρ[i]? = some (some (.dat d))) (hd : d = .list es ∨ d = .tuple es) : (den G (irL1 i)).e ρ μ = .ok (.fre es) μ := by
  have e1 : slot ρ i μ = .ok (.dat d) μ := by
    unfold slot
    rw [h]
  show ((((slot ρ i μ).bind fun v μ1 => (R.ok ([] : List SV) μ1).bind fun vs μ2 => R.ok (v :: vs) μ2).bind fun vs μ1 => (R.of (looks μ1 vs) μ1).bind fun ds μ2 => R.of (bltD .list1 ds) μ2) : R SV) = _
  rw [e1]
  rcases hd with rfl | rfl <;> rfl
theorem nlc_read {X : Cx} {W : WX} {vs : List (Str × Nat)} {i0 : Nat} {it : IR} (hv : ∀ i ∈ (Tg.nm i0).vars, i ∈ vs.map (·.2)) {σ : St} {H : Hp} {Q : VK} (h : Rd X.mg W RelE (den G (.nlc vs i0 it)).e σ H Q) :
    tLc (fun σ H R => Rd X.mg W RelI (den G it).i σ H R) (gOf X.K (.nm i0)).one (Rd X.mg W0 RelB (lcT G .nil)) (Rd X.mg W0 RelE (den G (irL1 i0)).e) (vs.map (·.2)) σ H Q := by
  obtain ⟨ρ, μ, F, ι, S, a⟩ := h
  refine ⟨ρ, μ, F, ι, S, ?_⟩
  replace a : Aft X.mg W RelE ρ σ ι F H (((den G it).i ρ μ).noX.bind fun ds μ1 => if ds.length ≤ 10000000 ∧ i0 < ρ.length then (match rowsD ds with
      | some dss => .ok (.frn dss) μ1
      | none => .stuck) else .stuck) Q := a
  cases e1 : (den G it).i ρ μ with
  | stuck =>
    rw [e1] at a
    exact a.elim
  | exc x μ1 =>
    rw [e1] at a
    exact a.elim
  | ok ds μ1 =>
    rw [e1] at a
    replace a : Aft X.mg W RelE ρ σ ι F H (if ds.length ≤ 10000000 ∧ i0 < ρ.length then (match rowsD ds with
      | some dss => .ok (.frn dss) μ1
      | none => .stuck) else .stuck) Q := a
    split at a
    case isFalse => exact a.elim
    rename_i hlen
    obtain ⟨hlen, hi0⟩ := hlen
    split at a
    case h_2 => exact a.elim
    rename_i dss er
    obtain ⟨rl, ra⟩ := rows_at er
    intro J F1 H1 x1 S1 wd Dn hD
    have mD : Dn ∉ ι := S1.notIn hD
    have fD : F1 Dn = none := by
      cases q : F1 Dn with
      | none => rfl
      | some u => rw [S1.sub _ _ q] at hD; cases hD
    refine ⟨fun i m H => m = ds.length - i ∧ i ≤ ds.length ∧ NlSt (wipeR ρ (vs.map (·.2))) μ1 (L2.wipe σ (vs.map (·.2))) ι dss F1 H1 Dn i H, ⟨_, rfl, Nat.zero_le _, ⟨F1, [], upd_same, fD, by simp, .nil, (fun b hb => nomatch hb), Ext.refl.updNew hD, (S1.upd fD mD).wipe _⟩⟩, ?_⟩
    rintro i m Hi ⟨rfl, hi, ⟨Fi, bs, g1, g2, g3, g4, gN, g5, g6⟩⟩
    have gs : Same Fi Hi := g6.sub
    have gf : Same F1 Fi := g5.fs
    by_cases hlt : i < ds.length
    · have hd : ds[i]? = some ds[i] := by simp [hlt]
      obtain ⟨es, h1, h2⟩ := ra i _ hd
      refine .inr ⟨wd.goes Fi Hi i _ gf gs hd, fun H' => i + 1 ≤ ds.length ∧ NlSt (wipeR ρ (vs.map (·.2))) μ1 (L2.wipe σ (vs.map (·.2))) ι dss F1 H1 Dn (i + 1) H', fun H' q => ⟨_, by omega, rfl, q⟩, fun x H' y => ?_⟩
      obtain ⟨F2, op, dx⟩ := wd.yields Fi Hi i _ x H' gf gs hd y
      have S2 := op.sat g6
      refine (g_ok (.nm i0)).1 (ρ' := (wipeR ρ (vs.map (·.2))).set i0 (some (.dat ds[i]))) rfl S2 dx fun σ2 S3 k3 l3 => ?_
      have wq : L2.wipe σ2 (vs.map (·.2)) = L2.wipe σ (vs.map (·.2)) := by
        have h1 : L2.wipe σ2 (vs.map (·.2)) = L2.wipe (L2.wipe σ (vs.map (·.2))) (vs.map (·.2)) := wipe_eq l3 fun j hj => k3 j fun z => hj (hv j z)
        rw [h1]
        exact wipe_eq (wipe_length _ _) fun j hj => wipe_out hj
      refine ⟨wq, (wipeR ρ (vs.map (·.2))).set i0 (some (.dat ds[i])), μ1, F2, ι, S3, ?_⟩
      intro b' F3 H3 x3 S4 rb
      subst rb
      have opx := op.ext (ι := ι)
      have g1' : H3 Dn = some (.lst (bs.map V.ref)) := x3.hs _ _ (op.hs _ _ g1) mD
      have g2' : F3 Dn = none := (opx.trans x3).free g1 g2 mD
      have xx : Ext ι F1 H1 F3 H3 := g5.trans (opx.trans x3)
      rw [if_pos rfl]
      refine ⟨_, μ1, F3, ι, S4, ?_⟩
      have hw : (wipeR ρ (vs.map (·.2))).length = ρ.length := by
        have : ∀ l : List Nat, (wipeR ρ l).length = ρ.length := fun l => by
          induction l with
          | nil => rfl
          | cons a l ih => simp [wipeR, ih]
        exact this _
      rw [l1_eq (d := ds[i]) (es := es) (by rw [List.getElem?_set_self (by rw [hw]; exact hi0)]) h2]
      intro yv F4 H4 x4 S5 ⟨ry, ny⟩
      obtain ⟨p, ws, rfl, p1, p2, p3, p4⟩ := ry
      have pn : H3 p = none := ny _ rfl
      have g1'' : H4 Dn = some (.lst (bs.map V.ref)) := x4.hs _ _ g1' mD
      have g2'' : F4 Dn = none := x4.free g1' g2' mD
      have pD : p ≠ Dn := fun z => by
        rw [z, g1'] at pn
        cases pn
      have kk : Kids F4 H4 ι bs (dss.take i) := Kids.mono_ ((opx.trans x3).trans x4) g4
      have pb : p ∉ bs := fun z => by
        obtain ⟨ws', q1, _⟩ := kids_mem (Kids.mono_ (opx.trans x3) g4) z
        rw [q1] at pn
        cases pn
      have Db : Dn ∉ bs ++ [p] := fun z => by
        rcases List.mem_append.mp z with z | z
        · exact (List.nodup_cons.mp g3).1 z
        · exact pD (List.mem_singleton.mp z).symm
      refine ⟨bs.map V.ref, g1'', ?_, by omega, ⟨F4, bs ++ [p], by rw [upd_same, List.map_append]; rfl, g2'', ?_, ?_, fun b hb => ?_, (xx.trans x4).updNew hD, (dropW g6 S5 ((opx.trans x3).trans x4).fs).upd g2'' mD⟩⟩
      · have l1 : (dss.take i).length = i := by rw [List.length_take]; omega
        have l2 := Paired.length kk
        have h2 := size7 (n := i + 1) (by omega)
        rw [List.length_map]
        omega
      · refine List.nodup_cons.mpr ⟨Db, List.nodup_append.mpr ⟨(List.nodup_cons.mp g3).2, by simp, fun a ha b hb => ?_⟩⟩
        rw [List.mem_singleton.mp hb]
        exact fun z => pb (z ▸ ha)
      · have h5 : dss.take (i + 1) = dss.take i ++ [es] := by
          have hx : i < dss.length := by omega
          have h6 : dss[i] = es := by
            rw [List.getElem?_eq_getElem hx] at h1
            exact Option.some.inj h1
          rw [List.take_succ_eq_append_getElem hx, h6]
        rw [h5]
        exact kids_upd (kids_app ⟨ws, p1, p2, p3, p4⟩ kk) Db
      · rcases List.mem_append.mp hb with z | z
        · exact gN b z
        · rw [List.mem_singleton.mp z]
          exact xx.ht _ pn
    · have e : i = ds.length := by omega
      subst e
      rw [rl, List.take_length] at g4
      refine .inl ⟨wd.stops Fi Hi gf gs, a (.ref Dn) Fi Hi (x1.trans g5) (S.slots g6 (x1.trans g5).fs) ⟨⟨Dn, bs, rfl, g1, g2, mD, g3, g4⟩, fun p bs' z y => ?_⟩⟩
      cases z
      rw [g1] at y
      have e2 : bs = bs' := map_ref (by injection (Option.some.inj y))
      subst e2
      exact ⟨x1.ht _ hD, fun b hb => x1.ht _ (gN b hb)⟩
theorem nlc_parts {vs : List (Str × Nat)} {i : Nat} {it : IR} (hit : SI G N k it) {sc : Scope} {X : Cx} {W : WX} {x : Expr} (ok : OkX G N k sc X) (tk : Takes X W) (h : (mt G N (.nlc vs i it)).e sc x = true) :
    ∃ elt tg' iter ifs scope pos, x = .ListComp elt [⟨tg', iter, ifs, 0⟩] scope pos ∧ LcOk X W elt tg' iter ifs scope vs G (.nm i) it .nil (irL1 i) := by
  refine lc_parts (t := .nil) hit se_nil (se_blt (sl_cons se_var sl_nil)) ok tk ?_
  dsimp only [mt, Mt.ofE] at h ⊢
  split at h
  · simp only [Bool.and_eq_true] at h
    obtain ⟨⟨⟨⟨h1, h2⟩, h3⟩, h4⟩, h5⟩ := h
    split at h3
    · simp only [Bool.and_eq_true] at h3
      obtain ⟨⟨⟨⟨q1, q2⟩, q3⟩, q4⟩, q5⟩ := h3
      simp only [Bool.and_eq_true]
      refine ⟨⟨⟨⟨⟨h1, h2⟩, ⟨⟨q1, q2⟩, ⟨⟨q3, q4⟩, q5⟩, ?_⟩⟩, h4⟩, ?_⟩, trivial⟩
      · trivial
      · simpa [Tg.vars] using h5
    · cases h3
  · cases h
theorem se_nlc {vs : List (Str × Nat)} {i : Nat} {it : IR} (hit : SI G N k it) : SE G N k (.nlc vs i it) := by
  refine SE.of rfl rfl (fun {sc X W x} ok tk h => ?_) fun {sc x} h => ?_
  · obtain ⟨elt, tg', iter, ifs, scope, pos, rfl, p⟩ := nlc_parts hit ok tk h
    have q : PE X (.ListComp elt [⟨tg', iter, ifs, 0⟩] scope pos) (Rd X.mg W RelE (den G (.nlc vs i it)).e) := PE.imp (pe_lc ok.calm (by rw [ok.hN]; exact ok.nd) p.hi p.ok p.hg p.ht p.he p.hs) fun σ H Q a => nlc_read p.hv a
    exact ⟨q, pt_of q fun _ => rfl⟩
  · split at h
    · exact fun _ _ => rfl
    · cases h
theorem sa_nlc {vs : List (Str × Nat)} {i0 : Nat} {it : IR} (hit : SI G N k it) : SA G N k (.nlc vs i0 it) where
  a := fun {sc X W x i n p spos} ok tk h h1 h2 h3 => by
    obtain ⟨elt, tg', iter, ifs, scope, pos, rfl, q⟩ := nlc_parts hit ok tk h
    simp only [compSet, Bool.and_eq_true, Bool.not_eq_true'] at h3
    obtain ⟨⟨h3, h4⟩, h5⟩ := h3
    have hl := ok.hsc.lcl n h3
    refine PS.imp (ps_setLc ok.calm (by rw [ok.hN]; exact ok.nd) (Sees.name ok h1) hl (sw_true ok.hsc.kind hl h4 h5) q.hi q.ok q.hg q.ht q.he q.hs) fun D σ H a => nlc_read q.hv a
/-! ### a list that stands in a nest -/
theorem nidx_of {v w r : SV} {μ μ' : List Cell} (h : nidx v w μ = .ok r μ') : ∃ o i c j kk, v = .nst o ∧ w = .dat (.int i) ∧ μ[o]? = some c ∧ c.st = .nest ∧ ixN c.ds.length i = some j ∧ c.ds[j]? = some (.int kk) ∧ r = .own kk.toNat ∧ μ' = μ := by
  unfold nidx at h
  split at h
  · split at h
    · rename_i o i _ c ec
      split at h
      · rename_i hn
        split at h
        · rename_i j ej
          split at h
          · rename_i kk ek
            cases h
            exact ⟨o, i, c, j, kk, rfl, rfl, ec, hn, ej, ek, rfl, rfl⟩
          · cases h
        · cases h
      · cases h
    · cases h
  · cases h
theorem nidx_exc {v w : SV} {μ μ' : List Cell} {x : Exn} (h : nidx v w μ = .exc x μ') : False := by
  unfold nidx at h
  split at h
  · split at h
    · split at h
      · split at h
        · split at h <;> cases h
        · cases h
      · cases h
    · cases h
  · cases h
/-- what is found there -/
theorem nest_at {ρ : Rho} {μ : List Cell} {σ : St} {H F : Hp} {ι : List Addr} {o : Nat} {c : Cell} {a : Addr} {i : Int} {j : Nat} {kk : Int} (S : Sat ρ μ σ H F ι) (ha : ι[o]? = some a) (ec : μ[o]? = some c) (hn : c.st = .nest) (ej : ixN c.ds.length i = some j) (ek : c.ds[j]? = some (.int kk)) :
    ∃ vs b, H a = some (.lst vs) ∧ vs.length = c.ds.length ∧ atI vs i = some (.ref b) ∧ ι[kk.toNat]? = some b := by
  obtain ⟨vs, h1, h2, _⟩ := S.cell o a c ha ec
  obtain ⟨l, q⟩ := h2.2 hn
  obtain ⟨k', b, e1, e2, e3, e4⟩ := q j _ ek
  cases e1
  refine ⟨vs, b, h1, l, ?_, e3⟩
  unfold atI
  rw [l, ej]
  exact e4
theorem se_idxN (hx : SE G N k x) (hy : SE G N k y) : SE G N k (.idxN x y) := by
  refine SE.of rfl rfl (fun {sc X W e} ok tk h => ?_) fun {sc e} h => ?_
  · split at h
    · simp only [Bool.and_eq_true] at h
      obtain ⟨⟨h1, h2⟩, h3⟩ := h
      refine (fun q => ⟨q, pt_of q fun _ => rfl⟩) (PE.imp (pe_ix ix_list (hx.e ok tk h1) (hy.e ok tk h2) (plainIx_of h3)) fun σ H Q ⟨ρ, μ, F, ι, S, a⟩ => ?_)
      refine Rd.mono (Aft.step (U := RelE) a S Ext.refl) fun v1 H1 ⟨s1, μ1, F1, e1, d1, S1, ⟨r1, n1⟩, a⟩ => ?_
      refine Rd.mono (Aft.step (U := RelE) a S1 e1) fun v2 H2 ⟨s2, μ2, F2, e2, d2, S2, ⟨r2, n2⟩, a⟩ => ?_
      cases hr : nidx s1 s2 μ2 with
      | stuck =>
        rw [hr] at a
        exact a.elim
      | exc x μ' => exact (nidx_exc hr).elim
      | ok r μ' =>
        rw [hr] at a
        obtain ⟨o, i, c, j, kk, rfl, rfl, ec, hn, ej, ek, rfl, rfl⟩ := nidx_of hr
        obtain ⟨p, h5, rfl⟩ := r1
        cases r2
        obtain ⟨vs, b, q1, _, q2, q3⟩ := nest_at S2 h5 ec hn ej ek
        exact ⟨p, vs, i, .ref b, rfl, rfl, .inl (.inl q1), q2, a (.ref b) F2 H2 e2 S2 ⟨⟨b, q3, rfl⟩, trivial⟩⟩
    · cases h
  · split at h
    · exact fun _ _ => rfl
    · cases h
end
end DL

set_option maxHeartbeats 1000000
/-! DL17: what stands behind a statement. -/
namespace DL
open PySem PySem.Spec PyProof.Rows L2
def Grow (ι0 ι : List Addr) (H0 : Hp) : Prop := ∃ t, ι = ι0 ++ t ∧ ∀ b ∈ t, H0 b = none
section
variable {mg : Str → Option Value} {W : WX} {ρ : Rho} {μ : List Cell} {σ : St} {F H F0 H0 F1 H1 F2 H2 : Hp} {ι ι0 ι1 ι2 : List Addr} {D : Ends} {α β : Type}
theorem Grow.refl : Grow ι ι H := ⟨[], by simp, by simp⟩
theorem Grow.trans (a : Grow ι0 ι1 H0) (b : Grow ι1 ι2 H1) (h : ∀ b, H1 b = none → H0 b = none) : Grow ι0 ι2 H0 := by
  obtain ⟨t, rfl, p⟩ := a
  obtain ⟨u, rfl, q⟩ := b
  refine ⟨t ++ u, by simp, fun c hc => ?_⟩
  rcases List.mem_append.mp hc with z | z
  · exact p c z
  · exact h c (q c z)
theorem Grow.sub (a : Grow ι0 ι1 H0) {b : Addr} (h : b ∈ ι1) : b ∈ ι0 ∨ H0 b = none := by
  obtain ⟨t, rfl, p⟩ := a
  rcases List.mem_append.mp h with z | z
  · exact .inl z
  · exact .inr (p b z)
theorem Ext.grow (e : Ext ι0 F0 H0 F1 H1) (g : Grow ι0 ι1 H0) (e2 : Ext ι1 F1 H1 F2 H2) : Ext ι0 F0 H0 F2 H2 where
  fs := e.fs.trans e2.fs
  hs := fun b o h n => e2.hs b o (e.hs b o h n) fun z => by
    rcases g.sub z with y | y
    · exact n y
    · rw [h] at y
      cases y
  ht := fun b h => e.ht b (e2.ht b h)
  new := fun b o h => by
    rcases e2.new b o h with z | z | z
    · exact e.new b o z
    · exact .inr (.inl (e.ht b z))
    · rcases g.sub z with y | y
      · exact .inr (.inr y)
      · exact .inr (.inl y)
/-- what is wanted behind a statement that does r -/
def AftS (mg : Str → Option Value) (W : WX) (ι0 : List Addr) (F0 H0 : Hp) (D : Ends) : RS → Prop
  | .nx ρ μ => ∀ σ ι F H, Ext ι0 F0 H0 F H → Grow ι0 ι H0 → Sat ρ μ σ H F ι → D.nx σ H
  | .bk ρ μ => ∀ σ ι F H, Ext ι0 F0 H0 F H → Grow ι0 ι H0 → Sat ρ μ σ H F ι → D.bk σ H
  | .ct ρ μ => ∀ σ ι F H, Ext ι0 F0 H0 F H → Grow ι0 ι H0 → Sat ρ μ σ H F ι → D.ct σ H
  | .rt v μ => ∀ x ρ σ ι F H, Ext ι0 F0 H0 F H → Grow ι0 ι H0 → Sat ρ μ σ H F ι → VRep F H ι x v → NewV H0 H x v → D.rt x H
  | .exc e ρ μ => ∀ c d σ ι F H, Ext ι0 F0 H0 F H → Grow ι0 ι H0 → Sat ρ μ σ H F ι → ExRep mg F H e c d → W c d σ H
  | .stuck => False
def RdS (mg : Str → Option Value) (W : WX) (m : Rho → List Cell → RS) : TS := fun D σ H => ∃ ρ μ F ι, Sat ρ μ σ H F ι ∧ AftS mg W ι F H D (m ρ μ)
theorem AftS.rebase {r : RS} (a : AftS mg W ι0 F0 H0 D r) (e : Ext ι0 F0 H0 F1 H1) (g : Grow ι0 ι1 H0) : AftS mg W ι1 F1 H1 D r := by
  cases r with
  | nx ρ μ => exact fun σ ι F H e2 g2 S => a σ ι F H (e.grow g e2) (g.trans g2 e.ht) S
  | bk ρ μ => exact fun σ ι F H e2 g2 S => a σ ι F H (e.grow g e2) (g.trans g2 e.ht) S
  | ct ρ μ => exact fun σ ι F H e2 g2 S => a σ ι F H (e.grow g e2) (g.trans g2 e.ht) S
  | rt v μ => exact fun x ρ σ ι F H e2 g2 S r n => a x ρ σ ι F H (e.grow g e2) (g.trans g2 e.ht) S r (n.back e.ht)
  | exc x ρ μ => exact fun c d σ ι F H e2 g2 S r => a c d σ ι F H (e.grow g e2) (g.trans g2 e.ht) S r
  | stuck => exact a
/-- other ends -/
theorem AftS.ends {r : RS} {D' : Ends} {W' : WX} (a : AftS mg W ι0 F0 H0 D r) (h1 : ∀ σ H, D.nx σ H → D'.nx σ H) (h2 : ∀ x H, D.rt x H → D'.rt x H) (h3 : ∀ σ H, D.bk σ H → D'.bk σ H) (h4 : ∀ σ H, D.ct σ H → D'.ct σ H) (h5 : ∀ c d σ H, W c d σ H → W' c d σ H) : AftS mg W' ι0 F0 H0 D' r := by
  cases r with
  | nx ρ μ => exact fun σ ι F H e2 g2 S => h1 _ _ (a σ ι F H e2 g2 S)
  | bk ρ μ => exact fun σ ι F H e2 g2 S => h3 _ _ (a σ ι F H e2 g2 S)
  | ct ρ μ => exact fun σ ι F H e2 g2 S => h4 _ _ (a σ ι F H e2 g2 S)
  | rt v μ => exact fun x ρ σ ι F H e2 g2 S r n => h2 _ _ (a x ρ σ ι F H e2 g2 S r n)
  | exc x ρ μ => exact fun c d σ ι F H e2 g2 S r => h5 _ _ _ _ (a c d σ ι F H e2 g2 S r)
  | stuck => exact a
/-- an expression within a statement -/
theorem AftS.step {U : Rel β α} {m : Rho → List Cell → R α} {f : α → List Cell → RS} {ρ' : Rho} (a : AftS mg W ι F H D ((m ρ μ).st ρ f)) (S : Sat ρ μ σ H F ι) :
    Rd mg W U m σ H fun x H1 => ∃ a1 μ1 F1, Ext ι F H F1 H1 ∧ Sat ρ μ1 σ H1 F1 ι ∧ U H F1 H1 ι x a1 ∧ AftS mg W ι F H D (f a1 μ1) := by
  refine ⟨ρ, μ, F, ι, S, ?_⟩
  cases h : m ρ μ with
  | ok a1 μ1 =>
    rw [h] at a
    exact fun x F1 H1 e1 S1 t => ⟨a1, μ1, F1, e1, S1, t, a⟩
  | exc x μ1 =>
    rw [h] at a
    exact fun c d F1 H1 e1 S1 t => a c d σ ι F1 H1 e1 Grow.refl S1 t
  | stuck =>
    rw [h] at a
    exact a.elim
/-- a list of one's own comes to stand -/
theorem Sat.growC {p : Addr} {vs : List V} {c0 : Cell} (S : Sat ρ μ σ H F ι) (h : H p = some (.lst vs)) (n : F p = none) (m : p ∉ ι) (hf : c0.st ≠ .froz) (q : Its F ι vs c0) : Sat ρ (μ ++ [c0]) σ H F (ι ++ [p]) where
  sub := S.sub
  len := by simp [S.len]
  nod := by
    refine List.nodup_append.mpr ⟨S.nod, by simp, fun a ha b hb => ?_⟩
    have : b = p := by simpa using hb
    subst this
    exact fun e => m (e ▸ ha)
  cell := fun k a c h1 h2 => by
    by_cases z : k < ι.length
    · rw [List.getElem?_append_left z] at h1
      rw [List.getElem?_append_left (S.len ▸ z)] at h2
      obtain ⟨ws, g1, g2, g3⟩ := S.cell k a c h1 h2
      exact ⟨ws, g1, g2.ext, g3⟩
    · have z' : ¬k < μ.length := by rw [← S.len]; exact z
      rw [List.getElem?_append_right (by omega)] at h1 h2
      have e : k - ι.length = 0 := by
        have := (List.getElem?_eq_some_iff.mp h1).1
        simp at this
        omega
      have e' : k - μ.length = 0 := by
        rw [← S.len]
        exact e
      rw [e] at h1
      rw [e'] at h2
      cases h1
      cases h2
      exact ⟨vs, h, q.ext, (fun z => absurd z hf), fun _ => n⟩
  slen := S.slen
  slot := fun i sv e => by
    obtain ⟨v, h1, h2⟩ := S.slot i sv e
    refine ⟨v, h1, ?_⟩
    cases sv with
    | dat d => exact h2
    | own k =>
      obtain ⟨a, h3, h4⟩ := h2
      exact ⟨a, by rw [List.getElem?_append_left (List.getElem?_eq_some_iff.mp h3).1]; exact h3, h4⟩
    | fre _ => exact h2
    | nst k =>
      obtain ⟨a, h3, h4⟩ := h2
      exact ⟨a, by rw [List.getElem?_append_left (List.getElem?_eq_some_iff.mp h3).1]; exact h3, h4⟩
    | frn _ => exact h2
theorem Sat.grow {p : Addr} {vs : List V} {ds : List DL.D} (S : Sat ρ μ σ H F ι) (h : H p = some (.lst vs)) (n : F p = none) (m : p ∉ ι) (q : DtAll F vs ds) : Sat ρ (μ ++ [⟨.live, ds⟩]) σ H F (ι ++ [p]) :=
  S.growC h n m (fun z => nomatch z) (Its.of (fun z => nomatch z) q)
theorem kids_grow {b : Addr} : ∀ {bs : List Addr} {dss : List (List DL.D)}, Kids F H ι bs dss → b ∉ bs → Kids F H (ι ++ [b]) bs dss
  | _, _, .nil, _ => .nil
  | _, _, .cons ⟨ws, h1, h2, h3, h4⟩ t, h => by
    rw [List.mem_cons, not_or] at h
    refine .cons ⟨ws, h1, h2, fun m => ?_, h4⟩ (kids_grow t h.2)
    rcases List.mem_append.mp m with z | z
    · exact h3 z
    · exact h.1 (List.mem_singleton.mp z).symm
theorem Sat.growK : ∀ {bs : List Addr} {dss : List (List DL.D)} {μ : List Cell} {ι : List Addr}, Sat ρ μ σ H F ι → Kids F H ι bs dss → bs.Nodup → Sat ρ (μ ++ dss.map fun ds => ⟨.live, ds⟩) σ H F (ι ++ bs)
  | _, _, μ, ι, S, .nil, _ => by simpa using S
  | b :: bs, ds :: dss, μ, ι, S, .cons ⟨ws, h1, h2, h3, h4⟩ t, nd => by
    obtain ⟨n1, n2⟩ := List.nodup_cons.mp nd
    have := Sat.growK (S.grow h1 h2 h3 h4) (kids_grow t n1) n2
    rw [List.append_assoc, List.append_assoc] at this
    exact this
/-- a nest comes to stand -/
theorem Sat.growN {p : Addr} {bs : List Addr} {dss : List (List DL.D)} (S : Sat ρ μ σ H F ι) (h : H p = some (.lst (bs.map V.ref))) (n : F p = none) (m : p ∉ ι) (nd : (p :: bs).Nodup) (ks : Kids F H ι bs dss) :
    Sat ρ (μ ++ (dss.map (fun ds => ⟨.live, ds⟩) ++ [⟨.nest, (List.range' μ.length dss.length).map fun k : Nat => .int k⟩])) σ H F (ι ++ (bs ++ [p])) := by
  obtain ⟨n1, n2⟩ := List.nodup_cons.mp nd
  have S1 := Sat.growK S ks n2
  have l1 := Paired.length ks
  rw [← List.append_assoc, ← List.append_assoc]
  refine S1.growC h n (fun z => ?_) (fun z => nomatch z) ⟨fun z => absurd rfl z, fun _ => ⟨by simp [l1], fun j d e => ?_⟩⟩
  · rcases List.mem_append.mp z with z | z
    · exact m z
    · exact n1 z
  · simp only [List.getElem?_map, Option.map_eq_some_iff] at e
    obtain ⟨q, e1, rfl⟩ := e
    obtain ⟨e2, e3⟩ := List.getElem?_eq_some_iff.mp e1
    rw [List.length_range'] at e2
    rw [List.getElem_range', Nat.one_mul] at e3
    subst e3
    have hj : j < bs.length := by omega
    refine ⟨_, bs[j], rfl, by omega, ?_, ?_⟩
    · rw [Int.toNat_natCast, ← S.len, List.getElem?_append_right (by omega), show ι.length + j - ι.length = j by omega, List.getElem?_eq_getElem hj]
    · rw [List.getElem?_map, List.getElem?_eq_getElem hj]
      rfl
/-- a list of one's own is changed -/
theorem Sat.setCell {k : Nat} {a : Addr} {c : Cell} {ys : List V} {es : List DL.D} (S : Sat ρ μ σ H F ι) (hk : ι[k]? = some a) (hc : μ[k]? = some c) (st : c.st ≠ .froz) (nn : c.st ≠ .nest) (q : DtAll F ys es) :
    Sat ρ (μ.set k ⟨c.st, es⟩) σ (L2.upd H a (.lst ys)) F ι ∧ Ext ι F H F (L2.upd H a (.lst ys)) := by
  obtain ⟨vs, h, al, f1, f2⟩ := S.cell k a c hk hc
  have n : F a = none := f2 st
  have ma : a ∈ ι := List.mem_of_getElem? hk
  refine ⟨⟨fun b u e => ?_, by simp [S.len], S.nod, fun j b d h1 h2 => ?_, S.slen, S.slot⟩, ⟨Same.refl F, fun b u e m => ?_, fun b e => (upd_none e).2, fun b u e => .inl e⟩⟩
  · rw [upd_ne (ne_of_none e n)]
    exact S.sub b u e
  · by_cases z : k = j
    · subst z
      rw [hk] at h1
      cases h1
      rw [List.getElem?_set_self (List.getElem?_eq_some_iff.mp hc).1] at h2
      cases h2
      exact ⟨ys, upd_same, Its.of nn q, fun y => absurd y st, fun _ => n⟩
    · rw [List.getElem?_set_ne z] at h2
      obtain ⟨ws, g1, g2⟩ := S.cell j b d h1 h2
      have ne : b ≠ a := fun y => z (ix_inj S.nod hk (y ▸ h1))
      exact ⟨ws, by rw [upd_ne ne]; exact g1, g2⟩
  · have ne : b ≠ a := fun y => m (y ▸ ma)
    rw [upd_ne ne]
    exact e
end
/-- where one stands in a def's body -/
structure OkS (G : Ge) (N : List Str) (k : Nat) (sc : Scope) (X : Cx) : Prop extends OkX G N k sc X where
  scp : X.env.scope = sc
  pas : PassesOwn (model X.prog X.w) X.A X.env X.xe
  stk : X.stack = X.env :: X.outer
  frm : X.env.frame = some X.env.locals
structure OkH (N : List Str) (sc : Scope) (X : Cx) : Prop where
  hN : X.N = N
  nd : N.Nodup
  hsc : Sees sc X
structure SS (G : Ge) (N : List Str) (k : Nat) (ir : IR) : Prop where
  s : ∀ {sc : Scope} {X : Cx} {W : WX} {x : Stmt}, OkS G N k sc X → Takes X W → (mt G N ir).s sc x = true → PS X x (RdS X.mg W (den G ir).s)
  ss : ∀ {sc : Scope} {X : Cx} {W : WX} {x : List Stmt}, OkS G N k sc X → Takes X W → (mt G N ir).ss sc x = true → PSs X x (RdS X.mg W (den G ir).s)
section
variable {G : Ge} {N : List Str} {k : Nat} {x y z : IR}
theorem SS.of (h2 : ∀ sc l, (mt G N x).ss sc l = false) (h : ∀ {sc : Scope} {X : Cx} {W : WX} {e : Stmt}, OkS G N k sc X → Takes X W → (mt G N x).s sc e = true → PS X e (RdS X.mg W (den G x).s)) : SS G N k x :=
  ⟨h, fun _ _ q => by rw [h2] at q; cases q⟩
theorem ss_nil : SS G N k .nil where
  s := fun _ _ h => nomatch h
  ss := fun {sc X W l} ok tk h => by
    cases l with
    | nil => exact PSs.imp pss_nil fun D σ H ⟨ρ, μ, F, ι, S, a⟩ => a σ ι F H Ext.refl Grow.refl S
    | cons _ _ => cases h
theorem seq_read {X : Cx} {W : WX} {m n : Rho → List Cell → RS} {D : Ends} {σ : St} {H : Hp} (h : RdS X.mg W (fun ρ μ => (m ρ μ).seq n) D σ H) : tSeq (RdS X.mg W m) (RdS X.mg W n) D σ H := by
  obtain ⟨ρ, μ, F, ι, S, a⟩ := h
  refine ⟨ρ, μ, F, ι, S, ?_⟩
  cases e : m ρ μ with
  | nx ρ1 μ1 =>
    replace a : AftS X.mg W ι F H D ((m ρ μ).seq n) := a
    rw [e] at a
    exact fun σ1 ι1 F1 H1 e1 g1 S1 => ⟨ρ1, μ1, F1, ι1, S1, AftS.rebase a e1 g1⟩
  | _ =>
    replace a : AftS X.mg W ι F H D ((m ρ μ).seq n) := a
    rw [e] at a
    exact a
theorem ss_cons (hx : SS G N k x) (hy : SS G N k y) : SS G N k (.cons x y) where
  s := fun _ _ h => nomatch h
  ss := fun {sc X W l} ok tk h => by
    cases l with
    | nil => cases h
    | cons e l =>
      obtain ⟨h1, h2⟩ := Bool.and_eq_true_iff.mp h
      exact PSs.imp (pss_cons (hx.s ok tk h1) (hy.ss ok tk h2)) fun D σ H q => seq_read q
theorem ss_pass : SS G N k .pass := SS.of (fun _ _ => rfl) fun {sc X W e} ok tk h => by
  have go : ∀ {D : Ends} {σ : St} {H : Hp}, RdS X.mg W (den G .pass).s D σ H → tNext D σ H := fun {D σ H} ⟨ρ, μ, F, ι, S, a⟩ => a σ ι F H Ext.refl Grow.refl S
  dsimp only [mt] at h
  split at h
  · exact PS.imp ps_pass fun D σ H q => go q
  · exact PS.imp ps_doc fun D σ H q => go q
  · cases h
theorem ss_brk : SS G N k .brk := SS.of (fun _ _ => rfl) fun {sc X W e} ok tk h => by
  dsimp only [mt] at h
  split at h
  · exact PS.imp ps_break fun D σ H ⟨ρ, μ, F, ι, S, a⟩ => a σ ι F H Ext.refl Grow.refl S
  · cases h
theorem ss_ctn : SS G N k .ctn := SS.of (fun _ _ => rfl) fun {sc X W e} ok tk h => by
  dsimp only [mt] at h
  split at h
  · exact PS.imp ps_continue fun D σ H ⟨ρ, μ, F, ι, S, a⟩ => a σ ι F H Ext.refl Grow.refl S
  · cases h
theorem ret_read {X : Cx} {W : WX} {m : Rho → List Cell → R SV} {D : Ends} {σ : St} {H : Hp} (h : RdS X.mg W (fun ρ μ => (m ρ μ).st ρ fun v μ1 => .rt v μ1) D σ H) : tRet (Rd X.mg W RelE m) D σ H := by
  obtain ⟨ρ, μ, F, ι, S, a⟩ := h
  exact Rd.mono (AftS.step (U := RelE) (ρ' := ρ) a S) fun v H1 ⟨s1, μ1, F1, e1, S1, ⟨r1, n1⟩, a⟩ => a v ρ σ ι F1 H1 e1 Grow.refl S1 r1 n1
theorem ss_ret (hx : SE G N k x) : SS G N k (.ret x) := SS.of (fun _ _ => rfl) fun {sc X W e} ok tk h => by
  dsimp only [mt] at h
  split at h
  · exact PS.imp (ps_ret (hx.e ok.toOkX tk h)) fun D σ H q => ret_read q
  · cases h
theorem ss_retN : SS G N k .retN := SS.of (fun _ _ => rfl) fun {sc X W e} ok tk h => by
  dsimp only [mt] at h
  split at h
  · exact PS.imp ps_retN fun D σ H ⟨ρ, μ, F, ι, S, a⟩ => a .non ρ σ ι F H Ext.refl Grow.refl S .non trivial
  · cases h
theorem notComp_of {e : Expr} (h : isComp e = false) : ∀ t l env, swapsWith e t l env = pure false := fun t l env => by
  cases e <;> first
    | rfl
    | cases h
theorem ss_xpr (hx : SE G N k x) : SS G N k (.xpr x) := SS.of (fun _ _ => rfl) fun {sc X W e} ok tk h => by
  dsimp only [mt] at h
  split at h
  · simp only [Bool.and_eq_true, Bool.not_eq_true'] at h
    refine PS.imp (ps_expr (hx.e ok.toOkX tk h.1) (notComp_of h.2 _ _ _)) fun D σ H ⟨ρ, μ, F, ι, S, a⟩ => ?_
    exact Rd.mono (AftS.step (U := RelE) (ρ' := ρ) a S) fun v H1 ⟨s1, μ1, F1, e1, S1, ⟨r1, n1⟩, a⟩ => a σ ι F1 H1 e1 Grow.refl S1
  · cases h
theorem set_read {X : Cx} {W : WX} {m : Rho → List Cell → R SV} {D : Ends} {σ : St} {H : Hp} {i : Nat} (h : RdS X.mg W (fun ρ μ => ((m ρ μ).bind (toName false)).st ρ fun v μ1 => .nx (ρ.set i (some v)) μ1) D σ H) : tAsg (Rd X.mg W RelE m) (gName i) D σ H := by
  obtain ⟨ρ, μ, F, ι, S, a⟩ := h
  replace a : AftS X.mg W ι F H D (((m ρ μ).bind (toName false)).st ρ fun v μ1 => .nx (ρ.set i (some v)) μ1) := a
  have a' : AftS X.mg W ι F H D ((m ρ μ).st ρ fun v μ1 => (toName false v μ1).st ρ fun v μ1 => .nx (ρ.set i (some v)) μ1) := by
    cases q : m ρ μ <;> (rw [q] at a; exact a)
  refine Rd.mono (AftS.step (U := RelE) (ρ' := ρ) a' S) fun v H1 ⟨s1, μ1, F1, e1, S1, ⟨r1, n1⟩, a⟩ => ?_
  cases s1 with
  | dat d => exact a _ ι F1 H1 e1 Grow.refl (S1.setS i (sv := .dat d) r1)
  | own j => exact a _ ι F1 H1 e1 Grow.refl (S1.setS i (sv := .own j) r1)
  | nst j => exact a _ ι F1 H1 e1 Grow.refl (S1.setS i (sv := .nst j) r1)
  | frn j => exact a.elim
  | fre ds =>
    obtain ⟨F2, e2, _, S2, q⟩ := S1.keep e1 r1 n1 (d := .list ds) (μ' := μ1) rfl
    exact a _ ι F2 H1 e2 Grow.refl (S2.setS i (sv := .dat (.list ds)) q)
theorem ss_set {i : Nat} (hx : SA G N k x) : SS G N k (.set i x) := SS.of (fun _ _ => rfl) fun {sc X W e} ok tk h => by
  dsimp only [mt] at h
  split at h
  · simp only [Bool.and_eq_true, decide_eq_true_eq] at h
    obtain ⟨⟨⟨h1, h2⟩, h3⟩, h4⟩ := h
    exact PS.imp (hx.a ok.toOkX tk h3 h1 h2 h4) fun D σ H q => set_read q
  · cases h
theorem toName_exc {b : Bool} {v : SV} {x : Exn} {μ μ' : List Cell} (h : toName b v μ = .exc x μ') : False := by
  cases b <;> cases v <;> cases h
theorem ss_setO {i : Nat} (hx : SA G N k x) : SS G N k (.setO i x) := SS.of (fun _ _ => rfl) fun {sc X W e} ok tk h => by
  dsimp only [mt] at h
  split at h
  · simp only [Bool.and_eq_true, decide_eq_true_eq] at h
    obtain ⟨⟨⟨h1, h2⟩, h3⟩, h4⟩ := h
    refine PS.imp (hx.a ok.toOkX tk h3 h1 h2 h4) fun D σ H ⟨ρ, μ, F, ι, S, a⟩ => ?_
    replace a : AftS X.mg W ι F H D ((((den G x).e ρ μ).bind (toName true)).st ρ fun v μ1 => .nx (ρ.set i (some v)) μ1) := a
    have a' : AftS X.mg W ι F H D (((den G x).e ρ μ).st ρ fun v μ1 => (toName true v μ1).st ρ fun v μ1 => .nx (ρ.set i (some v)) μ1) := by
      cases q : (den G x).e ρ μ <;> (rw [q] at a; exact a)
    refine Rd.mono (AftS.step (U := RelE) (ρ' := ρ) a' S) fun v H1 ⟨s1, μ1, F1, e1, S1, ⟨r1, n1⟩, a⟩ => ?_
    cases s1 with
    | fre ds =>
      obtain ⟨p, vs, rfl, h5, h6, h7, h8⟩ := r1
      have S2 := S1.grow h5 h6 h7 h8
      refine a _ (ι ++ [p]) F1 H1 e1 ⟨[p], rfl, fun b hb => ?_⟩ (S2.setS i (sv := .own μ1.length) ⟨p, ?_, rfl⟩)
      · have e : b = p := by simpa using hb
        subst e
        exact n1 _ rfl
      · rw [← S1.len]
        simp
    | own j => exact a _ ι F1 H1 e1 Grow.refl (S1.setS i (sv := .own j) r1)
    | dat d => exact a.elim
    | nst d => exact a.elim
    | frn dss =>
      obtain ⟨p, bs, rfl, h5, h6, h7, h8, h9⟩ := r1
      have S2 := S1.growN h5 h6 h7 h8 h9
      obtain ⟨m1, m2⟩ := n1 p bs rfl h5
      refine a _ (ι ++ (bs ++ [p])) F1 H1 e1 ⟨bs ++ [p], rfl, fun b hb => ?_⟩ (S2.setS i (sv := .nst (μ1.length + dss.length)) ⟨p, ?_, rfl⟩)
      · rcases List.mem_append.mp hb with hb | hb
        · exact m2 b hb
        · rw [List.mem_singleton.mp hb]
          exact m1
      · have l1 := Paired.length h9
        rw [← S1.len, ← l1, ← List.append_assoc, List.getElem?_append_right (by simp)]
        simp
  · cases h
def tAugI (o : Operator) : TIp := fun x y H Q => ∃ p q r : Int, x = .int p ∧ y = .int q ∧ augI o p q = some r ∧ Q (.int r) H
theorem pip_aug {X : Cx} (o : Operator) : PIp X o (tAugI o) := fun pins s σ H x y v u Q I rx ry ⟨p, q, r, e1, e2, e3, z⟩ => by
  cases o with
  | Add =>
    cases e3
    exact iop_add pins s σ H x y v u Q I rx ry ⟨p, q, e1, e2, z⟩
  | Sub =>
    cases e3
    exact iop_sub pins s σ H x y v u Q I rx ry ⟨p, q, e1, e2, z⟩
  | FloorDiv =>
    simp only [augI] at e3
    split at e3
    · rename_i hd
      cases e3
      obtain ⟨d1, d2⟩ := Bool.and_eq_true_iff.mp hd
      exact iop_fdivW pins s σ H x y v u Q I rx ry ⟨p, q, e1, e2, ⟨of_decide_eq_true d1, of_decide_eq_true d2⟩, z⟩
    · cases e3
  | _ => cases e3
theorem ss_aug {i : Nat} {o : Operator} (hx : SE G N k x) : SS G N k (.aug i o x) := SS.of (fun _ _ => rfl) fun {sc X W e} ok tk h => by
  dsimp only [mt] at h
  split at h
  · simp only [Bool.and_eq_true, decide_eq_true_eq] at h
    obtain ⟨⟨⟨ho, h2⟩, h3⟩, h4⟩ := h
    subst ho
    refine PS.imp (ps_aug (by rw [ok.toOkX.hN]; exact ok.toOkX.nd) (Sees.name ok.toOkX h2) (loc_of ok.toOkX.hsc h3) (hx.e ok.toOkX tk h4) (pip_aug _) (fn_of' ok.toOkX h3)) fun D σ H ⟨ρ, μ, F, ι, S, a⟩ => ?_
    replace a : AftS X.mg W ι F H D (match slotI ρ i with
      | none => .stuck
      | some p => (((den G x).e ρ μ).bind fun w μ3 => (asI w μ3).bind fun q μ4 => R.of (augI o p q) μ4).st ρ fun v μ1 => .nx (ρ.set i (some (.dat (.int v)))) μ1) := a
    cases hs : slotI ρ i with
    | none =>
      rw [hs] at a
      exact a.elim
    | some p =>
      rw [hs] at a
      have hp : ρ[i]? = some (some (.dat (.int p))) := by
        unfold slotI at hs
        split at hs
        · cases hs
          assumption
        · cases hs
      obtain ⟨w, e1, q⟩ := S.slot i _ hp
      cases q
      refine ⟨_, e1, ?_⟩
      have a' : AftS X.mg W ι F H D (((den G x).e ρ μ).st ρ fun w μ3 => ((asI w μ3).bind fun q μ4 => R.of (augI o p q) μ4).st ρ fun v μ1 => .nx (ρ.set i (some (.dat (.int v)))) μ1) := by
        cases q : (den G x).e ρ μ <;> (rw [q] at a; exact a)
      refine Rd.mono (AftS.step (U := RelE) (ρ' := ρ) a' S) fun v H1 ⟨s1, μ1, F1, e2, S1, ⟨r1, n1⟩, a⟩ => ?_
      cases s1 with
      | dat d =>
        cases d with
        | int q =>
          cases r1
          replace a : AftS X.mg W ι F H D ((R.of (augI o p q) μ1).st ρ fun v μ1 => .nx (ρ.set i (some (.dat (.int v)))) μ1) := a
          cases ha : augI o p q with
          | none =>
            rw [ha] at a
            exact a.elim
          | some r =>
            rw [ha] at a
            exact ⟨p, q, r, rfl, rfl, ha, a _ ι F1 H1 e2 Grow.refl (S1.setS i (sv := .dat (.int r)) (.int r))⟩
        | _ => exact a.elim
      | _ => exact a.elim
  · cases h
theorem ss_ifs (hx : SE G N k x) (hy : SS G N k y) (hz : SS G N k z) : SS G N k (.ifs x y z) := SS.of (fun _ _ => rfl) fun {sc X W e} ok tk h => by
  dsimp only [mt] at h
  split at h
  · simp only [Bool.and_eq_true] at h
    refine PS.imp (ps_if (hx.t ok.toOkX tk h.1.1) (hy.ss ok tk h.1.2) (hz.ss ok tk h.2)) fun D σ H ⟨ρ, μ, F, ι, S, a⟩ => ?_
    refine Rd.mono (AftS.step (U := RelB) (ρ' := ρ) a S) fun b H1 ⟨s1, μ1, F1, e1, S1, r1, a⟩ => ?_
    subst r1
    cases b with
    | true =>
      rw [if_pos rfl]
      exact ⟨ρ, μ1, F1, ι, S1, AftS.rebase a e1 Grow.refl⟩
    | false =>
      rw [if_neg Bool.false_ne_true]
      exact ⟨ρ, μ1, F1, ι, S1, AftS.rebase a e1 Grow.refl⟩
  · cases h
end
end DL

set_option maxHeartbeats 1000000
/-! DL18: lists changed, loops, errors. -/
namespace DL
open PySem PySem.Spec PyProof.Rows L2
section
variable {G : Ge} {N : List Str} {k : Nat} {x y z : IR}
theorem AftS.flat {α : Type} {mg : Str → Option Value} {W : WX} {ρ : Rho} {F H : Hp} {ι : List Addr} {D : Ends} {β : Type} {r : R β} {g : β → List Cell → R α} {f : α → List Cell → RS} (a : AftS mg W ι F H D ((r.bind g).st ρ f)) : AftS mg W ι F H D (r.st ρ fun v μ1 => (g v μ1).st ρ f) := by
  cases r <;> exact a
theorem AftS.keep {mg : Str → Option Value} {W : WX} {ρ : Rho} {μ : List Cell} {σ : St} {F H F1 H1 G0 : Hp} {ι : List Addr} {D : Ends} {v : SV} {x : V} {f : DL.D → List Cell → RS} (a : AftS mg W ι F H D ((v.keep μ).st ρ f)) (S : Sat ρ μ σ H1 F1 ι) (e : Ext ι F H F1 H1) (r : VRep F1 H1 ι x v) (n : NewV H H1 x v) :
    ∃ d μ' F', Ext ι F H F' H1 ∧ Same F1 F' ∧ Sat ρ μ' σ H1 F' ι ∧ Dt F' x d ∧ AftS mg W ι F H D (f d μ') := by
  cases h : v.keep μ with
  | ok d μ' =>
    rw [h] at a
    obtain ⟨F', e', sf, S', q⟩ := S.keep e r n h
    exact ⟨d, μ', F', e', sf, S', q, a⟩
  | exc x μ' => exact (keep_exc h).elim
  | stuck =>
    rw [h] at a
    exact a.elim
theorem AftS.ofO {α : Type} {mg : Str → Option Value} {W : WX} {ρ : Rho} {μ : List Cell} {F H : Hp} {ι : List Addr} {D : Ends} {o : Option α} {f : α → List Cell → RS} (a : AftS mg W ι F H D ((R.of o μ).st ρ f)) : ∃ x, o = some x ∧ AftS mg W ι F H D (f x μ) := by
  cases o with
  | none => exact a.elim
  | some x => exact ⟨x, rfl, a⟩
theorem slot_own {ρ : Rho} {μ : List Cell} {σ : St} {F H : Hp} {ι : List Addr} {i k : Nat} (S : Sat ρ μ σ H F ι) (e : ρ[i]? = some (some (.own k))) : ∃ a c vs, ι[k]? = some a ∧ μ[k]? = some c ∧ σ[i]? = some (some (.ref a)) ∧ H a = some (.lst vs) ∧ Its F ι vs c := by
  obtain ⟨v, h1, a, h2, rfl⟩ := S.slot i _ e
  have hk : k < μ.length := by
    rw [← S.len]
    exact (List.getElem?_eq_some_iff.mp h2).1
  obtain ⟨vs, h3, h4, _⟩ := S.cell k a μ[k] h2 (by simp [hk])
  exact ⟨a, μ[k], vs, h2, by simp [hk], h1, h3, h4⟩
theorem appR_of {k : Nat} {d : DL.D} {μ μ' : List Cell} (h : appR k d μ = some μ') : ∃ c, μ[k]? = some c ∧ (c.st ≠ .froz ∧ c.st ≠ .nest) ∧ c.ds.length < 10000000 ∧ μ' = μ.set k ⟨c.st, c.ds ++ [d]⟩ := by
  unfold appR at h
  split at h
  · rename_i c e
    split at h
    · cases h
    · rename_i nf
      split at h
      · rename_i hl
        cases h
        exact ⟨c, e, shut_froz nf, hl, rfl⟩
      · cases h
  · cases h
theorem stiR_of {k : Nat} {n : Int} {d : DL.D} {μ μ' : List Cell} (h : stiR k n d μ = some μ') : ∃ c j, μ[k]? = some c ∧ (c.st ≠ .froz ∧ c.st ≠ .nest) ∧ ixN c.ds.length n = some j ∧ μ' = μ.set k ⟨c.st, c.ds.set j d⟩ := by
  unfold stiR at h
  split at h
  · rename_i c e
    split at h
    · cases h
    · rename_i nf
      split at h
      · rename_i j hl
        cases h
        exact ⟨c, j, e, shut_froz nf, hl, rfl⟩
      · cases h
  · cases h
theorem AftS.asI {mg : Str → Option Value} {W : WX} {ρ : Rho} {μ : List Cell} {F H : Hp} {ι : List Addr} {D : Ends} {v : SV} {f : Int → List Cell → RS} (a : AftS mg W ι F H D ((DL.asI v μ).st ρ f)) : ∃ n, v = .dat (.int n) ∧ AftS mg W ι F H D (f n μ) := by
  unfold DL.asI at a
  split at a
  · exact ⟨_, rfl, a⟩
  · exact a.elim
theorem AftS.stiV {mg : Str → Option Value} {W : WX} {ρ : Rho} {μ : List Cell} {F H : Hp} {ι : List Addr} {D : Ends} {v : SV} {n : Int} {d : DL.D} {f : List Cell → List Cell → RS} (a : AftS mg W ι F H D ((DL.stiV n d v μ).st ρ f)) :
    ∃ k c j, v = .own k ∧ μ[k]? = some c ∧ (c.st ≠ .froz ∧ c.st ≠ .nest) ∧ ixN c.ds.length n = some j ∧ AftS mg W ι F H D (f (μ.set k ⟨c.st, c.ds.set j d⟩) μ) := by
  unfold DL.stiV at a
  split at a
  · rename_i k
    obtain ⟨μ', e, a⟩ := a.ofO
    obtain ⟨c, j, h1, h2, h3, rfl⟩ := stiR_of e
    exact ⟨k, c, j, rfl, h1, h2, h3, a⟩
  · exact a.elim
theorem ss_app {i : Nat} (hx : SE G N k x) : SS G N k (.app i x) := SS.of (fun _ _ => rfl) fun {sc X W e} ok tk h => by
  dsimp only [mt] at h
  split at h
  · simp only [Bool.and_eq_true, decide_eq_true_eq] at h
    obtain ⟨⟨⟨⟨⟨h1, h2⟩, h3⟩, rfl⟩, h4⟩, h5⟩ := h
    have st := hx.st h4 [] X.env
    refine PS.imp (ps_expr (pe_bm F.plainAttrs_list F.slot_list_append F.type_list_append mt_append (pe_slot (W := W) ok.toOkX h1 h2 h3) (pa_cons (hx.e ok.toOkX tk h4) pa_nil st) rfl ?_ h5 st rfl) rfl) fun D σ H ⟨ρ, μ, F, ι, S, a⟩ => ?_
    · rw [st]
      rfl
    replace a : AftS X.mg W ι F H D (match ownS ρ i with
      | some k => (((den G x).e ρ μ).bind fun v μ1 => (v.keep μ1).bind fun d μ2 => R.of (appR k d μ2) μ2).st ρ fun r _ => .nx ρ r
      | none => .stuck) := a
    unfold ownS at a
    split at a
    case h_2 => exact a.elim
    rename_i kk eo
    split at eo
    case h_2 => cases eo
    rename_i kk' es
    cases eo
    obtain ⟨p, c, vs, k1, k2, k3, k4, k5⟩ := slot_own S es
    refine ⟨ρ, μ, F, ι, S, ?_⟩
    have eS : slot ρ i μ = .ok (.own kk) μ := by
      unfold slot
      rw [es]
    show Aft X.mg W RelE ρ σ ι F H (slot ρ i μ) _
    rw [eS]
    intro w F0 H0 e0 S0 ⟨r0, _⟩
    obtain ⟨p', q1, rfl⟩ := r0
    rw [k1] at q1
    cases q1
    obtain ⟨p2, c2, vs2, q1, q2, q3, q4, q5⟩ := slot_own S0 es
    rw [k1] at q1
    cases q1
    refine ⟨.inl ⟨rfl, _, .inl (L2.Rd.of q4)⟩, ?_⟩
    refine Rd.mono (AftS.step (U := RelE) (ρ' := ρ) ((AftS.flat a).rebase e0 Grow.refl) S0) fun v H1 ⟨s1, μ1, F1, e1, S1, ⟨r1, n1⟩, a⟩ => ?_
    obtain ⟨d, μ2, F2, e2, sf, S2, q, a⟩ := a.flat.keep (G0 := H0) S1 e1 r1 n1
    obtain ⟨μ3, eA, a⟩ := a.ofO
    obtain ⟨c3, ec, nf, hl, rfl⟩ := appR_of eA
    obtain ⟨vs3, t1, t2, _⟩ := S2.cell _ p c3 k1 ec
    replace t2 := t2.dt nf.2
    obtain ⟨S3, e3⟩ := S2.setCell k1 ec nf.1 nf.2 (t2.append (.cons q .nil))
    refine ⟨p, vs3, v, rfl, rfl, t1, ?_, a σ ι F2 _ (e2.trans e3) Grow.refl S3⟩
    have := t2.length
    have h7 := size7 (n := c3.ds.length + 1) (by omega)
    omega
  · cases h
theorem sole_of {t e : Expr} {l : Nat} {env : Env} (h : isComp e = false) : swapsWithSole [t] e l env = pure false := notComp_of h _ _ _
theorem ss_sti {i : Nat} (hx : SE G N k x) (hy : SE G N k y) : SS G N k (.sti i x y) := SS.of (fun _ _ => rfl) fun {sc X W e} ok tk h => by
  dsimp only [mt] at h
  split at h
  · simp only [Bool.and_eq_true, decide_eq_true_eq, Bool.not_eq_true'] at h
    obtain ⟨⟨⟨⟨⟨⟨h1, h2⟩, h3⟩, h4⟩, h5⟩, h6⟩, h7⟩ := h
    have pl := plainIx_of h5
    refine PS.imp (ps_asg (hy.e ok.toOkX tk h6) (pg_sub (pe_slot (W := W) ok.toOkX h1 h2 h3) (hx.e ok.toOkX tk h4) set_list ?_) (sole_of h7) rfl rfl) fun D σ H ⟨ρ, μ, F, ι, S, a⟩ => ?_
    · intro v
      clear h4 pl h1 h2 h3 h6 h7
      rename_i n1 p1 sl p2 vv p3
      cases sl <;> first
        | rfl
        | cases h5
    replace a : AftS X.mg W ι F H D ((((den G y).e ρ μ).bind fun v μ1 => (v.keep μ1).bind fun d μ2 => (slot ρ i μ2).bind fun w μ3 => ((den G x).e ρ μ3).bind fun u μ4 => (asI u μ4).bind fun n μ5 => stiV n d w μ5).st ρ fun r _ => .nx ρ r) := a
    refine Rd.mono (AftS.step (U := RelE) (ρ' := ρ) a.flat S) fun v H1 ⟨s1, μ1, F1, e1, S1, ⟨r1, n1⟩, a⟩ => ?_
    obtain ⟨d, μ2, F2, e2, sf, S2, q, a⟩ := a.flat.keep (G0 := H) S1 e1 r1 n1
    have a := a.flat
    refine Rd.mono (AftS.step (U := RelE) (ρ' := ρ) (m := fun ρ μ => slot ρ i μ) (a.rebase e2 Grow.refl) S2) fun w H3 ⟨s3, μ3, F3, e3, S3, ⟨r3, n3⟩, a⟩ => ?_
    refine Rd.mono (AftS.step (U := RelE) (ρ' := ρ) (a.flat.rebase e3 Grow.refl) S3) fun u H4 ⟨s4, μ4, F4, e4, S4, ⟨r4, n4⟩, a⟩ => ?_
    obtain ⟨nn, rfl, a⟩ := a.flat.asI
    cases r4
    obtain ⟨kk, c3, j, rfl, ec, nf, ej, a⟩ := a.stiV
    obtain ⟨p, k1, rfl⟩ := r3
    obtain ⟨vs3, t1, t2, _⟩ := S4.cell kk p c3 k1 ec
    replace t2 := t2.dt nf.2
    obtain ⟨S5, e5⟩ := S4.setCell k1 ec nf.1 nf.2 (t2.set (Dt.mono (e3.fs.trans e4.fs) q) j)
    exact ⟨p, vs3, nn, j, rfl, rfl, t1, by rw [t2.length]; exact ej, a σ ι F4 _ (e4.trans e5) Grow.refl S5⟩
  · cases h
end
end DL

set_option maxHeartbeats 1000000
/-! DL19: loops, errors, several names at once. -/
namespace DL
open PySem PySem.Spec PyProof.Rows L2
section
variable {G : Ge} {N : List Str} {k : Nat} {x y z : IR}
theorem ss_fo {tg : Tg} (hx : SI G N k x) (hy : SS G N k y) : SS G N k (.fo tg x y) := SS.of (fun _ _ => rfl) fun {sc X W e} ok tk h => by
  dsimp only [mt] at h
  split at h
  · simp only [Bool.and_eq_true] at h
    obtain ⟨⟨h1, h2⟩, h3⟩ := h
    refine PS.imp (ps_for ok.pas ok.calm (hx.p ok.toOkX tk h2) ((pgs_tg ok.toOkX tg).1 h1) (hy.ss ok tk h3) (hx.fs h2 _)) fun D σ H ⟨ρ, μ, F, ι, S, a⟩ => ?_
    refine Rd.mono (AftS.step (U := RelI) (ρ' := ρ) a S) fun J H1 ⟨ds, μ1, F1, e1, S1, wd, a⟩ => ?_
    replace a := AftS.rebase a e1 Grow.refl
    refine ⟨fun i m σ H => m = ds.length - i ∧ i ≤ ds.length ∧ ∃ ρ μ F ι', Ext ι F1 H1 F H ∧ Grow ι ι' H1 ∧ Sat ρ μ σ H F ι' ∧ AftS X.mg W ι F1 H1 D (forR tg.f.one (den G y).s (ds.drop i) ρ μ), ⟨_, rfl, Nat.zero_le _, ρ, μ1, F1, ι, Ext.refl, Grow.refl, S1, a⟩, ?_⟩
    rintro i m σi Hi ⟨rfl, hi, ρi, μi, Fi, ιi, ei, gi, Si, ai⟩
    by_cases hlt : i < ds.length
    · have hd : ds[i]? = some ds[i] := by simp [hlt]
      rw [List.drop_eq_getElem_cons hlt] at ai
      unfold forR at ai
      split at ai
      case h_1 => exact ai.elim
      rename_i ρ1 ea
      refine .inr ⟨wd.goes Fi Hi i _ ei.fs Si.sub hd, fun σ' H' => i + 1 ≤ ds.length ∧ ∃ ρ μ F ι', Ext ι F1 H1 F H' ∧ Grow ι ι' H1 ∧ Sat ρ μ σ' H' F ι' ∧ AftS X.mg W ι F1 H1 D (forR tg.f.one (den G y).s (ds.drop (i + 1)) ρ μ), fun σ' H' q => ⟨_, by omega, rfl, q⟩, fun v H' yl => ?_⟩
      obtain ⟨F2, op, dx⟩ := wd.yields Fi Hi i _ v H' ei.fs Si.sub hd yl
      have S2 := op.sat Si
      have e2 : Ext ι F1 H1 F2 H' := ei.grow gi op.ext
      refine (g_ok tg).1 ea S2 dx fun σ2 S3 k3 l3 => ⟨ρ1, μi, F2, ιi, S3, ?_⟩
      cases eb : (den G y).s ρ1 μi with
      | nx ρ2 μ2 =>
        rw [eb] at ai
        exact fun σ3 ι3 F3 H3 e3 g3 S3 => ⟨hlt, ρ2, μ2, F3, ι3, e2.grow gi e3, gi.trans g3 e2.ht, S3, ai⟩
      | ct ρ2 μ2 =>
        rw [eb] at ai
        exact fun σ3 ι3 F3 H3 e3 g3 S3 => ⟨hlt, ρ2, μ2, F3, ι3, e2.grow gi e3, gi.trans g3 e2.ht, S3, ai⟩
      | bk ρ2 μ2 =>
        rw [eb] at ai
        exact fun σ3 ι3 F3 H3 e3 g3 S3 => ai σ3 ι3 F3 H3 (e2.grow gi e3) (gi.trans g3 e2.ht) S3
      | rt v μ2 =>
        rw [eb] at ai
        exact AftS.rebase ai e2 gi
      | exc ex ρ2 μ2 =>
        rw [eb] at ai
        exact AftS.rebase ai e2 gi
      | stuck =>
        rw [eb] at ai
        exact ai.elim
    · have e : i = ds.length := by omega
      subst e
      rw [List.drop_length] at ai
      exact .inl ⟨wd.stops Fi Hi ei.fs Si.sub, ai σi ιi Fi Hi ei gi Si⟩
  · cases h
theorem ss_whl (hx : SE G N k x) (hy : SS G N k y) : SS G N k (.whl x y) := SS.of (fun _ _ => rfl) fun {sc X W e} ok tk h => by
  dsimp only [mt] at h
  split at h
  · obtain ⟨h1, h2⟩ := Bool.and_eq_true_iff.mp h
    refine PS.imp (ps_while ok.pas (hx.t ok.toOkX tk h1) (hy.ss ok tk h2)) fun D σ H ⟨ρ, μ, F, ι, S, a⟩ => ?_
    replace a : AftS X.mg W ι F H D (whileR (testR (den G x).e) (den G y).s ρ μ) := a
    unfold whileR at a
    split at a
    case isFalse => exact a.elim
    rename_i ex
    refine ⟨fun m σ' H' => ∃ ρ μ F' ι', Sat ρ μ σ' H' F' ι' ∧ AftS X.mg W ι' F' H' D (whileN (testR (den G x).e) (den G y).s m ρ μ), ⟨_, ρ, μ, F, ι, S, a⟩, ?_⟩
    rintro m σi Hi ⟨ρi, μi, Fi, ιi, Si, ai⟩
    cases m with
    | zero => exact ai.elim
    | succ m =>
      unfold whileN at ai
      refine Rd.mono (AftS.step (U := RelB) (ρ' := ρi) ai Si) fun b H1 ⟨s1, μ1, F1, e1, S1, r1, ai⟩ => ?_
      subst r1
      replace ai := AftS.rebase ai e1 Grow.refl
      cases b with
      | false =>
        rw [if_neg Bool.false_ne_true]
        exact ai σi ιi F1 H1 Ext.refl Grow.refl S1
      | true =>
        rw [if_pos rfl]
        refine ⟨fun σ' H' => ∃ ρ μ F' ι', Sat ρ μ σ' H' F' ι' ∧ AftS X.mg W ι' F' H' D (whileN (testR (den G x).e) (den G y).s m ρ μ), fun σ' H' q => ⟨m, Nat.lt_succ_self m, q⟩, ρi, μ1, F1, ιi, S1, ?_⟩
        replace ai : AftS X.mg W ιi F1 H1 D (match (den G y).s ρi μ1 with
          | .nx ρ2 μ2 => whileN (testR (den G x).e) (den G y).s m ρ2 μ2
          | .ct ρ2 μ2 => whileN (testR (den G x).e) (den G y).s m ρ2 μ2
          | .bk ρ2 μ2 => .nx ρ2 μ2
          | r => r) := ai
        cases eb : (den G y).s ρi μ1 with
        | nx ρ2 μ2 =>
          rw [eb] at ai
          exact fun σ3 ι3 F3 H3 e3 g3 S3 => ⟨ρ2, μ2, F3, ι3, S3, AftS.rebase ai e3 g3⟩
        | ct ρ2 μ2 =>
          rw [eb] at ai
          exact fun σ3 ι3 F3 H3 e3 g3 S3 => ⟨ρ2, μ2, F3, ι3, S3, AftS.rebase ai e3 g3⟩
        | bk ρ2 μ2 =>
          rw [eb] at ai
          exact fun σ3 ι3 F3 H3 e3 g3 S3 => ai σ3 ι3 F3 H3 e3 g3 S3
        | rt v μ2 =>
          rw [eb] at ai
          exact ai
        | exc ex ρ2 μ2 =>
          rw [eb] at ai
          exact ai
        | stuck =>
          rw [eb] at ai
          exact ai.elim
  · cases h
theorem ss_rai {c m : Str} : SS G N k (.rai c m) := SS.of (fun _ _ => rfl) fun {sc X W e} ok tk h => by
  dsimp only [mt] at h
  split at h
  · simp only [Bool.and_eq_true, decide_eq_true_eq] at h
    obtain ⟨⟨⟨⟨rfl, h2⟩, h3⟩, h4⟩, rfl⟩ := h
    obtain ⟨C, q1, q2, q3, q4, q5⟩ := (ok.exo _ h2).ex
    exact PS.imp (ps_raise ok.calm tk (pmk_own PySem.F.excBase_ValueError q2 q1 q3 (raises_own q4 q5) (gl_of ok.hsc h3) (okName_of h4).1)) fun D σ H ⟨ρ, μ, F, ι, S, a⟩ => a _ _ σ ι F H Ext.refl Grow.refl S ⟨q1, .inl ⟨rfl, rfl⟩⟩
  · cases h

/-! ### except suites -/
structure SH (G : Ge) (N : List Str) (ir : IR) : Prop where
  e : ∀ {sc : Scope} {X : Cx} {x : Expr}, OkH N sc X → ir.hot = true → (mt G N ir).e sc x = true → PE X x (Rd X.mg W0 RelE (den G ir).e)
  s : ∀ {sc : Scope} {X : Cx} {x : Stmt}, OkH N sc X → ir.hot = true → (mt G N ir).s sc x = true → PS X x (RdS X.mg W0 (den G ir).s)
  ss : ∀ {sc : Scope} {X : Cx} {x : List Stmt}, OkH N sc X → ir.hot = true → (mt G N ir).ss sc x = true → PSs X x (RdS X.mg W0 (den G ir).s)
theorem hot_slot {sc : Scope} {X : Cx} {n : Str} {p : Pos} {i : Nat} (ok : OkH N sc X) (h1 : N[i]? = some n) (h2 : visB sc n = true) (h3 : okName n = true) : PE X (.Name n p) (Rd X.mg W0 RelE fun ρ μ => slot ρ i μ) := by
  obtain ⟨n1, n2, _⟩ := okName_of h3
  refine PE.imp (pe_var (i := i) (by rw [ok.hN]; exact h1) (ok.hsc.vis _ h2) n1 n2) fun σ H Q ⟨ρ, μ, F, ι, S, a⟩ => ?_
  replace a : Aft X.mg W0 RelE ρ σ ι F H (slot ρ i μ) Q := a
  unfold slot at a
  split at a
  · rename_i v e
    obtain ⟨w, e1, q⟩ := S.slot i v e
    refine ⟨w, e1, a w F H Ext.refl S ⟨?_, ?_⟩⟩
    · cases v with
      | dat d => exact q
      | own j => exact q
      | nst j => exact q
      | frn ds => exact q.elim
      | fre ds => exact q.elim
    · cases v with
      | fre ds => exact q.elim
      | frn ds => exact q.elim
      | _ => trivial
  · exact a.elim
theorem sh_all : ∀ ir : IR, SH G N ir := fun ir => by
  induction ir with
  | nil =>
    refine ⟨(fun _ _ h => nomatch h), (fun _ _ h => nomatch h), fun {sc X l} ok _ h => ?_⟩
    cases l with
    | nil => exact PSs.imp pss_nil fun D σ H ⟨ρ, μ, F, ι, S, a⟩ => a σ ι F H Ext.refl Grow.refl S
    | cons _ _ => cases h
  | cons x y hx hy =>
    refine ⟨(fun _ _ h => nomatch h), (fun _ _ h => nomatch h), fun {sc X l} ok hh h => ?_⟩
    cases l with
    | nil => cases h
    | cons e l =>
      obtain ⟨h1, h2⟩ := Bool.and_eq_true_iff.mp h
      obtain ⟨g1, g2⟩ := Bool.and_eq_true_iff.mp hh
      exact PSs.imp (pss_cons (hx.s ok g1 h1) (hy.ss ok g2 h2)) fun D σ H q => seq_read q
  | var i =>
    refine ⟨fun {sc X e} ok _ h => ?_, (fun _ _ h => nomatch h), (fun _ _ h => nomatch h)⟩
    dsimp only [mt, Mt.ofE] at h
    split at h
    · simp only [Bool.and_eq_true, decide_eq_true_eq] at h
      exact hot_slot ok h.1.1 h.1.2 h.2
    · cases h
  | lit d =>
    refine ⟨fun {sc X e} ok _ h => ?_, (fun _ _ h => nomatch h), (fun _ _ h => nomatch h)⟩
    dsimp only [mt, Mt.ofE] at h
    split at h
    · exact pe_lit h
    · cases h
  | pass =>
    refine ⟨(fun _ _ h => nomatch h), fun {sc X e} ok _ h => ?_, (fun _ _ h => nomatch h)⟩
    have go : ∀ {D : Ends} {σ : St} {H : Hp}, RdS X.mg W0 (den G .pass).s D σ H → tNext D σ H := fun {D σ H} ⟨ρ, μ, F, ι, S, a⟩ => a σ ι F H Ext.refl Grow.refl S
    dsimp only [mt] at h
    split at h
    · exact PS.imp ps_pass fun D σ H q => go q
    · exact PS.imp ps_doc fun D σ H q => go q
    · cases h
  | ret x hx =>
    refine ⟨(fun _ _ h => nomatch h), fun {sc X e} ok hh h => ?_, (fun _ _ h => nomatch h)⟩
    dsimp only [mt] at h
    split at h
    · exact PS.imp (ps_ret (hx.e ok hh h)) fun D σ H q => ret_read q
    · cases h
  | retN =>
    refine ⟨(fun _ _ h => nomatch h), fun {sc X e} ok hh h => ?_, (fun _ _ h => nomatch h)⟩
    dsimp only [mt] at h
    split at h
    · exact PS.imp ps_retN fun D σ H ⟨ρ, μ, F, ι, S, a⟩ => a .non ρ σ ι F H Ext.refl Grow.refl S .non trivial
    · cases h
  | set i x hx =>
    refine ⟨(fun _ _ h => nomatch h), fun {sc X e} ok hh h => ?_, (fun _ _ h => nomatch h)⟩
    dsimp only [mt] at h
    split at h
    · simp only [Bool.and_eq_true, decide_eq_true_eq] at h
      obtain ⟨⟨⟨h1, h2⟩, h3⟩, h4⟩ := h
      rename_i n p v pos
      have nc : isComp v = false := by
        have hx' : x.hot = true := hh
        cases v <;> first
          | rfl
          | (exfalso; clear hx hh h4; cases x <;> first
              | (revert hx'; simp [IR.hot]; done)
              | (revert h3; simp [mt, Mt.ofE, Mt.no]; done))
      exact PS.imp (ps_set (by rw [ok.hN]; exact ok.nd) (by rw [ok.hN]; exact h1) (ok.hsc.loc _ h2).1 (hx.e ok hh h3) (notComp_of nc _ _ _) (ok.hsc.loc _ h2).2) fun D σ H q => set_read q
    · cases h
  | brk =>
    refine ⟨(fun _ _ h => nomatch h), fun {sc X e} ok hh h => ?_, (fun _ _ h => nomatch h)⟩
    dsimp only [mt] at h
    split at h
    · exact PS.imp ps_break fun D σ H ⟨ρ, μ, F, ι, S, a⟩ => a σ ι F H Ext.refl Grow.refl S
    · cases h
  | ctn =>
    refine ⟨(fun _ _ h => nomatch h), fun {sc X e} ok hh h => ?_, (fun _ _ h => nomatch h)⟩
    dsimp only [mt] at h
    split at h
    · exact PS.imp ps_continue fun D σ H ⟨ρ, μ, F, ι, S, a⟩ => a σ ι F H Ext.refl Grow.refl S
    · cases h
  | _ => exact ⟨(fun _ h _ => nomatch h), (fun _ h _ => nomatch h), (fun _ h _ => nomatch h)⟩
/-- except clauses -/
def HdsD (X : Cx) (G : Ge) : List (Str × (Rho → List Cell → RS)) → List (Value × (Addr → Value → Option Addr → TS)) → Prop
  | [], [] => True
  | (c, m) :: r, (v, ts) :: l => X.mg c = some v ∧ c ∈ G.exc ∧ (ts = fun _ _ _ => RdS X.mg W0 m) ∧ HdsD X G r l
  | _, _ => False
theorem hds_one {c : Str} {b : IR} {sc : Scope} {X : Cx} {l : List ExceptHandler} (ok : OkS G N k sc X) (h : (mt G N (.hdl c b)).hs sc l = true) {hds : List ExceptHandler} {r : List (Str × (Rho → List Cell → RS))} {ll : List (Value × (Addr → Value → Option Addr → TS))} (hk : HdsOk X hds ll) (hd : HdsD X G r ll) :
    ∃ ll', HdsOk X (l ++ hds) ll' ∧ HdsD X G ((den G (.hdl c b)).h ++ r) ll' := by
  dsimp only [mt] at h
  split at h
  · simp only [Bool.and_eq_true, decide_eq_true_eq] at h
    obtain ⟨⟨⟨⟨⟨rfl, h2⟩, h3⟩, h4⟩, h5⟩, h6⟩ := h
    obtain ⟨C, q1, _⟩ := (ok.exo _ h2).ex
    refine ⟨(.ref C, fun _ _ _ => RdS X.mg W0 (den G b).s) :: ll, .cons ⟨gl_of ok.hsc h3, (okName_of h4).1, .inl q1⟩ (fun a oe cls d pn _ _ => ?_) hk, q1, h2, rfl, hd⟩
    exact (sh_all (G := G) b).ss (X := X.suite a ((a, oe) :: pn)) ⟨ok.hN, ok.nd, ⟨ok.hsc.vis, ok.hsc.loc, ok.hsc.gl, ok.hsc.lcl, ok.hsc.fr, ok.hsc.kind⟩⟩ h5 h6
  · cases h
theorem hds_all {sc : Scope} {X : Cx} (ok : OkS G N k sc X) : ∀ {ir : IR} {l : List ExceptHandler}, (mt G N ir).hs sc l = true → ∀ {hds : List ExceptHandler} {r : List (Str × (Rho → List Cell → RS))} {ll : List (Value × (Addr → Value → Option Addr → TS))}, HdsOk X hds ll → HdsD X G r ll →
    ∃ ll', HdsOk X (l ++ hds) ll' ∧ HdsD X G ((den G ir).h ++ r) ll' := fun {ir} => by
  induction ir with
  | nil =>
    intro l h hds r ll h1 h2
    cases l with
    | nil => exact ⟨ll, h1, h2⟩
    | cons _ _ => cases h
  | cons x y hx hy =>
    intro l h hds r ll g1 g2
    cases l with
    | nil => cases h
    | cons e l =>
      obtain ⟨h1, h2⟩ := Bool.and_eq_true_iff.mp h
      obtain ⟨l1, q1, q2⟩ := hy h2 g1 g2
      obtain ⟨l2, q3, q4⟩ := hx h1 q1 q2
      refine ⟨l2, q3, ?_⟩
      show HdsD X G (((den G x).h ++ (den G y).h) ++ r) l2
      rw [List.append_assoc]
      exact q4
  | hdl x b _ =>
    intro l h hds r ll g1 g2
    exact hds_one ok h g1 g2
  | _ =>
    intro l h
    cases h
theorem wMany_of {X : Cx} {sc : Scope} (ok : OkS G N k sc X) {W : WX} {D : Ends} {c : Value} {d : Option Addr} {σ : St} {H : Hp} {e : Exn} (he : e.cls ∈ G.exc) (hm : X.mg e.cls = some c) : ∀ {r : List (Str × (Rho → List Cell → RS))} {l : List (Value × (Addr → Value → Option Addr → TS))}, HdsD X G r l →
    (match hdlPick G.sub e.cls r with
      | some m => RdS X.mg W0 m D σ H
      | none => W c d σ H) → wMany X.K W D l c d σ H
  | [], [], _, q => q
  | [], _ :: _, h, _ => h.elim
  | _ :: _, [], h, _ => h.elim
  | (x, m) :: r, (v, ts) :: l, ⟨h1, h2, h3, h4⟩, q => by
    refine ⟨G.sub e.cls x, ok.exm _ _ _ _ he h2 hm h1, fun z a _ => ?_, fun z => wMany_of ok he hm h4 ?_⟩
    · rw [h3]
      unfold hdlPick at q
      rw [if_pos z] at q
      exact q
    · unfold hdlPick at q
      rw [if_neg (by rw [z]; exact Bool.false_ne_true)] at q
      exact q
theorem ss_try (hx : SS G N k x) : SS G N k (.tryM x y) := SS.of (fun _ _ => rfl) fun {sc X W e} ok tk h => by
  dsimp only [mt] at h
  split at h
  · obtain ⟨h1, h2⟩ := Bool.and_eq_true_iff.mp h
    obtain ⟨ll, q1, q2⟩ := hds_all ok h2 .nil (r := []) trivial
    rw [List.append_nil] at q1 q2
    refine PS.imp (ps_try_many ok.stk ok.frm tk (tb := fun W => RdS X.mg W (den G x).s) (fun W' pn xe tk' ps' => hx.ss (X := X.tr pn xe) ?_ tk' h1) q1) fun D σ H ⟨ρ, μ, F, ι, S, a⟩ => ?_
    · exact { hN := ok.hN, nd := ok.nd, hsc := ⟨ok.hsc.vis, ok.hsc.loc, ok.hsc.gl, ok.hsc.lcl, ok.hsc.fr, ok.hsc.kind⟩, calm := ok.calm, room := ok.room, grd := ok.grd, cal := fun c h => ⟨(ok.cal c h).ex⟩, con := ok.con, blt := ok.blt, exo := fun c h => ⟨(ok.exo c h).ex⟩, exm := ok.exm, scp := ok.scp, pas := ps', stk := ok.stk, frm := ok.frm }
    · refine ⟨ρ, μ, F, ι, S, ?_⟩
      replace a : AftS X.mg W ι F H D (match (den G x).s ρ μ with
        | .exc x ρ1 μ1 => if G.exc.contains x.cls = true then (match hdlPick G.sub x.cls (den G y).h with
          | some h => (h ρ1 μ1).noX
          | none => .exc x ρ1 μ1) else .stuck
        | r => r) := a
      cases e : (den G x).s ρ μ with
      | exc ex ρ1 μ1 =>
        rw [e] at a
        replace a : AftS X.mg W ι F H D (if G.exc.contains ex.cls = true then (match hdlPick G.sub ex.cls (den G y).h with
          | some h => (h ρ1 μ1).noX
          | none => .exc ex ρ1 μ1) else .stuck) := a
        split at a
        case isFalse => exact a.elim
        rename_i hin
        have hin : ex.cls ∈ G.exc := by simpa using hin
        intro c d σ1 ι1 F1 H1 e1 g1 S1 xr
        refine wMany_of ok hin xr.1 q2 ?_
        split at a
        · rename_i m em
          refine ⟨ρ1, μ1, F1, ι1, S1, ?_⟩
          replace a := AftS.rebase a e1 g1
          cases em : m ρ1 μ1 <;> (rw [em] at a; first | exact a | exact a.elim)
        · rename_i em
          exact a c d σ1 ι1 F1 H1 e1 g1 S1 xr
      | _ =>
        rw [e] at a
        exact a
  · cases h
end
end DL

set_option maxHeartbeats 1000000
/-! DL20: several names at once. -/
namespace DL
open PySem PySem.Spec PyProof.Rows L2
section
variable {G : Ge} {N : List Str} {k : Nat} {x y z : IR}
theorem ss_unp {tg : Tg} (hx : SE G N k x) : SS G N k (.unp tg x) := SS.of (fun _ _ => rfl) fun {sc X W e} ok tk h => by
  dsimp only [mt] at h
  split at h
  · rename_i t v pos
    simp only [Bool.and_eq_true] at h
    obtain ⟨⟨h1, h2⟩, h3⟩ := h
    have nc : isComp v = false ∧ swapsWithSole [t] v pos.line X.env = pure false ∧ swappedStores [t] v X.env = pure none ∧ (assignEach [t] X.env).map (·.2) = [assign t X.env] := by
      cases t <;> first
        | (exfalso; revert h3; simp; done)
        | (cases v <;> first
          | exact ⟨rfl, rfl, rfl, rfl⟩
          | (exfalso; revert h3; simp [isComp]; done))
    refine PS.imp (ps_asg (hx.e ok.toOkX tk h2) ((pgs_tg ok.toOkX tg).1 h1) nc.2.1 nc.2.2.1 nc.2.2.2) fun D σ H ⟨ρ, μ, F, ι, S, a⟩ => ?_
    replace a : AftS X.mg W ι F H D ((((den G x).e ρ μ).bind fun v μ1 => v.keep μ1).st ρ fun d μ1 => match tg.f.one d ρ with
      | some ρ' => .nx ρ' μ1
      | none => .stuck) := a
    refine Rd.mono (AftS.step (U := RelE) (ρ' := ρ) a.flat S) fun v H1 ⟨s1, μ1, F1, e1, S1, ⟨r1, n1⟩, a⟩ => ?_
    obtain ⟨d, μ2, F2, e2, sf, S2, q, a⟩ := a.keep (G0 := H) S1 e1 r1 n1
    split at a
    · rename_i ρ' er
      exact (g_ok tg).1 er S2 q fun σ' S' _ _ => a σ' ι F2 H1 e2 Grow.refl S'
    · exact a.elim
  · cases h

/-! ### names and values together -/
def refA : V → Option Addr
  | .ref a => some a
  | _ => none
def kidsOf (H : Hp) (p : Addr) : List Addr := match H p with
  | some (.lst vs) => vs.filterMap refA
  | _ => []
theorem kidsOf_eq {H : Hp} {p : Addr} {bs : List Addr} (h : H p = some (.lst (bs.map V.ref))) : kidsOf H p = bs := by
  unfold kidsOf
  rw [h]
  show (bs.map V.ref).filterMap refA = bs
  rw [List.filterMap_map, show refA ∘ V.ref = some from rfl, List.filterMap_some]
def fresP (H : Hp) : List V → List SV → List Addr
  | .ref p :: vs, .fre _ :: ss => p :: fresP H vs ss
  | .ref p :: vs, .frn _ :: ss => p :: kidsOf H p ++ fresP H vs ss
  | _ :: vs, _ :: ss => fresP H vs ss
  | _, _ => []
abbrev RelN : Rel (List V) (List SV) := fun H0 F' H' ι vs ss => Paired (VRep F' H' ι) vs ss ∧ Paired (NewV H0 H') vs ss ∧ (fresP H' vs ss).Nodup
theorem NewV.fwd {H0 F1 H1 F2 H2 : Hp} {ι : List Addr} {v : V} {s : SV} (r : VRep F1 H1 ι v s) (e : Ext ι F1 H1 F2 H2) (n : NewV H0 H1 v s) : NewV H0 H2 v s := by
  cases s with
  | frn dss =>
    obtain ⟨p, bs, rfl, h, _, m, _, _⟩ := r
    intro p' bs' z y
    cases z
    rw [e.hs _ _ h m] at y
    have e2 : bs = bs' := map_ref (by injection (Option.some.inj y))
    subst e2
    exact n _ _ rfl h
  | fre ds => exact n
  | dat d => exact n
  | own d => exact n
  | nst d => exact n
structure SN (G : Ge) (N : List Str) (k : Nat) (ir : IR) : Prop where
  b : ∀ {sc : Scope} {X : Cx} {W : WX} {l : List Expr}, OkX G N k sc X → Takes X W → (mt G N ir).es sc l = true → PA X l fun σ H Q => Rd X.mg W RelN (den G ir).b σ H fun vs H1 => vs.length = l.length → Q vs H1
  sl : ∀ {sc : Scope} {l : List Expr}, (mt G N ir).es sc l = true → NoStar l
theorem sn_nil : SN G N k .nil where
  b := fun {sc X W l} ok tk h => by
    cases l with
    | nil => exact PA.imp pa_nil fun σ H Q ⟨ρ, μ, F, ι, S, a⟩ => a [] F H Ext.refl S ⟨.nil, .nil, .nil⟩ rfl
    | cons _ _ => cases h
  sl := sl_nil (k := k).sl
theorem fresP_new {F H0 H : Hp} {ι : List Addr} : ∀ {vs : List V} {ss : List SV} {p : Addr}, Paired (VRep F H ι) vs ss → Paired (NewV H0 H) vs ss → p ∈ fresP H vs ss → H0 p = none
  | [], _, p, _, _, h => by cases h
  | v :: vs, s :: ss, p, .cons r1 r2, .cons q1 q2, h => by
    cases s with
    | fre ds =>
      cases v with
      | ref a =>
        rcases List.mem_cons.mp h with e | e
        · subst e
          exact q1 _ rfl
        · exact fresP_new r2 q2 e
      | _ => exact fresP_new r2 q2 h
    | frn dss =>
      obtain ⟨a, bs, rfl, hp, _⟩ := r1
      have h' : p ∈ a :: bs ++ fresP H vs ss := by
        have : fresP H (V.ref a :: vs) (SV.frn dss :: ss) = a :: kidsOf H a ++ fresP H vs ss := rfl
        rw [this, kidsOf_eq hp] at h
        exact h
      obtain ⟨m1, m2⟩ := q1 a bs rfl hp
      rcases List.mem_append.mp h' with e | e
      · rcases List.mem_cons.mp e with e | e
        · subst e
          exact m1
        · exact m2 p e
      · exact fresP_new r2 q2 e
    | _ => cases v <;> exact fresP_new r2 q2 h
theorem paired_imp {α β : Type} {R R' : α → β → Prop} (h : ∀ a b, R a b → R' a b) : ∀ {xs : List α} {ys : List β}, Paired R xs ys → Paired R' xs ys
  | _, _, .nil => .nil
  | _, _, .cons p q => .cons (h _ _ p) (paired_imp h q)
theorem sn_cons (hx : SE G N k x) (hy : SN G N k y) : SN G N k (.cons x y) where
  b := fun {sc X W l} ok tk h => by
    cases l with
    | nil => cases h
    | cons e l =>
      obtain ⟨h1, h2⟩ := es_cons h
      refine PA.imp (pa_cons (hx.e ok tk h1) (hy.b ok tk h2) (hx.st h1 _ _)) fun σ H Q ⟨ρ, μ, F, ι, S, a⟩ => ?_
      refine Rd.mono (Aft.step (U := RelE) a S Ext.refl) fun v1 H1 ⟨s1, μ1, F1, e1, d1, S1, ⟨r1, n1⟩, a⟩ => ?_
      refine Rd.mono (Aft.step (U := RelN) a S1 e1) fun vs H2 ⟨ss, μ2, F2, e2, d2, S2, ⟨r2, n2, n3⟩, a⟩ hl => ?_
      refine a _ F2 H2 e2 S2 ⟨.cons (r1.mono S1 d2) r2, .cons (NewV.fwd r1 d2 n1) (paired_imp (fun _ _ n => NewV.back n e1.ht) n2), ?_⟩ (by simp [hl])
      cases s1 with
      | fre ds =>
        obtain ⟨p, ws, rfl, hp, _⟩ := r1
        refine List.nodup_cons.mpr ⟨fun m => ?_, n3⟩
        have := fresP_new r2 n2 m
        rw [hp] at this
        cases this
      | frn dss =>
        obtain ⟨p, bs, rfl, hp, _, hm, nd, ks⟩ := r1
        show (p :: kidsOf H2 p ++ fresP H2 vs ss).Nodup
        rw [kidsOf_eq (d2.hs _ _ hp hm)]
        refine List.nodup_append.mpr ⟨nd, n3, fun a ha b hb z => ?_⟩
        subst z
        have hn := fresP_new r2 n2 hb
        rcases List.mem_cons.mp ha with z | z
        · rw [z, hp] at hn
          cases hn
        · obtain ⟨ws, q, _⟩ := kids_mem ks z
          rw [q] at hn
          cases hn
      | dat d => cases v1 <;> exact n3
      | own d => cases v1 <;> exact n3
      | nst d => cases v1 <;> exact n3
  sl := fun {sc l} h => by
    cases l with
    | nil => cases h
    | cons e l =>
      obtain ⟨h1, h2⟩ := es_cons h
      exact nostar_cons (hx.st h1) (hy.sl h2)
end
end DL

set_option maxHeartbeats 1000000
/-! DL21: several names at once. -/
namespace DL
open PySem PySem.Spec PyProof.Rows L2
section
variable {G : Ge} {N : List Str} {k : Nat} {x y z : IR} {α : Type}
def SetTo (is : List Nat) (vs : List α) (σ σ' : List (Option α)) : Prop := σ'.length = σ.length ∧ (∀ j, j ∉ is → σ'[j]? = σ[j]?) ∧ ∀ (m i : Nat) (v : α), is[m]? = some i → vs[m]? = some v → i < σ.length → σ'[i]? = some (some v)
def setsV : List Nat → List α → List (Option α) → List (Option α)
  | i :: is, v :: vs, σ => setsV is vs (σ.set i (some v))
  | _, _, σ => σ
theorem setTo_of : ∀ {is : List Nat} {vs : List α} {σ : List (Option α)}, is.Nodup → is.length = vs.length → SetTo is vs σ (setsV is vs σ)
  | [], vs, σ, _, _ => ⟨by cases vs <;> rfl, fun j _ => by cases vs <;> rfl, fun m i v h => by simp at h⟩
  | i :: is, [], σ, _, h => by simp at h
  | i :: is, v :: vs, σ, n, h => by
    obtain ⟨n1, n2⟩ := List.nodup_cons.mp n
    obtain ⟨h1, h2, h3⟩ := setTo_of (σ := σ.set i (some v)) n2 (Nat.succ.inj h)
    refine ⟨by rw [show setsV (i :: is) (v :: vs) σ = setsV is vs (σ.set i (some v)) from rfl, h1, List.length_set], fun j hj => ?_, fun m i' v' e1 e2 hl => ?_⟩
    · rw [show setsV (i :: is) (v :: vs) σ = setsV is vs (σ.set i (some v)) from rfl, h2 j fun z => hj (List.mem_cons_of_mem _ z)]
      have ne : i ≠ j := fun z => hj (by rw [z]; exact List.mem_cons_self ..)
      exact List.getElem?_set_ne ne
    · show (setsV is vs (σ.set i (some v)))[i']? = _
      cases m with
      | zero =>
        cases e1
        cases e2
        rw [h2 _ n1, List.getElem?_set_self hl]
      | succ m => exact h3 m i' v' (by simpa using e1) (by simpa using e2) (by simpa using hl)
theorem sets_eq : ∀ {is : List Nat} {ws : List SV} {ρ ρ' : Rho}, sets is ws ρ = some ρ' → is.length = ws.length ∧ ρ' = setsV is ws ρ
  | [], [], ρ, ρ', h => by
    cases h
    exact ⟨rfl, rfl⟩
  | [], _ :: _, _, _, h => nomatch h
  | _ :: _, [], _, _, h => nomatch h
  | i :: is, w :: ws, ρ, ρ', h => by
    obtain ⟨h1, h2⟩ := sets_eq (is := is) (ws := ws) (ρ := ρ.set i (some w)) h
    exact ⟨by simp [h1], h2⟩
theorem SetTo.rev {is : List Nat} {vs : List α} {σ σ' : List (Option α)} (l : is.length = vs.length) (h : SetTo is.reverse vs.reverse σ σ') : SetTo is vs σ σ' := by
  obtain ⟨h1, h2, h3⟩ := h
  refine ⟨h1, fun j hj => h2 j (by simpa using hj), fun m i v e1 e2 hl => ?_⟩
  have hm := (List.getElem?_eq_some_iff.mp e1).1
  refine h3 (is.length - 1 - m) i v ?_ ?_ hl
  · rw [List.getElem?_reverse (by omega), ← e1]
    congr 1
    omega
  · rw [List.getElem?_reverse (by omega), ← e2]
    congr 1
    omega
theorem paired_get {β γ : Type} {R : β → γ → Prop} : ∀ {xs : List β} {ys : List γ} {m : Nat} {a : β} {b : γ}, Paired R xs ys → xs[m]? = some a → ys[m]? = some b → R a b
  | _, _, m, a, b, .nil, h, _ => by simp at h
  | _, _, 0, a, b, .cons p q, h, g => by
    simp at h g
    subst h g
    exact p
  | _, _, m + 1, a, b, .cons p q, h, g => paired_get (m := m) q (by simpa using h) (by simpa using g)
theorem Sat.setTo {ρ ρ' : Rho} {μ : List Cell} {σ σ' : St} {F H : Hp} {ι : List Addr} {is : List Nat} {ws : List SV} {vs : List V} (S : Sat ρ μ σ H F ι) (h : SetTo is ws ρ ρ') (g : SetTo is vs σ σ') (p : Paired (SlotOk F ι) vs ws) (l : is.length = ws.length) : Sat ρ' μ σ' H F ι where
  sub := S.sub
  len := S.len
  nod := S.nod
  cell := S.cell
  slen := by rw [h.1, g.1, S.slen]
  slot := fun j sv e => by
    by_cases hj : j ∈ is
    · obtain ⟨m, hm, em⟩ := List.getElem_of_mem hj
      have e1 : is[m]? = some j := by simp [hm, em]
      have hw : m < ws.length := by omega
      have lv := Paired.length p
      have hv : m < vs.length := by omega
      have hl : j < ρ.length := by
        rw [← h.1]
        exact (List.getElem?_eq_some_iff.mp e).1
      have e2 := h.2.2 m j ws[m] e1 (by simp [hw]) hl
      rw [e] at e2
      cases e2
      exact ⟨vs[m], g.2.2 m j vs[m] e1 (by simp [hv]) (S.slen ▸ hl), paired_get p (m := m) (by simp [hv]) (by simp [hw])⟩
    · rw [h.2.1 j hj] at e
      obtain ⟨v, h1, h2⟩ := S.slot j sv e
      exact ⟨v, by rw [g.2.1 j hj]; exact h1, h2⟩
theorem fres_frn {H : Hp} {a p : Addr} {bs : List Addr} {vs : List V} {ss : List SV} {dss : List (List DL.D)} (h1 : H a = some (.lst (bs.map V.ref))) (h : p ∉ fresP H (V.ref a :: vs) (SV.frn dss :: ss)) : p ≠ a ∧ p ∉ bs ∧ p ∉ fresP H vs ss := by
  have h' : p ∉ a :: bs ++ fresP H vs ss := by
    have : fresP H (V.ref a :: vs) (SV.frn dss :: ss) = a :: kidsOf H a ++ fresP H vs ss := rfl
    rw [this, kidsOf_eq h1] at h
    exact h
  simpa [not_or, and_assoc] using h'
theorem kids_updF {F H : Hp} {ι : List Addr} {p : Addr} {xs : List V} (n : F p = none) : ∀ {bs : List Addr} {dss : List (List DL.D)}, p ∉ bs → Kids F H ι bs dss → Kids (L2.upd F p (.lst xs)) H ι bs dss
  | _, _, _, .nil => .nil
  | _, _, h, .cons ⟨ws, h1, h2, h3, h4⟩ t => by
    rw [List.mem_cons, not_or] at h
    exact .cons ⟨ws, h1, by rw [upd_ne (Ne.symm h.1)]; exact h2, h3, DtAll.mono (Same.upd n) h4⟩ (kids_updF n h.2 t)
/-- the values come to stand -/
theorem held_upd {F H : Hp} {ι : List Addr} {p : Addr} {xs : List V} (n : F p = none) : ∀ {vs : List V} {ss : List SV}, Paired (VRep F H ι) vs ss → p ∉ fresP H vs ss → Paired (VRep (upd F p (.lst xs)) H ι) vs ss
  | _, _, .nil, _ => .nil
  | v :: vs, s :: ss, .cons q1 q2, h => by
    cases s with
    | dat d => exact .cons (Dt.mono (Same.upd n) q1) (held_upd n q2 (by cases v <;> exact h))
    | own d => exact .cons q1 (held_upd n q2 (by cases v <;> exact h))
    | fre ds =>
      obtain ⟨a, ws, rfl, h1, h2, h3, h4⟩ := q1
      have hh : p ≠ a ∧ p ∉ fresP H vs ss := by simpa [fresP] using h
      exact .cons ⟨a, ws, rfl, h1, by rw [upd_ne (Ne.symm hh.1)]; exact h2, h3, DtAll.mono (Same.upd n) h4⟩ (held_upd n q2 hh.2)
    | nst d => exact .cons q1 (held_upd n q2 (by cases v <;> exact h))
    | frn dss =>
      obtain ⟨a, bs, rfl, h1, h2, h3, nd, ks⟩ := q1
      obtain ⟨hh, hb, hr⟩ := fres_frn h1 h
      exact .cons ⟨a, bs, rfl, h1, by rw [upd_ne (Ne.symm hh)]; exact h2, h3, nd, kids_updF n hb ks⟩ (held_upd n q2 hr)
theorem held_grow {F H : Hp} {ι : List Addr} {p : Addr} : ∀ {vs : List V} {ss : List SV}, Paired (VRep F H ι) vs ss → p ∉ fresP H vs ss → Paired (VRep F H (ι ++ [p])) vs ss
  | _, _, .nil, _ => .nil
  | v :: vs, s :: ss, .cons q1 q2, h => by
    cases s with
    | dat d => exact .cons q1 (held_grow q2 (by cases v <;> exact h))
    | own d =>
      obtain ⟨a, h1, h2⟩ := q1
      exact .cons ⟨a, by rw [List.getElem?_append_left (List.getElem?_eq_some_iff.mp h1).1]; exact h1, h2⟩ (held_grow q2 (by cases v <;> exact h))
    | fre ds =>
      obtain ⟨a, ws, rfl, h1, h2, h3, h4⟩ := q1
      have hh : p ≠ a ∧ p ∉ fresP H vs ss := by simpa [fresP] using h
      refine .cons ⟨a, ws, rfl, h1, h2, fun m => ?_, h4⟩ (held_grow q2 hh.2)
      rcases List.mem_append.mp m with z | z
      · exact h3 z
      · exact hh.1 (by simpa using z : a = p).symm
    | nst d =>
      obtain ⟨a, h1, h2⟩ := q1
      exact .cons ⟨a, by rw [List.getElem?_append_left (List.getElem?_eq_some_iff.mp h1).1]; exact h1, h2⟩ (held_grow q2 (by cases v <;> exact h))
    | frn dss =>
      obtain ⟨a, bs, rfl, h1, h2, h3, nd, ks⟩ := q1
      obtain ⟨hh, hb, hr⟩ := fres_frn h1 h
      refine .cons ⟨a, bs, rfl, h1, h2, fun m => ?_, nd, kids_grow ks hb⟩ (held_grow q2 hr)
      rcases List.mem_append.mp m with z | z
      · exact h3 z
      · exact hh (List.mem_singleton.mp z).symm
theorem held_growL {F H : Hp} {vs : List V} {ss : List SV} : ∀ {L ι : List Addr}, Paired (VRep F H ι) vs ss → (∀ a ∈ L, a ∉ fresP H vs ss) → Paired (VRep F H (ι ++ L)) vs ss
  | [], ι, q, _ => by simpa using q
  | a :: L, ι, q, h => by
    have := held_growL (held_grow q (h a (List.mem_cons_self ..))) fun b hb => h b (List.mem_cons_of_mem _ hb)
    rw [List.append_assoc] at this
    exact this
theorem slot_mono {F F' : Hp} {ι ι' : List Addr} {v : V} {s : SV} (f : Same F F') (g : ∃ t, ι' = ι ++ t) (h : SlotOk F ι v s) : SlotOk F' ι' v s := by
  cases s with
  | dat d => exact Dt.mono f h
  | own k =>
    obtain ⟨t, rfl⟩ := g
    obtain ⟨a, h1, h2⟩ := h
    exact ⟨a, by rw [List.getElem?_append_left (List.getElem?_eq_some_iff.mp h1).1]; exact h1, h2⟩
  | nst k =>
    obtain ⟨t, rfl⟩ := g
    obtain ⟨a, h1, h2⟩ := h
    exact ⟨a, by rw [List.getElem?_append_left (List.getElem?_eq_some_iff.mp h1).1]; exact h1, h2⟩
  | frn _ => exact h
  | fre _ => exact h
theorem par_ok {mg : Str → Option Value} {W : WX} {ρ : Rho} {σ : St} {H F0 H0 : Hp} {ι0 : List Addr} {D : Ends} : ∀ {ts : List Bool} {ss : List SV} {vs : List V} {μ : List Cell} {F : Hp} {ι : List Addr} {c : List SV → List Cell → RS}, Sat ρ μ σ H F ι → Ext ι0 F0 H0 F H → Grow ι0 ι H0 →
    Paired (VRep F H ι) vs ss → Paired (NewV H0 H) vs ss → (fresP H vs ss).Nodup → AftS mg W ι0 F0 H0 D (parN ts ss μ ρ c) →
    ∃ ws μ2 F2 ι2, Ext ι0 F0 H0 F2 H ∧ Grow ι0 ι2 H0 ∧ Sat ρ μ2 σ H F2 ι2 ∧ Paired (SlotOk F2 ι2) vs ws ∧ Same F F2 ∧ (∃ t, ι2 = ι ++ t) ∧ AftS mg W ι0 F0 H0 D (c ws μ2)
  | [], [], _, μ, F, ι, c, S, e, g, p, _, _, a => by
    cases p
    exact ⟨[], μ, F, ι, e, g, S, .nil, Same.refl F, ⟨[], by simp⟩, a⟩
  | [], _ :: _, _, _, _, _, _, _, _, _, _, _, _, a => a.elim
  | _ :: _, [], _, _, _, _, _, _, _, _, _, _, _, a => a.elim
  | t :: ts, s :: ss, _, μ, F, ι, c, S, e, g, .cons (a := v) q1 q2, .cons n1 n2, nd, a => by
    rename_i vs
    replace a : AftS mg W ι0 F0 H0 D ((toName t s μ).st ρ fun w μ1 => parN ts ss μ1 ρ fun ws μ2 => c (w :: ws) μ2) := a
    cases s with
    | fre ds =>
      obtain ⟨p, ws, rfl, h1, h2, h3, h4⟩ := q1
      obtain ⟨m1, m2⟩ := List.nodup_cons.mp (show (p :: fresP H vs ss).Nodup from nd)
      cases t with
      | true =>
        have S2 := S.grow h1 h2 h3 h4
        obtain ⟨ws', μ2, F2, ι2, r1, r2, r3, r4, r5, ⟨t, r6⟩, r7⟩ := par_ok (c := fun ws μ2 => c (.own μ.length :: ws) μ2) S2 e (g.trans ⟨[p], rfl, fun b hb => by rw [List.mem_singleton.mp hb]; exact n1 _ rfl⟩ fun _ z => z) (held_grow q2 m1) n2 m2 a
        refine ⟨.own μ.length :: ws', μ2, F2, ι2, r1, r2, r3, .cons ⟨p, ?_, rfl⟩ r4, r5, ⟨[p] ++ t, by rw [r6, List.append_assoc]⟩, r7⟩
        rw [r6, ← S.len]
        simp
      | false =>
        have sf : Same F (L2.upd F p (.lst ws)) := Same.upd h2
        have e1 : Ext ι0 F0 H0 (L2.upd F p (.lst ws)) H := ⟨e.fs.trans sf, e.hs, e.ht, fun b o z => by
          by_cases y : b = p
          · subst y
            exact .inr (.inl (n1 _ rfl))
          · rw [upd_ne y] at z
            exact e.new b o z⟩
        obtain ⟨ws', μ2, F2, ι2, r1, r2, r3, r4, r5, r6, r7⟩ := par_ok (c := fun ws μ2 => c (.dat (.list ds) :: ws) μ2) (S.freezeNew h1 h2 h3) e1 g (held_upd h2 q2 m1) n2 m2 a
        exact ⟨.dat (.list ds) :: ws', μ2, F2, ι2, r1, r2, r3, .cons (Dt.mono r5 (.lst (L2.Rd.of upd_same) (DtAll.mono sf h4))) r4, sf.trans r5, r6, r7⟩
    | dat d =>
      have nd' : (fresP H vs ss).Nodup := by cases v <;> exact nd
      cases t with
      | true => exact a.elim
      | false =>
        obtain ⟨ws, μ2, F2, ι2, r1, r2, r3, r4, r5, r6, r7⟩ := par_ok (c := fun ws μ2 => c (.dat d :: ws) μ2) S e g q2 n2 nd' a
        exact ⟨.dat d :: ws, μ2, F2, ι2, r1, r2, r3, .cons (Dt.mono r5 q1) r4, r5, r6, r7⟩
    | own d =>
      have nd' : (fresP H vs ss).Nodup := by cases v <;> exact nd
      have a2 : AftS mg W ι0 F0 H0 D (parN ts ss μ ρ fun ws μ2 => c (.own d :: ws) μ2) := by cases t <;> exact a
      obtain ⟨ws, μ2, F2, ι2, r1, r2, r3, r4, r5, r6, r7⟩ := par_ok (c := fun ws μ2 => c (.own d :: ws) μ2) S e g q2 n2 nd' a2
      exact ⟨.own d :: ws, μ2, F2, ι2, r1, r2, r3, .cons (slot_mono (s := .own d) r5 r6 q1) r4, r5, r6, r7⟩
    | nst d =>
      have nd' : (fresP H vs ss).Nodup := by cases v <;> exact nd
      cases t with
      | true => exact a.elim
      | false =>
        obtain ⟨ws, μ2, F2, ι2, r1, r2, r3, r4, r5, r6, r7⟩ := par_ok (c := fun ws μ2 => c (.nst d :: ws) μ2) S e g q2 n2 nd' a
        exact ⟨.nst d :: ws, μ2, F2, ι2, r1, r2, r3, .cons (slot_mono (s := .nst d) r5 r6 q1) r4, r5, r6, r7⟩
    | frn dss =>
      cases t with
      | false => exact a.elim
      | true =>
        obtain ⟨p, bs, rfl, h1, h2, h3, ndp, ks⟩ := q1
        obtain ⟨m1, m2⟩ := n1 p bs rfl h1
        have nd2 : (p :: bs ++ fresP H vs ss).Nodup := by
          have : fresP H (V.ref p :: vs) (SV.frn dss :: ss) = p :: kidsOf H p ++ fresP H vs ss := rfl
          rw [this, kidsOf_eq h1] at nd
          exact nd
        obtain ⟨_, nd3, dj⟩ := List.nodup_append.mp nd2
        have S2 := S.growN h1 h2 h3 ndp ks
        obtain ⟨ws', μ2, F2, ι2, r1, r2, r3, r4, r5, ⟨t, r6⟩, r7⟩ := par_ok (c := fun ws μ2 => c (.nst (μ.length + dss.length) :: ws) μ2) S2 e (g.trans ⟨bs ++ [p], rfl, fun b hb => by
          rcases List.mem_append.mp hb with hb | hb
          · exact m2 b hb
          · rw [List.mem_singleton.mp hb]
            exact m1⟩ fun _ z => z) (held_growL q2 fun b hb z => by
          rcases List.mem_append.mp hb with hb | hb
          · exact dj b (List.mem_cons_of_mem _ hb) b z rfl
          · rw [List.mem_singleton.mp hb] at z
            exact dj p (List.mem_cons_self ..) p z rfl) n2 nd3 a
        refine ⟨.nst (μ.length + dss.length) :: ws', μ2, F2, ι2, r1, r2, r3, .cons ⟨p, ?_, rfl⟩ r4, r5, ⟨(bs ++ [p]) ++ t, by rw [r6, List.append_assoc]⟩, r7⟩
        have l1 := Paired.length ks
        rw [r6, ← S.len, ← l1, List.append_assoc, List.append_assoc, List.getElem?_append_right (by omega), List.getElem?_append_right (by omega)]
        simp
/-! ### the stores -/
def NameAt (X : Cx) (n : Str) (i : Nat) : Prop := X.N[i]? = some n ∧ L2.Loc X.env.scope n ∧ (X.fn n = true ∨ X.env.scope.names.lookup n = some .local)
theorem store_list {X : Cx} {pins : List (Addr × Obj)} {H : Hp} {M : Model} {A : Around} {E : Value → Shared → Prop} (hN : X.N.Nodup) {Q : Unit → Shared → Prop} : ∀ {names : List Str} {is : List Nat} {vs : List V} {us : List Value} {σ : St} {s : Shared}, Inv X pins σ H s → Paired (NameAt X) names is → Vals vs us → is.length = vs.length →
    (∀ s', Inv X pins (setsV is vs σ) H s' → Q () s') → wpAny M A (assignInOrder (names.map fun n => bindName X.env n) us) Q E s
  | [], _, _, _, σ, s, I, .nil, .nil, _, h => assignInOrder_nil (h s I)
  | [], _, _, _, σ, s, I, .nil, .cons _ _, l, h => by simp at l
  | n :: ns, _, _, _, σ, s, I, .cons p q, .nil, l, h => by simp at l
  | n :: ns, _, _, _, σ, s, I, .cons p q, .cons r rr, l, h =>
    assignInOrder_cons (wpAny_bindName (store_ok I hN p.1 p.2.1 r (fun s2 I2 => store_list hN I2 q rr (Nat.succ.inj l) h) p.2.2))
def tParS (is : List Nat) (ta : TA) : TS := fun D σ H => ta σ H fun vs H1 => is.length = vs.length ∧ vs.length ≤ sizeLine ∧ ∀ σ', SetTo is vs σ σ' → D.nx σ' H1
theorem paired_rev {β γ : Type} {R : β → γ → Prop} {xs : List β} {ys : List γ} (h : Paired R xs ys) : Paired R xs.reverse ys.reverse := by
  induction h with
  | nil => exact .nil
  | cons p q ih =>
    rw [List.reverse_cons, List.reverse_cons]
    have app : ∀ {as cs : List β} {bs ds : List γ}, Paired R as bs → Paired R cs ds → Paired R (as ++ cs) (bs ++ ds) := fun {as cs bs ds} h1 h2 => by
      induction h1 with
      | nil => exact h2
      | cons p q ih => exact .cons p ih
    exact app ih (.cons p .nil)
theorem ps_swp {X : Cx} {l r : List Expr} {names : List Str} {is : List Nat} {ta : TA} {kt k2 : Nat} {pt pt2 pos : Pos} (hc : X.calm = true) (hN : X.N.Nodup) (hn : Paired (NameAt X) names is) (nd : is.Nodup) (ha : PA X r ta)
    (hw : swappedStores [.Tuple l kt pt] (.Tuple r k2 pt2) X.env = pure (some names)) : PS X (.Assign [.Tuple l kt pt] (.Tuple r k2 pt2) pos) (tParS is ta) := by
  refine ⟨fun pins s σ H D I h => ?_⟩
  rw [exec_Assign_arm]
  refine wpAny_bind (wpAny_standAt ?_)
  rw [show swapsWithSole [.Tuple l kt pt] (.Tuple r k2 pt2) pos.line X.env = pure false from rfl]
  refine wpAny_bind (wpAny_pure ?_)
  rw [if_neg (by decide)]
  refine wpAny_bind (Tuple_ (thn (ha.run _ pins s σ H _ I h) fun us s1 ⟨vs, H1, I1, r1, q1⟩ => ?_))
  obtain ⟨l1, l2, q1⟩ := q1
  have lu := r1.length
  refine wpAny_newObj_type ?_ (by show us.length ≤ sizeLine; rw [← lu]; exact l2)
  have I2 : Inv X pins σ H1 { s1 with heap := s1.heap.push { cls := .type "tuple", data := .seq us.toArray } } := I1.kept (t' := s1.toks) fun b o e => Heap.get?_push_of_some _ e
  rw [hw]
  refine wpAny_bind (wpAny_pure ?_)
  have ln : names.length = us.toArray.size := by
    rw [Paired.length hn, l1, lu]
    simp
  show wpAny (model X.prog X.w) X.A (do rule "assign.swapped-stores"; let items ← unpackItems (.ref s1.heap.objs.size) names.length none; assignInOrder (names.reverse.map fun n => bindName X.env n) items.reverse; pure Flow.next) _ _ _
  rw [ln]
  refine wpAny_bind (wpAny_rule (wpAny_bind (unpackItems_tuple (items := us.toArray) (I.ok.hd hc) (IsTup.new s1.heap _) fun h' hx' => ?_)))
  have I3 := I2.kept (h' := h') (t' := s1.toks) fun b o e => hx' b o (Nat.ne_of_lt (Heap.lt_size e)) e
  refine wpAny_bind (store_list hN I3 (paired_rev hn) (by simpa using paired_rev r1) (by simp [l1]) fun s' I4 => wpAny_pure ?_)
  exact ⟨_, H1, I4, q1 _ (SetTo.rev l1 (setTo_of (List.pairwise_reverse.mpr (nd.imp fun h => Ne.symm h)) (by simp [l1])))⟩
/-- plain stores, one after the other -/
def gNs : List Nat → TGs
  | [] => gNil
  | i :: is => gCons (gName i) (gNs is)
theorem gNs_ok {Q : St → Hp → Prop} {H : Hp} : ∀ {is : List Nat} {vs : List V} {σ : St}, is.length = vs.length → Q (setsV is vs σ) H → gNs is vs σ H Q
  | [], [], σ, _, q => ⟨rfl, q⟩
  | [], _ :: _, _, l, _ => by simp at l
  | _ :: _, [], _, l, _ => by simp at l
  | i :: is, v :: vs, σ, l, q => ⟨v, vs, rfl, gNs_ok (is := is) (vs := vs) (Nat.succ.inj l) q⟩
theorem names_at {sc : Scope} {X : Cx} (ok : OkX G N k sc X) : ∀ {is : List Nat} {l : List Expr}, parT N sc is l = true → ∃ names, Paired (NameAt X) names is ∧ (∀ env, (assignEach l env) = l.map fun y => (false, assign y env)) ∧ PGs X l (gNs is) ∧ l.length = is.length ∧ (∃ ps : List (Str × Pos), l = ps.map (fun p => .Name p.1 p.2) ∧ names = ps.map (·.1))
  | [], [], _ => ⟨[], .nil, fun _ => rfl, pgs_nil, rfl, [], rfl, rfl⟩
  | [], _ :: _, h => nomatch h
  | _ :: _, [], h => nomatch h
  | i :: is, e :: l, h => by
    cases e with
    | Name n p =>
      simp only [parT, Bool.and_eq_true, decide_eq_true_eq] at h
      obtain ⟨⟨h1, h2⟩, h3⟩ := h
      obtain ⟨ns, q1, q2, q3, q4, ps, q5, q6⟩ := names_at ok h3
      have at1 : NameAt X n i := ⟨Sees.name ok h1, (ok.hsc.loc _ h2).1, (ok.hsc.loc _ h2).2⟩
      exact ⟨n :: ns, .cons at1 q1, fun env => by rw [List.map_cons, ← q2 env]; rfl, pgs_cons (pg_name (by rw [ok.hN]; exact ok.nd) at1.1 at1.2.1 at1.2.2) q3 rfl, by simp [q4], (n, p) :: ps, by rw [q5]; rfl, by rw [q6]; rfl⟩
    | _ => cases h
theorem swp_eq {X : Cx} {sc : Scope} (e : X.env.scope = sc) (hk : X.env.blockKind = .function) {l r : List Expr} {kt k2 : Nat} {pt pt2 : Pos} {o : Option (List Str)} (h : swpO sc l r = some o) : swappedStores [.Tuple l kt pt] (.Tuple r k2 pt2) X.env = pure o := by
  subst e
  unfold swpO at h
  unfold swappedStores
  dsimp only
  rw [hk]
  have b1 : (ScopeKind.function != ScopeKind.function) = false := by decide
  rw [b1, Bool.or_false]
  by_cases c1 : (!(l.length == 2 || l.length == 3) || r.length != l.length) = true
  · rw [if_pos c1] at h
    cases h
    rw [if_pos c1]
  · rw [if_neg c1] at h
    rw [if_neg c1]
    split at h
    · rename_i c2
      cases h
      exact if_pos c2
    · rename_i c2
      refine (if_neg c2).trans ?_
      dsimp only at h
      split at h
      · rename_i c3
        cases h
        exact if_pos c3
      · rename_i c3
        refine (if_neg c3).trans ?_
        split at h
        · rename_i c4
          cases h
          exact if_pos c4
        · rename_i c4
          refine (if_neg c4).trans ?_
          split at h
          · cases h
          · rename_i c5
            cases h
            exact if_neg c5
theorem fm_names {f : Str → Pos → Bool} : ∀ {ps : List (Str × Pos)}, ((ps.map fun p => (Expr.Name p.1 p.2)).filterMap fun
    | .Name id pos => if f id pos = true then some id else none
    | _ => none).length = ps.length → ((ps.map fun p => (Expr.Name p.1 p.2)).filterMap fun
    | .Name id pos => if f id pos = true then some id else none
    | _ => none) = ps.map (·.1)
  | [], _ => rfl
  | p :: ps, h => by
    rw [List.map_cons, List.filterMap_cons] at h ⊢
    dsimp only at h ⊢
    by_cases c : f p.1 p.2 = true
    · rw [if_pos c] at h ⊢
      dsimp only at h ⊢
      rw [fm_names (ps := ps) (by simpa using h)]
      rfl
    · rw [if_neg c] at h
      dsimp only at h
      have := List.length_filterMap_le (fun
        | .Name id pos => if f id pos = true then some id else none
        | _ => none : Expr → Option Str) (ps.map fun p => (Expr.Name p.1 p.2))
      rw [List.length_map] at this
      simp only [List.length_cons] at h
      omega
theorem swp_names {sc : Scope} {ps : List (Str × Pos)} {r : List Expr} {names : List Str} (h : swpO sc (ps.map fun p => (Expr.Name p.1 p.2)) r = some (some names)) : names = ps.map (·.1) := by
  unfold swpO at h
  split at h
  · cases h
  · dsimp only at h
    split at h
    · cases h
    · split at h
      · cases h
      · rename_i c3
        split at h
        · cases h
        · split at h
          · cases h
          · cases h
            refine fm_names (f := fun id pos => sc.names.lookup id == some .local && pos.line == _) ?_
            simp only [Bool.or_eq_true, not_or, bne_iff_ne, ne_eq, Decidable.not_not] at c3
            have := c3.1
            rw [List.length_map] at this
            exact this
theorem ss_par {ts : List (Nat × Bool)} (hx : SN G N k x) : SS G N k (.par ts x) := SS.of (fun _ _ => rfl) fun {sc X W e} ok tk h => by
  dsimp only [mt] at h
  split at h
  · rename_i l kt pt r k2 pt2 pos
    simp only [Bool.and_eq_true, decide_eq_true_eq] at h
    obtain ⟨⟨⟨⟨⟨h1, h2⟩, h3⟩, h4⟩, h5⟩, h6⟩ := h
    obtain ⟨names, q1, q2, q3, q4, ps, q5, q6⟩ := names_at ok.toOkX h1
    have pa := hx.b ok.toOkX tk h2
    have hN : X.N.Nodup := by rw [ok.hN]; exact ok.nd
    have hbk : X.env.blockKind = .function := by
      unfold Env.blockKind
      rw [ok.hsc.kind]
      rfl
    have core : ∀ (D : Ends) (σ : St) (H : Hp), RdS X.mg W (den G (.par ts x)).s D σ H → (Rd X.mg W RelN (den G x).b σ H fun vs H1 => ∃ ρ ρ' μ2 F2 ι2 ws, Ext ι2 F2 H1 F2 H1 ∧ Sat ρ μ2 σ H1 F2 ι2 ∧ Paired (SlotOk F2 ι2) vs ws ∧ (ts.map (·.1)).length = ws.length ∧ SetTo (ts.map (·.1)) ws ρ ρ' ∧ AftS X.mg W ι2 F2 H1 D (.nx ρ' μ2)) := by
      intro D σ H ⟨ρ, μ, F, ι, S, a⟩
      refine Rd.mono (AftS.step (U := RelN) (ρ' := ρ) a S) fun vs H1 ⟨ss, μ1, F1, e1, S1, ⟨r1, n1, n2⟩, a⟩ => ?_
      obtain ⟨ws, μ2, F2, ι2, x1, x2, S2, x3, x4, x5, a⟩ := par_ok S1 e1 Grow.refl r1 n1 n2 a
      split at a
      · rename_i ρ' es
        obtain ⟨y1, y2⟩ := sets_eq es
        exact ⟨ρ, ρ', μ2, F2, ι2, ws, Ext.refl, S2, x3, y1, y2 ▸ setTo_of h5 y1, AftS.rebase a x1 x2⟩
      · exact a.elim
    cases es : swpO sc l r with
    | none =>
      rw [es] at h6
      cases h6
    | some o =>
      have hw := swp_eq (kt := kt) (k2 := k2) (pt := pt) (pt2 := pt2) ok.scp hbk es
      cases o with
      | none =>
        refine PS.imp (ps_asg (pe_tup pa) (pg_tup ok.calm q3 rfl (by rw [q2]; exact each_none _ _)) rfl hw rfl) fun D σ H q => ?_
        refine Rd.mono (core D σ H q) fun vs H1 ⟨ρ, ρ', μ2, F2, ι2, ws, _, S2, x3, y1, y2, a⟩ hl => ⟨by rw [hl]; exact size7 (by omega), fun p n => ?_⟩
        have nF : F2 p = none := by
          cases z : F2 p with
          | none => rfl
          | some u => rw [S2.sub _ _ z] at n; cases n
        have lv := Paired.length x3
        refine ⟨p, vs, rfl, .inl (L2.Rd.of upd_same), by rw [hl, q2]; simp [h3], gNs_ok (by rw [y1, lv]) ?_⟩
        exact a _ ι2 F2 _ (Ext.refl.updNew n) Grow.refl ((S2.upd nF (S2.notIn n)).setTo y2 (setTo_of h5 (by rw [y1, lv])) x3 y1)
      | some nm =>
        have en : nm = names := by
          rw [q5] at es
          rw [swp_names es, q6]
        subst en
        refine PS.imp (ps_swp ok.calm hN q1 h5 pa hw) fun D σ H q => ?_
        refine Rd.mono (core D σ H q) fun vs H1 ⟨ρ, ρ', μ2, F2, ι2, ws, _, S2, x3, y1, y2, a⟩ hl => ?_
        have lv := Paired.length x3
        exact ⟨by rw [y1, lv], by rw [hl]; exact size7 (by omega), fun σ' hs => a _ ι2 F2 _ Ext.refl Grow.refl (S2.setTo y2 hs x3 y1)⟩
  · cases h
end
end DL

set_option maxHeartbeats 1000000
/-! N2: nests given up, changed, looped over. -/
namespace DL
open PySem PySem.Spec PyProof.Rows L2
section
variable {G : Ge} {N : List Str} {k : Nat} {x y z : IR}
theorem ptr_cons {ι : List Addr} {vs : List V} {d : D} {ds : List D} (h : PtrAll ι vs (d :: ds)) : ∃ (kk : Int) (a : Addr) (vs' : List V), vs = .ref a :: vs' ∧ d = .int kk ∧ 0 ≤ kk ∧ ι[kk.toNat]? = some a ∧ PtrAll ι vs' ds := by
  obtain ⟨l, q⟩ := h
  cases vs with
  | nil => simp at l
  | cons v vs =>
    obtain ⟨kk, a, e1, e2, e3, e4⟩ := q 0 d rfl
    cases e4
    exact ⟨kk, a, vs, rfl, e1, e2, e3, by simpa using l, fun j d' e => q (j + 1) d' e⟩
/-- the lists of a nest are given up, one by one -/
theorem nfz_ok {ρ : Rho} {σ : St} {H : Hp} {ι : List Addr} : ∀ {ds es : List D} {vs : List V} {μ μ' : List Cell} {F : Hp}, Sat ρ μ σ H F ι → PtrAll ι vs ds → nfz ds μ = some (es, μ') →
    ∃ F', Ext ι F H F' H ∧ Sat ρ μ' σ H F' ι ∧ DtAll F' vs es ∧ μ'.length = μ.length ∧ ∀ (o : Nat) (c : Cell), μ[o]? = some c → c.st = .nest → μ'[o]? = some c
  | [], es, vs, μ, μ', F, S, p, h => by
    cases h
    have : vs = [] := List.eq_nil_of_length_eq_zero p.1
    subst this
    exact ⟨F, Ext.refl, S, .nil, rfl, fun _ _ e _ => e⟩
  | d :: ds, es, vs, μ, μ', F, S, p, h => by
    obtain ⟨kk, a, vs', rfl, rfl, h0, ha, p'⟩ := ptr_cons p
    replace h : (match froze kk.toNat μ with
      | some (ds', μ1) => (match nfz ds μ1 with
        | some (es, μ2) => some (PyData.list ds' :: es, μ2)
        | none => none)
      | none => none) = some (es, μ') := h
    split at h
    · rename_i ds' μ1 e1
      split at h
      · rename_i es' μ2 e2
        cases h
        obtain ⟨F1, b, hb, x1, S1, q1⟩ := S.froze e1
        rw [ha] at hb
        cases hb
        obtain ⟨F2, x2, S2, q2, l2, k2⟩ := nfz_ok S1 p' e2
        obtain ⟨l1, ⟨c1, c2, _, c4, _⟩, k1⟩ := froze_spec e1
        refine ⟨F2, x1.trans x2, S2, .cons (Dt.mono x2.fs q1) q2, l2.trans l1, fun o c eo en => k2 o c ?_ en⟩
        rw [k1 o fun z => ?_]
        · exact eo
        · subst z
          rw [c2] at eo
          cases eo
          exact c4 en
      · cases h
    · cases h
/-- what stands in a nest is data; so is the nest -/
theorem Sat.nfroze {ρ : Rho} {μ : List Cell} {σ : St} {H F : Hp} {ι : List Addr} {o : Nat} {c : Cell} {a : Addr} {vs : List V} {es : List DL.D} (S : Sat ρ μ σ H F ι) (hk : ι[o]? = some a) (e : μ[o]? = some c) (hn : c.st = .nest) (q : H a = some (.lst vs)) (al : DtAll F vs es) :
    Ext ι F H (L2.upd F a (.lst vs)) H ∧ Sat ρ (μ.set o ⟨.froz, es⟩) σ H (L2.upd F a (.lst vs)) ι := by
  obtain ⟨_, _, _, _, f2⟩ := S.cell o a c hk e
  have n : F a = none := f2 (by rw [hn]; exact fun z => nomatch z)
  have sf : Same F (L2.upd F a (.lst vs)) := Same.upd n
  refine ⟨⟨sf, fun _ _ h _ => h, fun _ h => h, fun b u h => ?_⟩, ⟨Same.upd2 S.sub q, by simp [S.len], S.nod, fun j b d h1 h2 => ?_, S.slen, fun i sv h => ?_⟩⟩
  · by_cases z : b = a
    · exact .inr (.inr (z ▸ List.mem_of_getElem? hk))
    · rw [upd_ne z] at h
      exact .inl h
  · by_cases z : j = o
    · subst z
      rw [hk] at h1
      cases h1
      rw [List.getElem?_set_self (List.getElem?_eq_some_iff.mp e).1] at h2
      cases h2
      exact ⟨vs, q, Its.of (fun z => nomatch z) (DtAll.mono sf al), fun _ => upd_same, fun z => absurd rfl z⟩
    · rw [List.getElem?_set_ne (Ne.symm z)] at h2
      have ne : b ≠ a := fun y => z (ix_inj S.nod h1 (y ▸ hk))
      obtain ⟨ws, q', al', g1, g2⟩ := S.cell j b d h1 h2
      exact ⟨ws, q', Its.mono sf al', fun z => by rw [upd_ne ne]; exact g1 z, fun z => by rw [upd_ne ne]; exact g2 z⟩
  · obtain ⟨w, e1, q'⟩ := S.slot i sv h
    refine ⟨w, e1, ?_⟩
    cases sv with
    | dat d => exact Dt.mono sf q'
    | own k => exact q'
    | fre _ => exact q'
    | nst k => exact q'
    | frn _ => exact q'
theorem nkeep_exc {v : SV} {μ μ' : List Cell} {x : Exn} (h : v.nkeep μ = .exc x μ') : False := by
  cases v with
  | nst o =>
    simp only [SV.nkeep] at h
    split at h
    · split at h
      · cases h
      · split at h
        · split at h <;> cases h
        · cases h
    · cases h
  | dat d => cases h
  | _ => cases h
theorem Sat.nkeep {ρ : Rho} {μ μ' : List Cell} {σ : St} {H F : Hp} {ι : List Addr} {v r : SV} {w : V} (S : Sat ρ μ σ H F ι) (q : VRep F H ι w v) (h : v.nkeep μ = .ok r μ') : ∃ F' d, Ext ι F H F' H ∧ Sat ρ μ' σ H F' ι ∧ r = .dat d ∧ Dt F' w d := by
  cases v with
  | nst o =>
    obtain ⟨a, ha, rfl⟩ := q
    simp only [SV.nkeep] at h
    split at h
    case h_2 => cases h
    rename_i c ec
    obtain ⟨vs, q1, q2, q3, q4⟩ := S.cell o a c ha ec
    split at h
    · rename_i hf
      cases h
      exact ⟨F, _, Ext.refl, S, rfl, .lst (L2.Rd.of (q3 hf)) (q2.dt (by rw [hf]; exact fun z => nomatch z))⟩
    · split at h
      case isFalse => cases h
      rename_i hn
      split at h
      case h_2 => cases h
      rename_i es μ1 e1
      cases h
      obtain ⟨F1, x1, S1, al, _, k1⟩ := nfz_ok S (q2.2 hn) e1
      obtain ⟨x2, S2⟩ := S1.nfroze ha (k1 o c ec hn) hn q1 al
      exact ⟨_, _, x1.trans x2, S2, rfl, .lst (L2.Rd.of upd_same) (DtAll.mono x2.fs al)⟩
  | dat d =>
    cases h
    exact ⟨F, d, Ext.refl, S, rfl, q⟩
  | _ => cases h
theorem se_frz (hx : SE G N k x) : SE G N k (.frz x) := by
  refine SE.of rfl rfl (fun {sc X W e} ok tk h => ?_) fun {sc e} h => ?_
  · split at h
    · refine (fun q => ⟨q, pt_of q fun _ => rfl⟩) (PE.imp (hx.e ok tk h) fun σ H Q ⟨ρ, μ, F, ι, S, a⟩ => ?_)
      refine Rd.mono (Aft.step (U := RelE) a S Ext.refl) fun v1 H1 ⟨s1, μ1, F1, e1, d1, S1, ⟨r1, n1⟩, a⟩ => ?_
      cases hr : s1.nkeep μ1 with
      | stuck =>
        rw [hr] at a
        exact a.elim
      | exc x μ' => exact (nkeep_exc hr).elim
      | ok r μ' =>
        rw [hr] at a
        obtain ⟨F2, d, x2, S2, rfl, q⟩ := S1.nkeep r1 hr
        exact a v1 F2 H1 (e1.trans x2) S2 ⟨q, trivial⟩
    · cases h
  · split at h
    · exact hx.st h
    · cases h
theorem AftS.nidx {mg : Str → Option Value} {W : WX} {ρ : Rho} {μ : List Cell} {F H : Hp} {ι : List Addr} {D : Ends} {v w : SV} {f : SV → List Cell → RS} (a : AftS mg W ι F H D ((DL.nidx v w μ).st ρ f)) :
    ∃ r, DL.nidx v w μ = .ok r μ ∧ AftS mg W ι F H D (f r μ) := by
  cases hr : DL.nidx v w μ with
  | stuck =>
    rw [hr] at a
    exact a.elim
  | exc x μ' => exact (nidx_exc hr).elim
  | ok r μ' =>
    rw [hr] at a
    obtain ⟨o, i, c, j, kk, rfl, rfl, ec, hn, ej, ek, rfl, rfl⟩ := nidx_of hr
    exact ⟨_, rfl, a⟩
theorem ss_sti2 {i : Nat} (hx : SE G N k x) (hy : SE G N k y) (hz : SE G N k z) : SS G N k (.sti2 i x y z) := SS.of (fun _ _ => rfl) fun {sc X W e} ok tk h => by
  dsimp only [mt] at h
  split at h
  · rename_i n p1 s p2 t p3 v p4
    simp only [Bool.and_eq_true, decide_eq_true_eq, Bool.not_eq_true'] at h
    obtain ⟨⟨⟨⟨⟨⟨⟨⟨h1, h2⟩, h3⟩, h4⟩, h5⟩, h6⟩, h7⟩, h8⟩, h9⟩ := h
    have hin : (mt G N (.idxN (.var i) x)).e sc (.Subscript (.Name n p1) s p2) = true := by
      show (((decide (N[i]? = some n) && visB sc n && okName n) && (mt G N x).e sc s) && notSlice s) = true
      simp only [Bool.and_eq_true, decide_eq_true_eq]
      exact ⟨⟨⟨⟨h1, h2⟩, h3⟩, h4⟩, h5⟩
    have pl := plainIx_of h7
    refine PS.imp (ps_asg (hz.e ok.toOkX tk h8) (pg_sub ((se_idxN se_var hx).e ok.toOkX tk hin) (hy.e ok.toOkX tk h6) set_list ?_) (sole_of h9) rfl rfl) fun D σ H ⟨ρ, μ, F, ι, S, a⟩ => ?_
    · intro v'
      clear hin h4 pl h1 h2 h3 h5 h6 h8 h9
      cases t <;> first
        | rfl
        | cases h7
    replace a : AftS X.mg W ι F H D ((((den G z).e ρ μ).bind fun v μ1 => (v.keep μ1).bind fun d μ2 => ((slot ρ i μ2).bind fun w μ3 => ((den G x).e ρ μ3).bind fun x μ4 => nidx w x μ4).bind fun y' μ5 => ((den G y).e ρ μ5).bind fun u μ6 => (asI u μ6).bind fun n μ7 => stiV n d y' μ7).st ρ fun r _ => .nx ρ r) := a
    refine Rd.mono (AftS.step (U := RelE) (ρ' := ρ) a.flat S) fun v H1 ⟨s1, μ1, F1, e1, S1, ⟨r1, n1⟩, a⟩ => ?_
    obtain ⟨d, μ2, F2, e2, sf, S2, q, a⟩ := a.flat.keep (G0 := H) S1 e1 r1 n1
    have a := a.flat
    refine Rd.mono (AftS.step (U := RelE) (ρ' := ρ) (m := (den G (.idxN (.var i) x)).e) (a.rebase e2 Grow.refl) S2) fun w H3 ⟨s3, μ3, F3, e3, S3, ⟨r3, n3⟩, a⟩ => ?_
    refine Rd.mono (AftS.step (U := RelE) (ρ' := ρ) (a.flat.rebase e3 Grow.refl) S3) fun u H4 ⟨s4, μ4, F4, e4, S4, ⟨r4, n4⟩, a⟩ => ?_
    obtain ⟨nn, rfl, a⟩ := a.flat.asI
    cases r4
    obtain ⟨kk, c3, j, rfl, ec, nf, ej, a⟩ := a.stiV
    obtain ⟨p, k1, rfl⟩ := r3
    obtain ⟨vs3, t1, t2, _⟩ := S4.cell kk p c3 k1 ec
    replace t2 := t2.dt nf.2
    obtain ⟨S5, e5⟩ := S4.setCell k1 ec nf.1 nf.2 (t2.set (Dt.mono (e3.fs.trans e4.fs) q) j)
    exact ⟨p, vs3, nn, j, rfl, rfl, t1, by rw [t2.length]; exact ej, a σ ι F4 _ (e4.trans e5) Grow.refl S5⟩
  · cases h
/-- a nest is changed -/
theorem Sat.setNest {ρ : Rho} {μ : List Cell} {σ : St} {H F : Hp} {ι : List Addr} {o : Nat} {a : Addr} {c : Cell} {ys : List V} {es : List DL.D} (S : Sat ρ μ σ H F ι) (hk : ι[o]? = some a) (hc : μ[o]? = some c) (hn : c.st = .nest) (q : PtrAll ι ys es) :
    Sat ρ (μ.set o ⟨.nest, es⟩) σ (L2.upd H a (.lst ys)) F ι ∧ Ext ι F H F (L2.upd H a (.lst ys)) := by
  obtain ⟨vs, h, al, f1, f2⟩ := S.cell o a c hk hc
  have n : F a = none := f2 (by rw [hn]; exact fun z => nomatch z)
  have ma : a ∈ ι := List.mem_of_getElem? hk
  refine ⟨⟨fun b u e => ?_, by simp [S.len], S.nod, fun j b d h1 h2 => ?_, S.slen, S.slot⟩, ⟨Same.refl F, fun b u e m => ?_, fun b e => (upd_none e).2, fun b u e => .inl e⟩⟩
  · rw [upd_ne (ne_of_none e n)]
    exact S.sub b u e
  · by_cases z : o = j
    · subst z
      rw [hk] at h1
      cases h1
      rw [List.getElem?_set_self (List.getElem?_eq_some_iff.mp hc).1] at h2
      cases h2
      exact ⟨ys, upd_same, ⟨fun z => absurd rfl z, fun _ => q⟩, (fun z => nomatch z), fun _ => n⟩
    · rw [List.getElem?_set_ne z] at h2
      obtain ⟨ws, g1, g2⟩ := S.cell j b d h1 h2
      have ne : b ≠ a := fun y => z (ix_inj S.nod hk (y ▸ h1))
      exact ⟨ws, by rw [upd_ne ne]; exact g1, g2⟩
  · have ne : b ≠ a := fun y => m (y ▸ ma)
    rw [upd_ne ne]
    exact e
theorem ptr_set {ι : List Addr} {vs : List V} {ds : List D} (h : PtrAll ι vs ds) (j : Nat) {kk : Nat} {a : Addr} (hk : ι[kk]? = some a) : PtrAll ι (vs.set j (.ref a)) (ds.set j (.int kk)) := by
  refine ⟨by simp [h.1], fun i d e => ?_⟩
  by_cases z : j = i
  · subst z
    have hl : j < ds.length := by
      have := (List.getElem?_eq_some_iff.mp e).1
      simpa using this
    rw [List.getElem?_set_self hl] at e
    cases e
    exact ⟨kk, a, rfl, by omega, by simpa using hk, List.getElem?_set_self (by rw [h.1]; exact hl)⟩
  · rw [List.getElem?_set_ne z] at e ⊢
    exact h.2 i d e
theorem stnR_of {o : Nat} {i : Int} {ds : List D} {μ μ' : List Cell} (h : stnR o i ds μ = some μ') : ∃ c j, μ[o]? = some c ∧ c.st = .nest ∧ ixN c.ds.length i = some j ∧ μ' = (μ ++ [(⟨.live, ds⟩ : Cell)]).set o ⟨.nest, c.ds.set j (.int μ.length)⟩ := by
  unfold stnR at h
  split at h
  · rename_i c ec
    split at h
    · rename_i hn
      split at h
      · rename_i j ej
        cases h
        exact ⟨c, j, ec, hn, ej, rfl⟩
      · cases h
    · cases h
  · cases h
theorem AftS.stepB {α β : Type} {mg : Str → Option Value} {W : WX} {D : Ends} {ρ : Rho} {μ : List Cell} {σ : St} {F H F0 H0 : Hp} {ι : List Addr} {U : Rel β α} {m : Rho → List Cell → R α} {f : α → List Cell → RS} (a : AftS mg W ι F0 H0 D ((m ρ μ).st ρ f)) (S : Sat ρ μ σ H F ι) (e : Ext ι F0 H0 F H) :
    Rd mg W U m σ H fun x H1 => ∃ a1 μ1 F1, Ext ι F0 H0 F1 H1 ∧ Ext ι F H F1 H1 ∧ Sat ρ μ1 σ H1 F1 ι ∧ U H F1 H1 ι x a1 ∧ AftS mg W ι F0 H0 D (f a1 μ1) := by
  refine ⟨ρ, μ, F, ι, S, ?_⟩
  cases h : m ρ μ with
  | ok a1 μ1 =>
    rw [h] at a
    exact fun x F1 H1 e1 S1 t => ⟨a1, μ1, F1, e.trans e1, e1, S1, t, a⟩
  | exc x μ1 =>
    rw [h] at a
    exact fun c d F1 H1 e1 S1 t => a c d σ ι F1 H1 (e.trans e1) Grow.refl S1 t
  | stuck =>
    rw [h] at a
    exact a.elim
theorem ss_stn {i : Nat} (hx : SE G N k x) (hy : SE G N k y) : SS G N k (.stn i x y) := SS.of (fun _ _ => rfl) fun {sc X W e} ok tk h => by
  dsimp only [mt] at h
  split at h
  · simp only [Bool.and_eq_true, decide_eq_true_eq, Bool.not_eq_true'] at h
    obtain ⟨⟨⟨⟨⟨⟨h1, h2⟩, h3⟩, h4⟩, h5⟩, h6⟩, h7⟩ := h
    have pl := plainIx_of h5
    refine PS.imp (ps_asg (hy.e ok.toOkX tk h6) (pg_sub (pe_slot (W := W) ok.toOkX h1 h2 h3) (hx.e ok.toOkX tk h4) set_list ?_) (sole_of h7) rfl rfl) fun D σ H ⟨ρ, μ, F, ι, S, a⟩ => ?_
    · intro v
      clear h4 pl h1 h2 h3 h6 h7
      rename_i n1 p1 sl p2 vv p3
      cases sl <;> first
        | rfl
        | cases h5
    replace a : AftS X.mg W ι F H D ((((den G y).e ρ μ).bind fun v μ1 => (slot ρ i μ1).bind fun w μ3 => ((den G x).e ρ μ3).bind fun x μ4 => (asI x μ4).bind fun n μ5 => stnV n v w μ5).st ρ fun r _ => .nx ρ r) := a
    refine Rd.mono (AftS.step (U := RelE) (ρ' := ρ) a.flat S) fun v H1 ⟨s1, μ1, F1, e1, S1, ⟨r1, n1⟩, a⟩ => ?_
    refine Rd.mono (AftS.stepB (U := RelE) (m := fun ρ μ => slot ρ i μ) a.flat S1 e1) fun w H3 ⟨s3, μ3, F3, e3, d3, S3, ⟨r3, n3⟩, a⟩ => ?_
    refine Rd.mono (AftS.stepB (U := RelE) a.flat S3 e3) fun u H4 ⟨s4, μ4, F4, e4, d4, S4, ⟨r4, n4⟩, a⟩ => ?_
    obtain ⟨nn, rfl, a⟩ := a.flat.asI
    cases r4
    cases s1 with
    | fre ds =>
      cases s3 with
      | nst o =>
        replace a : AftS X.mg W ι F H D ((R.of (stnR o nn ds μ4) μ4).st ρ fun r _ => .nx ρ r) := a
        obtain ⟨μ5, eA, a⟩ := a.ofO
        obtain ⟨c, j, ec, hn, ej, rfl⟩ := stnR_of eA
        obtain ⟨p, ws, rfl, p1, p2, p3, p4⟩ := VRep.mono S1 (d3.trans d4) r1
        obtain ⟨b, k1, rfl⟩ := r3
        obtain ⟨vs3, t1, t2, _⟩ := S4.cell o b c k1 ec
        have S5 := S4.grow p1 p2 p3 p4
        have ho : o < μ4.length := (List.getElem?_eq_some_iff.mp ec).1
        have k1' : (ι ++ [p])[o]? = some b := by
          rw [List.getElem?_append_left (List.getElem?_eq_some_iff.mp k1).1]
          exact k1
        have ec' : (μ4 ++ [(⟨.live, ds⟩ : Cell)])[o]? = some c := by
          rw [List.getElem?_append_left ho]
          exact ec
        have hp : (ι ++ [p])[μ4.length]? = some p := by
          rw [← S4.len]
          simp
        obtain ⟨S6, e6⟩ := S5.setNest k1' ec' hn (ptr_set (t2.2 hn).ext j hp)
        have g : Grow ι (ι ++ [p]) H := ⟨[p], rfl, fun b hb => by rw [List.mem_singleton.mp hb]; exact n1 p rfl⟩
        exact ⟨b, vs3, nn, j, rfl, rfl, t1, by rw [(t2.2 hn).1]; exact ej, a σ (ι ++ [p]) F4 _ (e4.grow g e6) g S6⟩
      | _ => exact a.elim
    | _ => exact a.elim
  · cases h
/-! ### a loop over a nest -/
theorem ss_foN {i1 i2 j : Nat} (hy : SS G N k y) : SS G N k (.foN i1 i2 j y) := SS.of (fun _ _ => rfl) fun {sc X W e} ok tk h => by
  dsimp only [mt] at h
  split at h
  · rename_i t1 t2 p1 p2 n p3 nm p4 p5 l p6
    simp only [Bool.and_eq_true, decide_eq_true_eq] at h
    obtain ⟨⟨⟨⟨⟨⟨h1, rfl⟩, h2⟩, h3⟩, h4⟩, h5⟩, h6⟩ := h
    have hm : X.mg "enumerate" = none := ok.toOkX.blt _ (by decide +kernel)
    refine PS.imp (ps_for ok.pas ok.calm (pi_enum (gl_of ok.toOkX.hsc h2) hm (pa_cons (pe_slot (W := W) ok.toOkX h3 h4 h5) pa_nil rfl) rfl) ((pgs_tg ok.toOkX (.cons (.nm i1) (.cons (.nm i2) .nil))).1 h1) (hy.ss ok tk h6) (fun _ => rfl)) fun D σ H ⟨ρ, μ, F, ι, S, a⟩ => ?_
    replace a : AftS X.mg W ι F H D (match ρ[j]? with
      | some (some (.nst o)) => (match μ[o]? with
        | some c => forN o i1 i2 (den G y).s c.ds 0 c.ds ρ μ
        | none => .stuck)
      | _ => .stuck) := a
    split at a
    case h_2 => exact a.elim
    rename_i o es
    split at a
    case h_2 => exact a.elim
    rename_i c ec
    refine ⟨ρ, μ, F, ι, S, ?_⟩
    have eS : slot ρ j μ = .ok (.nst o) μ := by
      unfold slot
      rw [es]
    show Aft X.mg W RelE ρ σ ι F H (slot ρ j μ) _
    rw [eS]
    intro w F0 H0 e0 S0 ⟨r0, _⟩
    obtain ⟨q, hq, rfl⟩ := r0
    have inv : ∀ {ρ : Rho} {μ : List Cell} {σ : St} {F H : Hp} {ι' : List Addr}, Sat ρ μ σ H F ι' → ι'[o]? = some q → μ[o]? = some ⟨.nest, c.ds⟩ → ∃ vs, H q = some (.lst vs) ∧ PtrAll ι' vs c.ds := fun {ρ μ σ F H ι'} S hq em => by
      obtain ⟨vs, v1, v2, _⟩ := S.cell o q _ hq em
      exact ⟨vs, v1, v2.2 rfl⟩
    have first : ∃ xs, H0 q = some (.lst xs) := by
      obtain ⟨vs, v1, _⟩ := S0.cell o q c hq ec
      exact ⟨vs, v1⟩
    obtain ⟨xs0, hx0⟩ := first
    refine ⟨q, xs0, rfl, .inl (.inl hx0), ?_⟩
    replace a := AftS.rebase a e0 Grow.refl
    refine ⟨fun i m σ H => m = c.ds.length - i ∧ i ≤ c.ds.length ∧ ∃ ρ μ F ι', Ext ι F0 H0 F H ∧ Grow ι ι' H0 ∧ Sat ρ μ σ H F ι' ∧ AftS X.mg W ι F0 H0 D (forN o i1 i2 (den G y).s c.ds i (c.ds.drop i) ρ μ), ⟨_, rfl, Nat.zero_le _, ρ, μ, F0, ι, Ext.refl, Grow.refl, S0, a⟩, ?_⟩
    rintro i m σi Hi ⟨rfl, hi, ρi, μi, Fi, ιi, ei, gi, Si, ai⟩
    have hqi : ιi[o]? = some q := by
      obtain ⟨t, rfl, _⟩ := gi
      rw [List.getElem?_append_left (List.getElem?_eq_some_iff.mp hq).1]
      exact hq
    by_cases hlt : i < c.ds.length
    · rw [List.drop_eq_getElem_cons hlt] at ai
      have hd : c.ds[i]? = some c.ds[i] := by simp [hlt]
      generalize c.ds[i] = di at ai hd
      cases di with
      | int kk =>
        unfold forN at ai
        split at ai
        case isFalse => exact ai.elim
        rename_i em
        obtain ⟨vs, v1, vl, v2⟩ := inv Si hqi em
        obtain ⟨k', b, e1, e2, e3, e4⟩ := v2 i _ hd
        cases e1
        refine .inr ⟨⟨vs, .ref b, .inl (.inl v1), e4⟩, fun σ' H' => i + 1 ≤ c.ds.length ∧ ∃ ρ μ F ι', Ext ι F0 H0 F H' ∧ Grow ι ι' H0 ∧ Sat ρ μ σ' H' F ι' ∧ AftS X.mg W ι F0 H0 D (forN o i1 i2 (den G y).s c.ds (i + 1) (c.ds.drop (i + 1)) ρ μ), fun σ' H' q => ⟨_, by omega, rfl, q⟩, fun v H' yl => ?_⟩
        obtain ⟨T, x, rfl, tn, rfl, yl⟩ := yl
        have hx : x = .ref b := by
          have := yl vs (.inl (.inl v1))
          rw [e4] at this
          exact (Option.some.inj this).symm
        subst hx
        have mT : T ∉ ιi := Si.notIn tn
        have fT : Fi T = none := by
          cases z : Fi T with
          | none => rfl
          | some u => rw [Si.sub _ _ z] at tn; cases tn
        have S2 : Sat ρi μi σi (L2.upd Hi T (.tup [.int (i : Nat), .ref b])) Fi ιi := Si.upd fT mT
        have x2 : Ext ιi Fi Hi Fi (L2.upd Hi T (.tup [.int (i : Nat), .ref b])) := Ext.refl.updNew tn
        have ex : Ext ι F0 H0 Fi (L2.upd Hi T (.tup [.int (i : Nat), .ref b])) := ei.grow gi x2
        have S3 := (S2.setS i1 (v := .int (i : Nat)) (sv := .dat (.int (i : Nat))) (.int _)).setS i2 (v := .ref b) (sv := .own kk.toNat) ⟨b, e3, rfl⟩
        refine ⟨T, [.int (i : Nat), .ref b], rfl, .inl (.inl upd_same), rfl, .int (i : Nat), [.ref b], rfl, .ref b, [], rfl, rfl, ?_⟩
        refine ⟨_, μi, Fi, ιi, S3, ?_⟩
        cases eb : (den G y).s ((ρi.set i1 (some (.dat (.int (i : Nat))))).set i2 (some (.own kk.toNat))) μi with
        | nx ρ2 μ2 =>
          rw [eb] at ai
          exact fun σ3 ι3 F3 H3 e3 g3 S3 => ⟨hlt, ρ2, μ2, F3, ι3, ex.grow gi e3, gi.trans g3 ex.ht, S3, ai⟩
        | ct ρ2 μ2 =>
          rw [eb] at ai
          exact fun σ3 ι3 F3 H3 e3 g3 S3 => ⟨hlt, ρ2, μ2, F3, ι3, ex.grow gi e3, gi.trans g3 ex.ht, S3, ai⟩
        | bk ρ2 μ2 =>
          rw [eb] at ai
          exact ai.elim
        | rt v μ2 =>
          rw [eb] at ai
          exact ai.elim
        | exc ex ρ2 μ2 =>
          rw [eb] at ai
          exact ai.elim
        | stuck =>
          rw [eb] at ai
          exact ai.elim
      | _ => exact ai.elim
    · have e : i = c.ds.length := by omega
      subst e
      rw [List.drop_length] at ai
      unfold forN at ai
      split at ai
      case isFalse => exact ai.elim
      rename_i em
      obtain ⟨vs, v1, vl, v2⟩ := inv Si hqi em
      exact .inl ⟨⟨vs, .inl (.inl v1), by omega⟩, ai σi ιi Fi Hi ei gi Si⟩
  · cases h
end
end DL

set_option maxHeartbeats 1000000
/-! DL22: every text does what its function says. -/
namespace DL
open PySem PySem.Spec PyProof.Rows L2
section
variable {G : Ge} {N : List Str} {k : Nat} {x y z : IR}
structure OkIR (G : Ge) (N : List Str) (k : Nat) (ir : IR) : Prop where
  se : SE G N k ir
  sl : SL G N k ir
  si : SI G N k ir
  sa : SA G N k ir
  ss : SS G N k ir
  sn : SN G N k ir
  sj : SJ G N k ir
theorem SI.none (h : ∀ sc t l, (mt G N x).i sc t l = false) : SI G N k x :=
  ⟨(fun _ _ q => absurd q (by rw [h]; exact Bool.false_ne_true)), fun q => absurd q (by rw [h]; exact Bool.false_ne_true)⟩
theorem SS.none (h : ∀ sc l, (mt G N x).s sc l = false) (h2 : ∀ sc l, (mt G N x).ss sc l = false) : SS G N k x :=
  ⟨(fun _ _ q => absurd q (by rw [h]; exact Bool.false_ne_true)), fun _ _ q => absurd q (by rw [h2]; exact Bool.false_ne_true)⟩
theorem SN.none (h : ∀ sc l, (mt G N x).es sc l = false) : SN G N k x :=
  ⟨(fun _ _ q => absurd q (by rw [h]; exact Bool.false_ne_true)), fun q => absurd q (by rw [h]; exact Bool.false_ne_true)⟩
theorem SA.none (h : ∀ sc l, (mt G N x).e sc l = false) : SA G N k x :=
  ⟨fun _ _ q => absurd q (by rw [h]; exact Bool.false_ne_true)⟩
/-- an expression's text -/
theorem OkIR.ofE (hj : SJ G N k x) (h : SE G N k x) (sa : SA G N k x) (sl : SL G N k x) (h1 : ∀ sc t l, (mt G N x).i sc t l = false) (h2 : ∀ sc l, (mt G N x).s sc l = false) (h3 : ∀ sc l, (mt G N x).ss sc l = false) (h4 : ∀ sc l, (mt G N x).es sc l = false) : OkIR G N k x :=
  ⟨h, sl, SI.none h1, sa, SS.none h2 h3, SN.none h4, hj⟩
theorem OkIR.ofE' (hj : SJ G N k x) (h : SE G N k x) (h1 : ∀ sc t l, (mt G N x).i sc t l = false) (h2 : ∀ sc l, (mt G N x).s sc l = false) (h3 : ∀ sc l, (mt G N x).ss sc l = false) (h4 : ∀ sc l, (mt G N x).es sc l = false) (h5 : ∀ sc l, (mt G N x).as sc l = false) (hl : ∀ vs tg it t e, x ≠ .lc vs tg it t e) (hl2 : ∀ vs vs1 tg it tg' it' e, x ≠ .lc2 vs vs1 tg it tg' it' e) (hl3 : ∀ vs i it, x ≠ .nlc vs i it := by intros; simp) : OkIR G N k x :=
  OkIR.ofE hj h (sa_of h hl hl2 hl3) (SL.none h4 h5) h1 h2 h3 h4
theorem OkIR.ofS (hj : SJ G N k x) (h : SS G N k x) (h1 : ∀ sc t l, (mt G N x).i sc t l = false) (h2 : ∀ sc l, (mt G N x).e sc l = false) (h3 : ∀ sc l, (mt G N x).a sc l = false) (h4 : ∀ sc l, (mt G N x).es sc l = false) (h5 : ∀ sc l, (mt G N x).as sc l = false) (h6 : ∀ sc l, (mt G N x).o sc l = false) : OkIR G N k x :=
  ⟨SE.none h2 h3 h6, SL.none h4 h5, SI.none h1, SA.none h2, h, SN.none h4, hj⟩
theorem OkIR.ofI (hj : SJ G N k x) (h : SI G N k x) (h1 : ∀ sc l, (mt G N x).s sc l = false) (h7 : ∀ sc l, (mt G N x).ss sc l = false) (h2 : ∀ sc l, (mt G N x).e sc l = false) (h3 : ∀ sc l, (mt G N x).a sc l = false) (h4 : ∀ sc l, (mt G N x).es sc l = false) (h5 : ∀ sc l, (mt G N x).as sc l = false) (h6 : ∀ sc l, (mt G N x).o sc l = false) : OkIR G N k x :=
  ⟨SE.none h2 h3 h6, SL.none h4 h5, h, SA.none h2, SS.none h1 h7, SN.none h4, hj⟩
theorem ok_ir : ∀ ir : IR, OkIR G N k ir := fun ir => by
  have r1 : ∀ (_ : Scope) (_ : List Expr), false = false := fun _ _ => rfl
  induction ir with
  | nil => exact ⟨se_nil, sl_nil, SI.none (fun _ _ _ => rfl), SA.none (fun _ _ => rfl), ss_nil, sn_nil, trivial⟩
  | cons x y hx hy => exact ⟨SE.none (fun _ _ => rfl) (fun _ _ => rfl) (fun _ _ => rfl), sl_cons hx.se hy.sl, SI.none (fun _ _ _ => rfl), SA.none (fun _ _ => rfl), ss_cons hx.ss hy.ss, sn_cons hx.se hy.sn, hx.se, hy.sj⟩
  | var i => exact OkIR.ofE' trivial se_var (fun _ _ _ => rfl) (fun _ _ => rfl) (fun _ _ => rfl) (fun _ _ => rfl) (fun _ _ => rfl) (by intros; simp) (by intros; simp)
  | lend i => exact OkIR.ofE' trivial se_lend (fun _ _ _ => rfl) (fun _ _ => rfl) (fun _ _ => rfl) (fun _ _ => rfl) (fun _ _ => rfl) (by intros; simp) (by intros; simp)
  | lit d => exact OkIR.ofE' trivial se_lit (fun _ _ _ => rfl) (fun _ _ => rfl) (fun _ _ => rfl) (fun _ _ => rfl) (fun _ _ => rfl) (by intros; simp) (by intros; simp)
  | dct => exact OkIR.ofE' trivial se_dct (fun _ _ _ => rfl) (fun _ _ => rfl) (fun _ _ => rfl) (fun _ _ => rfl) (fun _ _ => rfl) (by intros; simp) (by intros; simp)
  | glb x d => exact OkIR.ofE' trivial se_glb (fun _ _ _ => rfl) (fun _ _ => rfl) (fun _ _ => rfl) (fun _ _ => rfl) (fun _ _ => rfl) (by intros; simp) (by intros; simp)
  | bin o a b ha hb => exact OkIR.ofE' trivial (se_bin ha.se hb.se) (fun _ _ _ => rfl) (fun _ _ => rfl) (fun _ _ => rfl) (fun _ _ => rfl) (fun _ _ => rfl) (by intros; simp) (by intros; simp)
  | neg a ha => exact OkIR.ofE' trivial (se_neg ha.se) (fun _ _ _ => rfl) (fun _ _ => rfl) (fun _ _ => rfl) (fun _ _ => rfl) (fun _ _ => rfl) (by intros; simp) (by intros; simp)
  | nt a ha => exact OkIR.ofE' trivial (se_nt ha.se) (fun _ _ _ => rfl) (fun _ _ => rfl) (fun _ _ => rfl) (fun _ _ => rfl) (fun _ _ => rfl) (by intros; simp) (by intros; simp)
  | cmp o a b ha hb => exact OkIR.ofE' trivial (se_cmp ha.se hb.se) (fun _ _ _ => rfl) (fun _ _ => rfl) (fun _ _ => rfl) (fun _ _ => rfl) (fun _ _ => rfl) (by intros; simp) (by intros; simp)
  | chn o o' a b c ha hb hc => exact OkIR.ofE' trivial (se_chn ha.se hb.se hc.se) (fun _ _ _ => rfl) (fun _ _ => rfl) (fun _ _ => rfl) (fun _ _ => rfl) (fun _ _ => rfl) (by intros; simp) (by intros; simp)
  | bop o es h => exact OkIR.ofE' trivial (se_bop h.sl) (fun _ _ _ => rfl) (fun _ _ => rfl) (fun _ _ => rfl) (fun _ _ => rfl) (fun _ _ => rfl) (by intros; simp) (by intros; simp)
  | ife c a b hc ha hb => exact OkIR.ofE' trivial (se_ife hc.se ha.se hb.se) (fun _ _ _ => rfl) (fun _ _ => rfl) (fun _ _ => rfl) (fun _ _ => rfl) (fun _ _ => rfl) (by intros; simp) (by intros; simp)
  | tup es h => exact OkIR.ofE' trivial (se_tup h.sl) (fun _ _ _ => rfl) (fun _ _ => rfl) (fun _ _ => rfl) (fun _ _ => rfl) (fun _ _ => rfl) (by intros; simp) (by intros; simp)
  | lst es h => exact OkIR.ofE' trivial (se_lst h.sl) (fun _ _ _ => rfl) (fun _ _ => rfl) (fun _ _ => rfl) (fun _ _ => rfl) (fun _ _ => rfl) (by intros; simp) (by intros; simp)
  | idx a b ha hb => exact OkIR.ofE' trivial (se_idx ha.se hb.se) (fun _ _ _ => rfl) (fun _ _ => rfl) (fun _ _ => rfl) (fun _ _ => rfl) (fun _ _ => rfl) (by intros; simp) (by intros; simp)
  | sli a b c ha hb hc => exact OkIR.ofE' trivial (se_sli ha.se hb.se hc.se) (fun _ _ _ => rfl) (fun _ _ => rfl) (fun _ _ => rfl) (fun _ _ => rfl) (fun _ _ => rfl) (by intros; simp) (by intros; simp)
  | rev a h => exact OkIR.ofE' trivial (se_rev h.se) (fun _ _ _ => rfl) (fun _ _ => rfl) (fun _ _ => rfl) (fun _ _ => rfl) (fun _ _ => rfl) (by intros; simp) (by intros; simp)
  | fmt a h => exact OkIR.ofE' trivial (se_fmt h.se) (fun _ _ _ => rfl) (fun _ _ => rfl) (fun _ _ => rfl) (fun _ _ => rfl) (fun _ _ => rfl) (by intros; simp) (by intros; simp)
  | jst es h => exact OkIR.ofE' trivial (se_jst h.sj) (fun _ _ _ => rfl) (fun _ _ => rfl) (fun _ _ => rfl) (fun _ _ => rfl) (fun _ _ => rfl) (by intros; simp) (by intros; simp)
  | joi s e h => exact OkIR.ofE' trivial (se_joi h.se) (fun _ _ _ => rfl) (fun _ _ => rfl) (fun _ _ => rfl) (fun _ _ => rfl) (fun _ _ => rfl) (by intros; simp) (by intros; simp)
  | lrg a h => exact OkIR.ofE' trivial (se_lrg h.se) (fun _ _ _ => rfl) (fun _ _ => rfl) (fun _ _ => rfl) (fun _ _ => rfl) (fun _ _ => rfl) (by intros; simp) (by intros; simp)
  | cal j es h => exact OkIR.ofE' trivial (se_cal h.sl) (fun _ _ _ => rfl) (fun _ _ => rfl) (fun _ _ => rfl) (fun _ _ => rfl) (fun _ _ => rfl) (by intros; simp) (by intros; simp)
  | blt b es h => exact OkIR.ofE' trivial (se_blt h.sl) (fun _ _ _ => rfl) (fun _ _ => rfl) (fun _ _ => rfl) (fun _ _ => rfl) (fun _ _ => rfl) (by intros; simp) (by intros; simp)
  | isi a ts h => exact OkIR.ofE' trivial (se_isi h.se) (fun _ _ _ => rfl) (fun _ _ => rfl) (fun _ _ => rfl) (fun _ _ => rfl) (fun _ _ => rfl) (by intros; simp) (by intros; simp)
  | lc vs tg it t e h1 h2 h3 => exact OkIR.ofE trivial (se_lc h1.si h2.se h3.se) (sa_lc h1.si h2.se h3.se) (SL.none (fun _ _ => rfl) (fun _ _ => rfl)) (fun _ _ _ => rfl) (fun _ _ => rfl) (fun _ _ => rfl) (fun _ _ => rfl)
  | lc2 vs vs1 tg it tg' it' e h1 h2 h3 => exact OkIR.ofE trivial (se_lc2 h1.si h2.si h3.se) (sa_lc2 h1.si h2.si h3.se) (SL.none (fun _ _ => rfl) (fun _ _ => rfl)) (fun _ _ _ => rfl) (fun _ _ => rfl) (fun _ _ => rfl) (fun _ _ => rfl)
  | nlc vs i it h => exact OkIR.ofE trivial (se_nlc h.si) (sa_nlc h.si) (SL.none (fun _ _ => rfl) (fun _ _ => rfl)) (fun _ _ _ => rfl) (fun _ _ => rfl) (fun _ _ => rfl) (fun _ _ => rfl)
  | frz e h => exact OkIR.ofE' trivial (se_frz h.se) (fun _ _ _ => rfl) (fun _ _ => rfl) (fun _ _ => rfl) (fun _ _ => rfl) (fun _ _ => rfl) (by intros; simp) (by intros; simp)
  | idxN a b ha hb => exact OkIR.ofE' trivial (se_idxN ha.se hb.se) (fun _ _ _ => rfl) (fun _ _ => rfl) (fun _ _ => rfl) (fun _ _ => rfl) (fun _ _ => rfl) (by intros; simp) (by intros; simp)
  | sti2 i a b e ha hb he => exact OkIR.ofS trivial (ss_sti2 ha.se hb.se he.se) (fun _ _ _ => rfl) (fun _ _ => rfl) (fun _ _ => rfl) (fun _ _ => rfl) (fun _ _ => rfl) (fun _ _ => rfl)
  | stn i a e ha he => exact OkIR.ofS trivial (ss_stn ha.se he.se) (fun _ _ _ => rfl) (fun _ _ => rfl) (fun _ _ => rfl) (fun _ _ => rfl) (fun _ _ => rfl) (fun _ _ => rfl)
  | foN i1 i2 j b h => exact OkIR.ofS trivial (ss_foN h.ss) (fun _ _ _ => rfl) (fun _ _ => rfl) (fun _ _ => rfl) (fun _ _ => rfl) (fun _ _ => rfl) (fun _ _ => rfl)
  | iSeq e h => exact OkIR.ofI trivial (si_seq h.se) (fun _ _ => rfl) (fun _ _ => rfl) (fun _ _ => rfl) (fun _ _ => rfl) (fun _ _ => rfl) (fun _ _ => rfl) (fun _ _ => rfl)
  | iRng e h => exact OkIR.ofI trivial (si_rng h.sl) (fun _ _ => rfl) (fun _ _ => rfl) (fun _ _ => rfl) (fun _ _ => rfl) (fun _ _ => rfl) (fun _ _ => rfl) (fun _ _ => rfl)
  | iEnu e h => exact OkIR.ofI trivial (si_enu h.se) (fun _ _ => rfl) (fun _ _ => rfl) (fun _ _ => rfl) (fun _ _ => rfl) (fun _ _ => rfl) (fun _ _ => rfl) (fun _ _ => rfl)
  | iZip st a b ha hb => exact OkIR.ofI trivial (si_zip ha.se hb.se) (fun _ _ => rfl) (fun _ _ => rfl) (fun _ _ => rfl) (fun _ _ => rfl) (fun _ _ => rfl) (fun _ _ => rfl) (fun _ _ => rfl)
  | pass => exact OkIR.ofS trivial ss_pass (fun _ _ _ => rfl) (fun _ _ => rfl) (fun _ _ => rfl) (fun _ _ => rfl) (fun _ _ => rfl) (fun _ _ => rfl)
  | ret e h => exact OkIR.ofS trivial (ss_ret h.se) (fun _ _ _ => rfl) (fun _ _ => rfl) (fun _ _ => rfl) (fun _ _ => rfl) (fun _ _ => rfl) (fun _ _ => rfl)
  | retN => exact OkIR.ofS trivial ss_retN (fun _ _ _ => rfl) (fun _ _ => rfl) (fun _ _ => rfl) (fun _ _ => rfl) (fun _ _ => rfl) (fun _ _ => rfl)
  | xpr e h => exact OkIR.ofS trivial (ss_xpr h.se) (fun _ _ _ => rfl) (fun _ _ => rfl) (fun _ _ => rfl) (fun _ _ => rfl) (fun _ _ => rfl) (fun _ _ => rfl)
  | set i e h => exact OkIR.ofS trivial (ss_set h.sa) (fun _ _ _ => rfl) (fun _ _ => rfl) (fun _ _ => rfl) (fun _ _ => rfl) (fun _ _ => rfl) (fun _ _ => rfl)
  | setO i e h => exact OkIR.ofS trivial (ss_setO h.sa) (fun _ _ _ => rfl) (fun _ _ => rfl) (fun _ _ => rfl) (fun _ _ => rfl) (fun _ _ => rfl) (fun _ _ => rfl)
  | par ts es h => exact OkIR.ofS trivial (ss_par h.sn) (fun _ _ _ => rfl) (fun _ _ => rfl) (fun _ _ => rfl) (fun _ _ => rfl) (fun _ _ => rfl) (fun _ _ => rfl)
  | unp tg e h => exact OkIR.ofS trivial (ss_unp h.se) (fun _ _ _ => rfl) (fun _ _ => rfl) (fun _ _ => rfl) (fun _ _ => rfl) (fun _ _ => rfl) (fun _ _ => rfl)
  | aug i o e h => exact OkIR.ofS trivial (ss_aug h.se) (fun _ _ _ => rfl) (fun _ _ => rfl) (fun _ _ => rfl) (fun _ _ => rfl) (fun _ _ => rfl) (fun _ _ => rfl)
  | sti i a e ha he => exact OkIR.ofS trivial (ss_sti ha.se he.se) (fun _ _ _ => rfl) (fun _ _ => rfl) (fun _ _ => rfl) (fun _ _ => rfl) (fun _ _ => rfl) (fun _ _ => rfl)
  | app i e h => exact OkIR.ofS trivial (ss_app h.se) (fun _ _ _ => rfl) (fun _ _ => rfl) (fun _ _ => rfl) (fun _ _ => rfl) (fun _ _ => rfl) (fun _ _ => rfl)
  | ifs c a b hc ha hb => exact OkIR.ofS trivial (ss_ifs hc.se ha.ss hb.ss) (fun _ _ _ => rfl) (fun _ _ => rfl) (fun _ _ => rfl) (fun _ _ => rfl) (fun _ _ => rfl) (fun _ _ => rfl)
  | fo tg it b hi hb => exact OkIR.ofS trivial (ss_fo hi.si hb.ss) (fun _ _ _ => rfl) (fun _ _ => rfl) (fun _ _ => rfl) (fun _ _ => rfl) (fun _ _ => rfl) (fun _ _ => rfl)
  | whl c b hc hb => exact OkIR.ofS trivial (ss_whl hc.se hb.ss) (fun _ _ _ => rfl) (fun _ _ => rfl) (fun _ _ => rfl) (fun _ _ => rfl) (fun _ _ => rfl) (fun _ _ => rfl)
  | brk => exact OkIR.ofS trivial ss_brk (fun _ _ _ => rfl) (fun _ _ => rfl) (fun _ _ => rfl) (fun _ _ => rfl) (fun _ _ => rfl) (fun _ _ => rfl)
  | ctn => exact OkIR.ofS trivial ss_ctn (fun _ _ _ => rfl) (fun _ _ => rfl) (fun _ _ => rfl) (fun _ _ => rfl) (fun _ _ => rfl) (fun _ _ => rfl)
  | rai c m => exact OkIR.ofS trivial ss_rai (fun _ _ _ => rfl) (fun _ _ => rfl) (fun _ _ => rfl) (fun _ _ => rfl) (fun _ _ => rfl) (fun _ _ => rfl)
  | tryM b hs h1 h2 => exact OkIR.ofS trivial (ss_try h1.ss) (fun _ _ _ => rfl) (fun _ _ => rfl) (fun _ _ => rfl) (fun _ _ => rfl) (fun _ _ => rfl) (fun _ _ => rfl)
  | hdl c b h => exact OkIR.ofS trivial (SS.none (fun _ _ => rfl) (fun _ _ => rfl)) (fun _ _ _ => rfl) (fun _ _ => rfl) (fun _ _ => rfl) (fun _ _ => rfl) (fun _ _ => rfl) (fun _ _ => rfl)
end
end DL

set_option maxHeartbeats 1000000
/-! DL23: a def keeps its promise. -/
namespace DL
open PySem PySem.Spec PyProof.Rows L2
/-- what a module offers to a def's body -/
structure ModOk (G : Ge) (k : Nat) (P : Program) (w : World) (K : PySem.W.Frag) (mg : Str → Option Value) (base : Heap) : Prop where
  cal : ∀ c ∈ G.ces, ∃ (f : Addr) (fd : FuncData) (ps : List Str), GFn P w K mg base k f fd ps (spOf mg c.sem) ∧ ps.length = c.arity ∧ mg c.name = some (.ref f) ∧ PySem.W.keepIn K (.ref f) = true ∧ Binds K fd ps []
  con : ∀ x i, (x, i) ∈ G.con → ∃ t, mg x = some (.int i t)
  blt : ∀ x ∈ bltNames, mg x = none
  exo : ∀ c ∈ G.exc, ∃ C : Addr, mg c = some (.ref C) ∧ PySem.W.excIn K C [.type "ValueError", .type "Exception", .type "BaseException", .type "object"] "ValueError.__new__" = true ∧ PySem.W.keepIn K (.ref C) = true ∧
    PySem.W.subIn K (.ref C) (.type "BaseException") = some true ∧ PySem.W.typeIn K (.ref C) = some (.type "type")
  exm : ∀ x c vx vc, x ∈ G.exc → c ∈ G.exc → mg x = some vx → mg c = some vc → PySem.W.exmOne K vx vc = some (G.sub x c)
section
variable {P : Program} {w : World} {K : PySem.W.Frag} {mg : Str → Option Value} {base : Heap} {G : Ge} {k : Nat} {N ps : List Str} {scope : Scope}
theorem okS_of (M : ModOk G k P w K mg base) (S : FnScope N ps scope) {qual : Str} {f : Addr} {cdv : Value} {A : Around} {outer : List Env} {s : Shared} {H : Hp} {E : XK} (hg : A.guards = some []) (hr : Room k (A.deeper (envOfC qual scope s.heap.objs.size f cdv))) :
    OkS G N k scope (cxOf (L2.CX P w) P w K mg base N qual scope f cdv A outer s H E) where
  hN := rfl
  nd := S.nd
  hsc := Sees.of rfl S.kind fun _ _ => rfl
  calm := rfl
  room := hr
  grd := hg
  cal := fun c h => ⟨M.cal c h⟩
  con := M.con
  blt := M.blt
  exo := fun c h => ⟨M.exo c h⟩
  exm := M.exm
  scp := rfl
  pas := passes_of (K := fun e s'' => L2.CX P w outer H s E e s'') (E₁ := fun e s'' => L2.CX P w outer H s E e s'') rfl
  stk := rfl
  frm := rfl
theorem takes_cx {qual : Str} {f : Addr} {cdv : Value} {A : Around} {outer : List Env} {s : Shared} {H : Hp} {E : XK} : Takes (cxOf (L2.CX P w) P w K mg base N qual scope f cdv A outer s H E) fun c d _ H => E c d H :=
  takes_of rfl rfl rfl (E₁ := fun e s'' => L2.CX P w outer H s E e s'') rfl

/-! ### the slots at the start -/
theorem args_start {H F : Hp} : ∀ {vs : List V} {as : List Arg} {A : List Addr} (pre : List Addr), ArgsRep H F vs as A →
    (∀ (i : Nat) (sv : SV), (stR as pre.length)[i]? = some (some sv) → ∃ v, vs[i]? = some v ∧ SlotOk F (pre ++ A) v sv)
  | _, _, _, pre, .nil, i, sv, e => by simp [stR] at e
  | _, _, _, pre, .dat q r, 0, sv, e => by
    simp [stR] at e
    subst e
    exact ⟨_, rfl, q⟩
  | _, _, _, pre, .dat q r, i + 1, sv, e => args_start pre r i sv (by simpa [stR] using e)
  | _, _, _, pre, .own (a := a) h1 h2 h3 h4 r, 0, sv, e => by
    simp [stR] at e
    subst e
    exact ⟨_, rfl, a, by simp, rfl⟩
  | _, _, _, pre, .own (a := a) (A := A) h1 h2 h3 h4 r, i + 1, sv, e => by
    obtain ⟨v, q1, q2⟩ := args_start (pre ++ [a]) r i sv (by simpa [stR] using e)
    refine ⟨v, by simpa using q1, ?_⟩
    rw [List.append_assoc] at q2
    exact q2
theorem args_cells {H F : Hp} : ∀ {vs : List V} {as : List Arg} {A : List Addr}, ArgsRep H F vs as A → A.length = (stC as).length ∧ A.Nodup ∧ (stR as 0).length = vs.length ∧ as.length = vs.length ∧ ∀ (k : Nat) (a : Addr) (c : Cell), A[k]? = some a → (stC as)[k]? = some c → c.st = .arg ∧ ∀ ι, CellOk H F ι a c
  | _, _, _, .nil => ⟨rfl, .nil, rfl, rfl, fun k a c h => by simp at h⟩
  | _, _, _, .dat q r => by
    obtain ⟨h1, h2, h3, h4, h5⟩ := args_cells r
    exact ⟨h1, h2, by simp [stR, h3], by simp [h4], h5⟩
  | _, _, _, .own (as := as) g1 g2 g3 g4 r => by
    obtain ⟨h1, h2, h3, h4, h5⟩ := args_cells r
    have sl : ∀ (as : List Arg) (n m : Nat), (stR as n).length = (stR as m).length := fun as => by
      induction as with
      | nil => intro n m; rfl
      | cons x xs ih =>
        intro n m
        cases x with
        | dat d => simp [stR, ih n m]
        | own d => simp [stR, ih (n + 1) (m + 1)]
    refine ⟨by simp [stC, h1], List.nodup_cons.mpr ⟨g4, h2⟩, ?_, by simp [h4], fun k a c e1 e2 => ?_⟩
    · show (stR as 1).length + 1 = _
      rw [sl as 1 0, h3]
      simp
    · cases k with
      | zero =>
        cases e1
        cases e2
        exact ⟨rfl, fun _ => ⟨_, g1, Its.of (fun z => nomatch z) g3, (fun z => nomatch z), fun _ => g2⟩⟩
      | succ k => exact h5 k a c (by simpa using e1) (by simpa [stC] using e2)
theorem sat_start {H F : Hp} {vs : List V} {as : List Arg} {A : List Addr} {n : Nat} (s : Same F H) (r : ArgsRep H F vs as A) (hn : N.length = n) : Sat (stR as 0 ++ List.replicate (n - as.length) none) (stC as) (L2.start N vs) H F A where
  sub := s
  len := (args_cells r).1
  nod := (args_cells r).2.1
  cell := fun k a c h1 h2 => ((args_cells r).2.2.2.2 k a c h1 h2).2 _
  slen := by
    obtain ⟨_, _, h3, h4, _⟩ := args_cells r
    unfold L2.start
    simp [h3, h4, hn]
  slot := fun i sv e => by
    obtain ⟨_, _, h3, h4, _⟩ := args_cells r
    by_cases hi : i < (stR as 0).length
    · rw [List.getElem?_append_left hi] at e
      obtain ⟨v, q1, q2⟩ := args_start [] r i sv e
      refine ⟨v, ?_, q2⟩
      unfold L2.start
      rw [List.getElem?_append_left (by rw [List.length_map, ← h3]; exact hi), List.getElem?_map, q1]
      rfl
    · rw [List.getElem?_append_right (by omega)] at e
      have := List.mem_of_getElem? e
      have := List.eq_of_mem_replicate this
      cases this
/-! ### the end of a def -/
theorem backs_of {H F : Hp} : ∀ {A : List Addr} {μ : List Cell}, A.length = μ.length → (∀ (k : Nat) (a : Addr) (c : Cell), A[k]? = some a → μ[k]? = some c → ¬ c.st.shut = true ∧ ∃ ι, CellOk H F ι a c) → Backs H F A (μ.map (·.ds))
  | [], [], _, _ => .nil
  | [], _ :: _, l, _ => by simp at l
  | _ :: _, [], l, _ => by simp at l
  | a :: A, c :: μ, l, h => by
    obtain ⟨st, _, vs, h1, h2, h3, h4⟩ := h 0 a c rfl rfl
    obtain ⟨st, sn⟩ := shut_froz st
    exact .cons h1 (h4 st) (h2.dt sn) (backs_of (Nat.succ.inj l) fun k a' c' e1 e2 => h (k + 1) a' c' (by simpa using e1) (by simpa using e2))
theorem backs_end {ρ : Rho} {μ : List Cell} {σ : St} {H F H0 : Hp} {ι A : List Addr} {n : Nat} (S : Sat ρ μ σ H F ι) (g : Grow A ι H0) (hn : A.length = n) (st : argsSt n μ = true) : Backs H F A (outC n μ) := by
  obtain ⟨t, rfl, _⟩ := g
  have hl : n ≤ μ.length := by
    rw [← S.len, List.length_append]
    omega
  refine backs_of (by rw [List.length_take]; omega) fun k a c e1 e2 => ?_
  have hk : k < A.length := (List.getElem?_eq_some_iff.mp e1).1
  have e2' : μ[k]? = some c := by
    rw [List.getElem?_take] at e2
    rw [if_pos (by omega)] at e2
    exact e2
  refine ⟨fun z => ?_, _, S.cell k a c (by rw [List.getElem?_append_left hk]; exact e1) e2'⟩
  have := List.all_eq_true.mp st c (List.mem_of_getElem? e2)
  rw [z] at this
  cases this
theorem retV_own {n k : Nat} {μ : List Cell} {rv : Rv} (h : retV n μ (.own k) = some rv) : ¬k < n ∧ ∃ c, μ[k]? = some c ∧ ((c.st = .live ∧ rv = .fre c.ds) ∨ (c.st = .froz ∧ rv = .dat (.list c.ds))) := by
  replace h : (if k < n then none else match μ[k]? with
    | some c => (match c.st with
      | .live => some (Rv.fre c.ds)
      | .froz => some (Rv.dat (.list c.ds))
      | .arg => none
      | .nest => none)
    | none => none) = some rv := h
  by_cases hk : k < n
  · rw [if_pos hk] at h
    cases h
  · rw [if_neg hk] at h
    refine ⟨hk, ?_⟩
    cases e : μ[k]? with
    | none =>
      rw [e] at h
      cases h
    | some c =>
      rw [e] at h
      obtain ⟨st, ds⟩ := c
      cases st with
      | live =>
        cases h
        exact ⟨_, rfl, .inl ⟨rfl, rfl⟩⟩
      | froz =>
        cases h
        exact ⟨_, rfl, .inr ⟨rfl, rfl⟩⟩
      | arg => cases h
      | nest => cases h
theorem out_after {mg : Str → Option Value} {F H : Hp} {A : List Addr} {o : Out} {Q : VK} {E : XK} {n : Nat} {r : RS} (post : OutPost mg F H A o Q E) (hA : ∀ a ∈ A, ∃ vs, H a = some (.lst vs)) (hn : A.length = n) (e : outOf n r = some o) :
    AftS mg (fun c d _ H => E c d H) A F H { nx := fun _ H' => Q .non H', rt := Q } r := by
  cases r with
  | nx ρ μ =>
    replace e : (if argsSt n μ = true then some (Out.ret (.dat .none) (outC n μ)) else none) = some o := e
    split at e
    · rename_i st
      cases e
      exact fun σ ι F1 H1 x1 g1 S1 => post .non F1 H1 x1 S1.sub (backs_end S1 g1 hn st) .non
    · cases e
  | exc x ρ μ =>
    replace e : (if argsSt n μ = true then some (Out.exc x (outC n μ)) else none) = some o := e
    split at e
    · rename_i st
      cases e
      exact fun c d σ ι F1 H1 x1 g1 S1 xr => post c d F1 H1 x1 S1.sub (backs_end S1 g1 hn st) xr
    · cases e
  | rt v μ =>
    replace e : (if argsSt n μ = true then (retV n μ v).map (fun r => Out.ret r (outC n μ)) else none) = some o := e
    split at e
    · rename_i st
      intro x ρ σ ι F1 H1 x1 g1 S1 vr nv
      have bk := backs_end S1 g1 hn st
      cases v with
      | dat d =>
        cases e
        exact post x F1 H1 x1 S1.sub bk vr
      | fre ds =>
        cases e
        obtain ⟨p, vs, rfl, h1, h2, h3, h4⟩ := vr
        obtain ⟨t, rfl, _⟩ := g1
        exact post _ F1 H1 x1 S1.sub bk ⟨p, vs, rfl, nv _ rfl, h1, h2, fun m => h3 (List.mem_append_left _ m), h4⟩
      | own k =>
        obtain ⟨a, h1, rfl⟩ := vr
        cases er : retV n μ (.own k) with
        | none =>
          rw [er] at e
          cases e
        | some rv =>
          rw [er] at e
          cases e
          obtain ⟨hk, c, ec, he⟩ := retV_own er
          obtain ⟨t, rfl, gt⟩ := g1
          rw [List.getElem?_append_right (by omega)] at h1
          have nA : H a = none := gt a (List.mem_of_getElem? h1)
          have nm : a ∉ A := fun m => by
            obtain ⟨vs, q⟩ := hA a m
            rw [nA] at q
            cases q
          obtain ⟨vs, q1, q2, q3, q4⟩ := S1.cell k a c (by rw [List.getElem?_append_right (by omega)]; exact h1) ec
          rcases he with ⟨es, rfl⟩ | ⟨es, rfl⟩
          · exact post _ F1 H1 x1 S1.sub bk ⟨a, vs, rfl, nA, q1, q4 (by rw [es]; exact fun z => nomatch z), nm, q2.dt (by rw [es]; exact fun z => nomatch z)⟩
          · exact post _ F1 H1 x1 S1.sub bk (.lst (L2.Rd.of (q3 es)) (q2.dt (by rw [es]; exact fun z => nomatch z)))
      | nst k => cases e
      | frn k => cases e
    · cases e
  | _ => cases e
/-- THE RULE: a def by its text -/
theorem gfn_of {f : Addr} {name qual : Str} {params : Arguments} {body : List Stmt} {dV kV doc pm cdv ct oc : Value} {an od : Option Addr} {osl : Array (Option Value)} {b : IR}
    (lk : K.lookup f = some ⟨oc, od, .func (PySem.W.fnOf name qual params body scope dV kV doc pm an cdv ct), osl⟩) (hcd : PySem.W.codeIn K cdv qual = true) (S : FnScope N ps scope) (M : ModOk G k P w K mg base) (hm : (mt G N b).ss scope body = true) {n : Nat} (hn : N.length = n) :
    GFn P w K mg base (k + 1) f (PySem.W.fnOf name qual params body scope dV kV doc pm an cdv ct) ps (spOf mg (semOf G b n)) := by
  refine ⟨fun A outer s H args us vs Q E hg hr e0 hb r hsp hl => ?_⟩
  have hK : K.In s.heap := e0.mod.kin.keeps fun a o z => (e0.bs a o z).1
  have hkinds : ∀ y ∈ ps.zip us, scope.names.lookup y.1 = some .local ∨ (scope.names.lookup y.1 = some .cell ∧ ((cellsFrom (s.heap.objs.size + 1) scope.names []).lookup y.1).isSome = true) := by
    rintro ⟨a, b⟩ hy
    exact (S.par a (List.of_mem_zip hy).1).imp id fun z => ⟨z, PySem.W.cellsFrom_some _ _ _ (.inl z)⟩
  refine codeAny_call_function hr.depth (hK _ _ lk) rfl S.co S.gen rfl (PySem.W.codeRec_of hK hcd) (hb _ _ _ _ (wpAny_newFunctionEnv_cells S.kind hkinds fun env he s1 x => ?_))
  subst he
  refine ⟨(e0.mod.nolimit.keeps fun a o z => (e0.bs a o z).1).keeps x.toInCall.keep, codeAny_func ?_⟩
  obtain ⟨F, as, Ad, o, sF, ar, eo, post⟩ := hsp
  have st : Inv (cxOf (L2.CX P w) P w K mg base N qual scope f cdv A outer s H E) [] (L2.start N vs) H s1 := inv_start S hr.hd e0 hl r x
  have ok := okS_of M S (qual := qual) (f := f) (cdv := cdv) (outer := outer) (s := s) (H := H) (E := E) hg (hr.deeper _)
  have hA : ∀ a ∈ Ad, ∃ vs, H a = some (.lst vs) := fun a ha => (sat_start sF ar hn).inH ha
  have go := ((ok_ir (G := G) (N := N) (k := k) b).ss.ss ok takes_cx hm).run [] s1 (L2.start N vs) H { nx := fun _ H' => Q .non H', rt := Q } st ⟨_, _, F, Ad, sat_start sF ar hn, out_after post hA (args_cells ar).1 eo⟩
  refine wpAny_mono go (fun fl s' hs => ?_) fun e s' hs => hs
  match fl, hs with
  | .ret u, ⟨v, σ', H', J, rv, q⟩ => exact ⟨v, H', J.os, J.bare, J.base, J.hok, rv, q⟩
  | .next, ⟨σ', H', J, q⟩ => exact ⟨.non, H', J.os, J.bare, J.base, J.hok, rfl, q⟩
  | .brk, ⟨_, _, _, q⟩ => exact q.elim
  | .cont, ⟨_, _, _, q⟩ => exact q.elim
end
end DL

set_option maxHeartbeats 2000000
/-! DL24: the law's end. -/
namespace DL
open PySem PySem.Spec PyProof.Rows L2
/-- no list stands in it -/
def noLst (K : PySem.W.Frag) : Bool := K.all fun p => match p.2.cls with
  | .type c => !(c == "list")
  | _ => true
theorem noLst_ok {K : PySem.W.Frag} (h : noLst K = true) {a : Addr} {o : Obj} (e : K.lookup a = some o) : o.cls ≠ .type "list" := fun z => by
  have := List.all_eq_true.mp h (a, o) (He.lookup_mem e)
  dsimp only at this
  rw [z] at this
  revert this
  decide
abbrev AlN : Type := Bool × He.AlD
def obsN (n : Nat) (fa : List He.Fa) (fn : List He.DefD) (g : Addr → Option Obj) : AlN := (noLst (He.frG g (He.asD g n)), He.obsD fa fn (He.frG g (He.asD g n)))
def hookN (n : Nat) (fa : List He.Fa) (fn : List He.DefD) : PySem.W.Hook where
  α := AlN
  obs := fun s => obsN n fa fn s.heap.get?
  val := fun _ => (true, He.valD fn)
  says := fun _ h => ∃ K : PySem.W.Frag, K.In h ∧ noLst K = true ∧ He.SaysD fa fn K
  of := fun _ _ e => ⟨_, He.frG_in, congrArg Prod.fst e, congrArg Prod.snd e⟩
  keeps := fun _ _ _ ⟨K, hK, c⟩ k => ⟨K, PySem.W.Frag.In.keeps hK k, c⟩
theorem obsN_eq {n : Nat} {fa : List He.Fa} {fn : List He.DefD} {g : Addr → Option Obj} {s : Shared} (h : ∀ a, g a = s.heap.get? a) : obsN n fa fn g = (hookN n fa fn).obs s := by
  have e : g = s.heap.get? := funext h
  rw [e]
  rfl
/-- a law that answers True on every script -/
theorem law_callG {P : Program} {w : World} {K : PySem.W.Frag} {mg mb : Str → Option Value} {k : Nat} {fa a : Addr} {fd : FuncData} {x : Str} {f : Fn} {s₁ : Shared} {vs : List Value} {ns : List Int}
    (KX : K.In s₁.heap) (nl : noLst K = true) (hns : s₁.heap.Ns mainGlobals mg) (hb : s₁.heap.Ns builtinsNs mb) (hbb : ∀ x : Str, x ≠ "__name__" → mb x = bootBuiltins x) (hlim : s₁.heap.NoLimit) (hg : s₁.gens = #[])
    (ha : s₁.heap.get? a = some { cls := .type "list", data := .seq vs.toArray }) (hi : IntsAre vs ns) (hl : ns.length ≤ sizeLine) (hr : Room k callerA)
    (Fk : ∀ base : Heap, K.In base → base.Ns mainGlobals mg → GFn P w K mg base k fa fd [x] (spOf mg f)) (hbind : ∀ (s : Shared) (u : Value), BindsTo s fd ⟨[u], []⟩ [(x, u)])
    (due : f [.dat (.list (ns.map PyData.int))] = some (.ret (.dat (.bool true)) [])) :
    codeAny (model P w) callerA (.call (.ref fa) ⟨[.ref a], []⟩) (fun r s' => r = .ok (.ret (.bool true)) ∧ OldK s₁.heap s'.heap ∧ s'.os = s₁.os ∧ AllBare s'.gens) s₁ := by
  let ob : Obj := { cls := .type "list", data := .seq vs.toArray }
  let H : Hp := fun b => if b = a then some (.frz ob (.lst (ns.map V.int))) else none
  have Hat : H a = some (.frz ob (.lst (ns.map V.int))) := if_pos rfl
  have Hne : ∀ {b : Addr}, b ≠ a → H b = none := fun hb => if_neg hb
  have only : ∀ {b : Addr} {u : HO}, H b = some u → b = a ∧ u = .frz ob (.lst (ns.map V.int)) := fun {b u} e => by
    by_cases hb : b = a
    · subst hb
      rw [Hat] at e
      exact ⟨rfl, (Option.some.inj e).symm⟩
    · rw [Hne hb] at e
      cases e
  have vals : Vals (ns.map V.int) vs := vals_ints hi
  have hok : HOk P w H s₁.heap := fun b u e => by
    obtain ⟨rfl, rfl⟩ := only e
    exact ⟨ha, by rw [List.length_map]; exact hl, vs, _, vals, ha⟩
  have hid : ∀ {b : Addr} {o : Obj}, s₁.heap.get? b = some o → b ≠ a → (hidT s₁.heap H).get? b = some o := fun e hb => hidT_get e (Hne hb)
  have dictNe : ∀ {b : Addr} {o : Obj} {es : Array DictEntry} {ep : Nat}, s₁.heap.get? b = some o → o.data = .dict es ep → b ≠ a := fun {b o es ep} e d z => by
    rw [z, ha] at e
    rw [← Option.some.inj e] at d
    exact nomatch d
  have nsT : ∀ {b : Addr} {m : Str → Option Value}, s₁.heap.Ns b m → (hidT s₁.heap H).Ns b m := fun ⟨o, es, ep, e, d, r⟩ => ⟨o, es, ep, hid e (dictNe e d), d, r⟩
  have KI : K.In (hidT s₁.heap H) := fun b o e => hid (KX b o e) fun z => by
    have q := KX b o e
    rw [z, ha] at q
    exact noLst_ok nl e (by rw [← Option.some.inj q])
  obtain ⟨mc, lim1, lim2⟩ := hlim
  have md : Mod K mg (hidT s₁.heap H) := ⟨KI, nsT hns, ⟨mb, nsT hb, hbb⟩, mc, nsT lim1, lim2⟩
  have e0 : Env0 P w K mg (hidT s₁.heap H) callerA [] s₁ H := ⟨rfl, md, fun b o e => of_hidT e, Nat.le_of_eq (hidT_size _ _), trivial, (fun b hb => nomatch hb), hok, .of_eq hg⟩
  have dts : ∀ (l : List Int) (F : Hp), DtAll F (l.map V.int) (l.map PyData.int) := fun l F => by
    induction l with
    | nil => exact .nil
    | cons i l ih => exact .cons (.int i) ih
  have sp : spOf mg f [.ref a] H (fun v _ => v = .bl true) fun _ _ _ => False := by
    refine ⟨H, _, [], _, Same.refl H, .dat (.lst (.inr ⟨ob, Hat⟩) (dts ns H)) .nil, due, fun v F' H' _ _ _ q => ?_⟩
    cases q
    rfl
  refine codeAny_mono ((Fk _ KI (nsT hns)).run callerA [] s₁ H ⟨[.ref a], []⟩ [.ref a] [.ref a] _ _ rfl hr e0 (hbind s₁ (.ref a)) (.cons rfl .nil) sp rfl) fun r s' h => ?_
  match r, h with
  | .error e, ⟨_, _, _, _, _, _, _, _, _, _, _, _, q⟩ => exact q.elim
  | .ok .next, h => exact h.elim
  | .ok .brk, h => exact h.elim
  | .ok .cont, h => exact h.elim
  | .ok (.ret u), ⟨v, H', os, bare, un, hok', rr, q⟩ =>
    have q' : v = .bl true := q
    subst q'
    obtain rfl : u = Value.bool true := rr
    refine ⟨rfl, OldK.of_keep fun b o e => ?_, os, bare⟩
    by_cases hb : b = a
    · subst hb
      obtain ⟨z1, _⟩ := hok' b _ (un.frzs b ob _ Hat)
      rw [ha] at e
      rw [← Option.some.inj e]
      exact z1
    · exact un.keep b o e (Hne hb) (fun z => nomatch z) (by simp)
end DL

set_option maxHeartbeats 2000000
/-! DL25: a module's defs, one after the other. -/
namespace DL
open PySem PySem.Spec PyProof.Rows L2
def subT (ps : List (Str × Str)) (x c : Str) : Bool := ps.contains (x, c)
/-- the facts that a module's names ask for -/
def faOf (defs : List Str) (con : List (Str × Int)) (exc : List Str) (sub : Str → Str → Bool) : List He.Fa :=
  defs.map .glo ++ (con.map (fun p => .int p.1 p.2) ++ (bltNames.map .free ++ (exc.map .glo ++ (exc.map .exc ++ exc.flatMap fun x => exc.map fun c => .exm x c (sub x c)))))
/-- a def's place, by its text -/
def dfn (x : Str) (st : Stmt) : He.DefD := ⟨(x, none), x, x, defArgs st, defBody st, defScope st, [], []⟩
section
variable {P : Program} {w : World} {K : PySem.W.Frag} {mg : Str → Option Value} {base : Heap} {k : Nat}
abbrev CalM (k : Nat) (P : Program) (w : World) (K : PySem.W.Frag) (mg : Str → Option Value) (base : Heap) (c : Ce) : Prop :=
  ∃ (f : Addr) (fd : FuncData) (ps : List Str), GFn P w K mg base k f fd ps (spOf mg c.sem) ∧ ps.length = c.arity ∧ mg c.name = some (.ref f) ∧ PySem.W.keepIn K (.ref f) = true ∧ Binds K fd ps []
/-- the defs so far -/
def CalsM (k : Nat) (P : Program) (w : World) (K : PySem.W.Frag) (mg : Str → Option Value) (base : Heap) (cs : List Ce) : Prop := ∀ c ∈ cs, CalM k P w K mg base c
theorem CalsM.nil : CalsM 0 P w K mg base [] := fun _ h => nomatch h
theorem CalsM.mono {cs : List Ce} {j : Nat} (h : CalsM j P w K mg base cs) (l : j ≤ k) : CalsM k P w K mg base cs := fun c hc => by
  obtain ⟨f, fd, ps, g, r⟩ := h c hc
  exact ⟨f, fd, ps, g.mono l, r⟩
/-- what the head says of a module -/
structure Says (defs : List Str) (con : List (Str × Int)) (exc : List Str) (sub : Str → Str → Bool) (fn : List He.DefD) (K : PySem.W.Frag) (h : Heap) (mg : Str → Option Value) : Prop where
  X : K.In h
  G : h.Ns mainGlobals mg
  c : He.SaysD (faOf defs con exc sub) fn K
variable {defs : List Str} {con : List (Str × Int)} {exc : List Str} {sub : Str → Str → Bool} {fn : List He.DefD} {h : Heap}
theorem Says.mod (s : Says defs con exc sub fn K h mg) {cs : List Ce} (cals : CalsM k P w K mg base cs) : ModOk ⟨cs, con, exc, sub⟩ k P w K mg base where
  cal := cals
  con := fun x i m => He.int_ok s.X s.G (s.c.facts (f := .int x i) (by
    unfold faOf
    simp only [List.mem_append, List.mem_map]
    exact .inr (.inl ⟨(x, i), m, rfl⟩)))
  blt := fun x m => He.free_ok s.X s.G (s.c.facts (f := .free x) (by
    unfold faOf
    simp only [List.mem_append, List.mem_map]
    exact .inr (.inr (.inl ⟨x, m, rfl⟩))))
  exo := fun x m => ⟨He.ga K x, He.glo_ok s.X s.G (s.c.facts (f := .glo x) (by
    unfold faOf
    simp only [List.mem_append, List.mem_map]
    exact .inr (.inr (.inr (.inl ⟨x, m, rfl⟩))))), He.exc_ok (s.c.facts (f := .exc x) (by
    unfold faOf
    simp only [List.mem_append, List.mem_map]
    exact .inr (.inr (.inr (.inr (.inl ⟨x, m, rfl⟩))))))⟩
  exm := fun x c vx vc mx mc ex ec => by
    have g : ∀ y ∈ exc, mg y = some (.ref (He.ga K y)) := fun y my => He.glo_ok s.X s.G (s.c.facts (f := .glo y) (by
      unfold faOf
      simp only [List.mem_append, List.mem_map]
      exact .inr (.inr (.inr (.inl ⟨y, my, rfl⟩)))))
    rw [g x mx] at ex
    rw [g c mc] at ec
    cases ex
    cases ec
    exact He.exm_ok (s.c.facts (f := .exm x c (sub x c)) (by
      unfold faOf
      simp only [List.mem_append, List.mem_flatMap, List.mem_map]
      exact .inr (.inr (.inr (.inr (.inr ⟨x, mx, c, mc, rfl⟩))))))
theorem Says.def_ (s : Says defs con exc sub fn K h mg) {x : Str} {st : Stmt} (m : dfn x st ∈ fn) (mx : x ∈ defs) :
    ∃ f fd, FunD K x x (defArgs st) (defBody st) (defScope st) [] [] f fd ∧ mg x = some (.ref f) := by
  obtain ⟨fd, F⟩ := s.c.defs m
  refine ⟨_, fd, F, ?_⟩
  exact He.glo_ok s.X s.G (s.c.facts (f := .glo x) (by
    unfold faOf
    simp only [List.mem_append, List.mem_map]
    exact .inl ⟨x, mx, rfl⟩))
/-- how a def binds its arguments -/
def BindOk (x : Str) (st : Stmt) (ps : List Str) : Prop := ∀ (kV doc pm : Value) (an : Option Addr) (cdv ct : Value) (us : List Value), us.length = ps.length → bindArgs (PySem.W.fnOf x x (defArgs st) (defBody st) (defScope st) .none kV doc pm an cdv ct) ⟨us, []⟩ = pure (ps.zip us)
/-- one more def -/
theorem Says.step (s : Says defs con exc sub fn K h mg) {cs : List Ce} (cals : CalsM k P w K mg base cs) {x : Str} {st : Stmt} {N ps : List Str} {b : IR} {n a : Nat} (m : dfn x st ∈ fn) (mx : x ∈ defs) (bd : BindOk x st ps) (sc : C8.scC N ps (defScope st) = true)
    (hm : (mt ⟨cs, con, exc, sub⟩ N b).ss (defScope st) (defBody st) = true) (hn : N.length = n) (hp : ps.length = a) : CalM (k + 1) P w K mg base ⟨x, a, semOf ⟨cs, con, exc, sub⟩ b n⟩ := by
  obtain ⟨f, fd, F, gx⟩ := s.def_ m mx
  have bs := F.bindsN bd
  obtain ⟨oc, od, dV, kV, doc, pm, an, cdv, ct, osl, rfl, lk, hcd, _, _⟩ := F.ex
  exact ⟨f, _, ps, gfn_of lk hcd (C8.fnScope_by sc) (s.mod cals) hm hn, hp, gx, F.kp, bs⟩
theorem CalsM.cons {cs : List Ce} {c : Ce} (h : CalsM k P w K mg base cs) (g : CalM (k + 1) P w K mg base c) : CalsM (k + 1) P w K mg base (cs ++ [c]) := fun d hd => by
  rcases List.mem_append.mp hd with z | z
  · exact (h.mono (Nat.le_succ k)) d z
  · rw [List.mem_singleton.mp z]
    exact g
/-- a def that calls itself, m deep -/
noncomputable def recF (cs : List Ce) (con : List (Str × Int)) (exc : List Str) (sub : Str → Str → Bool) (x : Str) (a : Nat) (b : IR) (n : Nat) : Nat → Fn
  | 0 => fun _ => none
  | m + 1 => semOf ⟨cs ++ [⟨x, a, recF cs con exc sub x a b n m⟩], con, exc, sub⟩ b n
theorem Says.stepR (s : Says defs con exc sub fn K h mg) {cs : List Ce} (cals : CalsM k P w K mg base cs) {x : Str} {st : Stmt} {N ps : List Str} {b : IR} {n a : Nat} (m : dfn x st ∈ fn) (mx : x ∈ defs) (bd : BindOk x st ps) (sc : C8.scC N ps (defScope st) = true)
    (hm : ∀ f : Fn, (mt ⟨cs ++ [⟨x, a, f⟩], con, exc, sub⟩ N b).ss (defScope st) (defBody st) = true) (hn : N.length = n) (hp : ps.length = a) : ∀ j : Nat, CalM (k + j) P w K mg base ⟨x, a, recF cs con exc sub x a b n j⟩
  | 0 => by
    obtain ⟨f, fd, F, gx⟩ := s.def_ m mx
    have bs := F.bindsN bd
    refine ⟨f, fd, ps, ⟨fun A outer sh H args us vs Q E hg hr e0 hb r hsp hl => ?_⟩, hp, gx, F.kp, bs⟩
    obtain ⟨_, _, _, _, _, _, z, _⟩ := hsp
    cases z
  | j + 1 => by
    have ih := Says.stepR s cals m mx bd sc hm hn hp j
    have cals' : CalsM (k + j) P w K mg base (cs ++ [⟨x, a, recF cs con exc sub x a b n j⟩]) := fun d hd => by
      rcases List.mem_append.mp hd with z | z
      · exact (cals.mono (Nat.le_add_right k j)) d z
      · rw [List.mem_singleton.mp z]
        exact ih
    exact s.step cals' m mx bd sc (hm _) hn hp
theorem CalsM.consR {cs : List Ce} {c : Ce} {j : Nat} (h : CalsM k P w K mg base cs) (g : CalM (k + j) P w K mg base c) : CalsM (k + j) P w K mg base (cs ++ [c]) := fun d hd => by
  rcases List.mem_append.mp hd with z | z
  · exact (h.mono (Nat.le_add_right k j)) d z
  · rw [List.mem_singleton.mp z]
    exact g
end
/-- the law's own def -/
theorem Says.lawG {P : Program} {w : World} {K : PySem.W.Frag} {mg : Str → Option Value} {k : Nat} {defs : List Str} {con : List (Str × Int)} {exc : List Str} {sub : Str → Str → Bool} {fn : List He.DefD} {h : Heap} (s : Says defs con exc sub fn K h mg) {cs : List Ce} (cals : ∀ base : Heap, CalsM k P w K mg base cs) {x p : Str} {st : Stmt} {N : List Str} {b : IR} {n : Nat} (m : dfn x st ∈ fn) (mx : x ∈ defs)
    (bd : ∀ (kV doc pm : Value) (an : Option Addr) (cdv ct : Value) (u : Value), bindArgs (PySem.W.fnOf x x (defArgs st) (defBody st) (defScope st) .none kV doc pm an cdv ct) ⟨[u], []⟩ = pure [(p, u)]) (sc : C8.scC N [p] (defScope st) = true)
    (hm : (mt ⟨cs, con, exc, sub⟩ N b).ss (defScope st) (defBody st) = true) (hn : N.length = n) : ∀ fa : Addr, mg x = some (.ref fa) → ∃ fd : FuncData, (∀ (s : Shared) (u : Value), BindsTo s fd ⟨[u], []⟩ [(p, u)]) ∧ ∀ base : Heap, GFn P w K mg base (k + 1) fa fd [p] (spOf mg (semOf ⟨cs, con, exc, sub⟩ b n)) := fun fa e => by
  obtain ⟨f, fd, F, gx⟩ := s.def_ m mx
  rw [gx] at e
  cases e
  have bA := F.bindsA (ps := [p]) fun kV doc pm an cdv ct us hl => match us, hl with
    | [u], _ => bd kV doc pm an cdv ct u
  obtain ⟨oc, od, dV, kV, doc, pm, an, cdv, ct, osl, rfl, lk, hcd, _, _⟩ := F.ex
  exact ⟨_, fun s u => bA s [u] rfl, fun base => gfn_of lk hcd (C8.fnScope_by sc) (s.mod (cals base)) hm hn⟩
/-- a law: from the head's facts to the claim's walk -/
theorem walk_ofG {l : PySem.W.OpenLaw} {n k : Nat} {q : Program} {loose : List Str} {XP : (Str → Option Value) → Heap → Prop} {d : DefRec} {x : Str} {f : Fn} {defs : List Str} {con : List (Str × Int)} {exc : List Str} {sub : Str → Str → Bool} {fn : List He.DefD}
    (hn : l.most = some n) (hn2 : n ≤ sizeLine) (hdf : d.params.defaults = []) (hr : Room k callerA)
    (due : ∀ ns : List Int, ns.length ≤ n → (∀ z ∈ ns, Builtin.Int.intBits z ≤ 1048576) → f [.dat (.list (ns.map PyData.int))] = some (.ret (.dat (.bool true)) []))
    (hx : ∀ (w : World) (mg : Str → Option Value) (K : PySem.W.Frag) (h : Heap), Says defs con exc sub fn K h mg → ∀ fa : Addr, mg d.name = some (.ref fa) → ∃ fd : FuncData, (∀ (s : Shared) (u : Value), BindsTo s fd ⟨[u], []⟩ [(x, u)]) ∧ ∀ base : Heap, GFn l.prog w K mg base k fa fd [x] (spOf mg f)) :
    PySem.W.WalkO q loose XP (fun _ h => ∃ K : PySem.W.Frag, K.In h ∧ noLst K = true ∧ He.SaysD (faOf defs con exc sub) fn K) l.row.toRowW d [] (fun f vs => PySem.call f vs) := by
  refine Att.attach_callB hn hdf fun w s₀ s₁ mg mb fa o pm cd doc a vs ns G Y ho hd hcd hmg hobj hints hlen hbits hg => ?_
  obtain ⟨K, KX, nl, c⟩ := Y
  obtain ⟨fd, hb, hF⟩ := hx w mg K _ ⟨KX, G.T.g, c⟩ fa hmg
  exact law_callG KX nl G.T.g G.T.b G.T.builtins G.T.nolimit hg hobj hints (Nat.le_trans hlen hn2) hr (fun base _ _ => hF base) hb (due ns hlen hbits)
end DL

set_option maxHeartbeats 2000000
/-! DL26: what a text does, step by step. -/
namespace DL
open PySem PySem.Spec PyProof.Rows L2
section
variable {G : Ge} {ρ : Rho} {μ μ' : List Cell} {x y z : IR} {i j k : Nat} {α β : Type}
theorem b_ok {a : α} {f : α → List Cell → R β} : (R.ok a μ).bind f = f a μ := rfl
theorem b_exc {a : Exn} {f : α → List Cell → R β} : (R.exc a μ).bind f = .exc a μ := rfl
theorem st_ok {a : α} {f : α → List Cell → RS} : (R.ok a μ).st ρ f = f a μ := rfl
theorem st_exc {a : Exn} {f : α → List Cell → RS} : (R.exc a μ).st ρ f = .exc a ρ μ := rfl
theorem sq_nx {f : Rho → List Cell → RS} : (RS.nx ρ μ).seq f = f ρ μ := rfl
theorem sq_rt {v : SV} {f : Rho → List Cell → RS} : (RS.rt v μ).seq f = .rt v μ := rfl
theorem sq_bk {f : Rho → List Cell → RS} : (RS.bk ρ μ).seq f = .bk ρ μ := rfl
theorem sq_ct {f : Rho → List Cell → RS} : (RS.ct ρ μ).seq f = .ct ρ μ := rfl
theorem sq_exc {e : Exn} {f : Rho → List Cell → RS} : (RS.exc e ρ μ).seq f = .exc e ρ μ := rfl
theorem of_some {a : α} : R.of (some a) μ = .ok a μ := rfl
theorem nox_ok {a : α} : (R.ok a μ).noX = .ok a μ := rfl
theorem lk_dat {d : D} : look1 (.dat d) μ = .ok d μ := rfl
theorem lk_fre {ds : List D} : look1 (.fre ds) μ = .ok (.list ds) μ := rfl
theorem lk_own {c : Cell} (h : μ[k]? = some c) (hn : c.st ≠ .nest := by exact fun z => nomatch z) : look1 (.own k) μ = .ok (.list c.ds) μ := by
  simp [look1, SV.look, h, R.of, hn]
theorem kp_dat {d : D} : (SV.dat d).keep μ = .ok d μ := rfl
theorem kp_fre {ds : List D} : (SV.fre ds).keep μ = .ok (.list ds) μ := rfl
theorem asB_b {b : Bool} : asB (.dat (.bool b)) μ = .ok b μ := rfl
theorem asI_i {n : Int} : asI (.dat (.int n)) μ = .ok n μ := rfl
theorem dB_ {b : Bool} : dB b μ = .ok (.dat (.bool b)) μ := rfl
theorem tR {t : Rho → List Cell → R SV} : testR t ρ μ = (t ρ μ).bind asB := rfl
-- statements
theorem s_nil : (den G .nil).s ρ μ = .nx ρ μ := rfl
theorem s_cons : (den G (.cons x y)).s ρ μ = ((den G x).s ρ μ).seq (den G y).s := rfl
theorem s_pass : (den G .pass).s ρ μ = .nx ρ μ := rfl
theorem s_ret : (den G (.ret x)).s ρ μ = ((den G x).e ρ μ).st ρ fun v μ1 => .rt v μ1 := rfl
theorem s_xpr : (den G (.xpr x)).s ρ μ = ((den G x).e ρ μ).st ρ fun _ μ1 => .nx ρ μ1 := rfl
theorem s_set : (den G (.set i x)).s ρ μ = (((den G x).e ρ μ).bind (toName false)).st ρ fun v μ1 => .nx (ρ.set i (some v)) μ1 := rfl
theorem tn_fd {d : D} : toName false (.dat d) μ = .ok (.dat d) μ := rfl
theorem tn_ff {ds : List D} : toName false (.fre ds) μ = .ok (.dat (.list ds)) μ := rfl
theorem tn_fo : toName false (.own k) μ = .ok (.own k) μ := rfl
theorem tn_fn : toName false (.nst k) μ = .ok (.nst k) μ := rfl
theorem s_setO : (den G (.setO i x)).s ρ μ = (((den G x).e ρ μ).bind (toName true)).st ρ fun v μ1 => .nx (ρ.set i (some v)) μ1 := rfl
theorem s_par {ts : List (Nat × Bool)} : (den G (.par ts x)).s ρ μ = ((den G x).b ρ μ).st ρ fun vs μ1 => parN (ts.map (·.2)) vs μ1 ρ fun ws μ2 => match sets (ts.map (·.1)) ws ρ with
      | some ρ' => .nx ρ' μ2
      | none => .stuck := rfl
theorem s_unp {tg : Tg} : (den G (.unp tg x)).s ρ μ = (((den G x).e ρ μ).bind fun v μ1 => v.keep μ1).st ρ fun d μ1 => match tg.f.one d ρ with
      | some ρ' => .nx ρ' μ1
      | none => .stuck := rfl
theorem s_sti : (den G (.sti i x y)).s ρ μ = (((den G y).e ρ μ).bind fun v μ1 => (v.keep μ1).bind fun d μ2 => (slot ρ i μ2).bind fun w μ3 => ((den G x).e ρ μ3).bind fun u μ4 => (asI u μ4).bind fun n μ5 => stiV n d w μ5).st ρ fun r _ => .nx ρ r := rfl
theorem s_app (h : ownS ρ i = some k) : (den G (.app i x)).s ρ μ = (((den G x).e ρ μ).bind fun v μ1 => (v.keep μ1).bind fun d μ2 => R.of (appR k d μ2) μ2).st ρ fun r _ => .nx ρ r := by
  show (match ownS ρ i with
      | some k => (((den G x).e ρ μ).bind fun v μ1 => (v.keep μ1).bind fun d μ2 => R.of (appR k d μ2) μ2).st ρ fun r _ => .nx ρ r
      | none => .stuck) = _
  rw [h]
theorem s_ifs : (den G (.ifs x y z)).s ρ μ = (testR (den G x).e ρ μ).st ρ fun b μ1 => bif b then (den G y).s ρ μ1 else (den G z).s ρ μ1 := by
  show ((testR (den G x).e ρ μ).st ρ fun b μ1 => match b with
    | true => (den G y).s ρ μ1
    | false => (den G z).s ρ μ1) = _
  refine congrArg _ (funext fun b => funext fun μ1 => ?_)
  cases b <;> rfl
theorem s_fo {tg : Tg} : (den G (.fo tg x y)).s ρ μ = ((den G x).i ρ μ).st ρ fun ds μ1 => forR tg.f.one (den G y).s ds ρ μ1 := rfl
theorem s_rai {c m : Str} : (den G (.rai c m)).s ρ μ = .exc ⟨c, []⟩ ρ μ := rfl
-- expressions
theorem e_var : (den G (.var i)).e ρ μ = slot ρ i μ := rfl
theorem e_lit {d : D} : (den G (.lit d)).e ρ μ = .ok (.dat d) μ := rfl
theorem e_dct : (den G .dct).e ρ μ = .ok (.dat (.dict [])) μ := rfl
theorem e_glb {n : Str} {d : D} : (den G (.glb n d)).e ρ μ = .ok (.dat d) μ := rfl
theorem e_bin {o : Operator} : (den G (.bin o x y)).e ρ μ = ((den G x).e ρ μ).bind fun v μ1 => ((den G y).e ρ μ1).bind fun w μ2 => (look1 v μ2).bind fun a μ3 => (look1 w μ3).bind fun b μ4 => R.of (bin2 o a b) μ4 := rfl
theorem e_neg : (den G (.neg x)).e ρ μ = ((den G x).e ρ μ).bind fun v μ1 => (asI v μ1).bind fun i μ2 => .ok (.dat (.int (-i))) μ2 := rfl
theorem e_nt : (den G (.nt x)).e ρ μ = ((den G x).e ρ μ).bind fun v μ1 => (asB v μ1).bind fun c μ2 => dB (!c) μ2 := rfl
theorem e_cmp {o : CmpOp} : (den G (.cmp o x y)).e ρ μ = ((den G x).e ρ μ).bind fun v μ1 => ((den G y).e ρ μ1).bind fun w μ2 => (look1 v μ2).bind fun a μ3 => (look1 w μ3).bind fun b μ4 => (R.of (cmp2 o a b) μ4).bind dB := rfl
theorem e_chn {o o' : CmpOp} : (den G (.chn o o' x y z)).e ρ μ = ((den G x).e ρ μ).bind fun v μ1 => ((den G y).e ρ μ1).bind fun w μ2 => (look1 v μ2).bind fun a μ3 => (look1 w μ3).bind fun b μ4 => (R.of (cmp2 o a b) μ4).bind fun c μ5 => bif c then ((den G z).e ρ μ5).bind fun u μ6 => (look1 w μ6).bind fun b' μ7 => (look1 u μ7).bind fun d μ8 => (R.of (cmp2 o' b' d) μ8).bind dB else dB false μ5 := by
  show (((den G x).e ρ μ).bind fun v μ1 => ((den G y).e ρ μ1).bind fun w μ2 => (look1 v μ2).bind fun a μ3 => (look1 w μ3).bind fun b μ4 => (R.of (cmp2 o a b) μ4).bind fun c μ5 => match c with
      | true => ((den G z).e ρ μ5).bind fun u μ6 => (look1 w μ6).bind fun b' μ7 => (look1 u μ7).bind fun d μ8 => (R.of (cmp2 o' b' d) μ8).bind dB
      | false => dB false μ5) = _
  refine congrArg _ (funext fun v => funext fun μ1 => congrArg _ (funext fun w => funext fun μ2 => congrArg _ (funext fun a => funext fun μ3 => congrArg _ (funext fun b => funext fun μ4 => congrArg _ (funext fun c => funext fun μ5 => ?_)))))
  cases c <;> rfl
theorem e_bop {o : BoolOp} : (den G (.bop o x)).e ρ μ = (den G x).bc o ρ μ := rfl
theorem c_one {o : BoolOp} : (den G (.cons x .nil)).bc o ρ μ = (den G x).e ρ μ := rfl
theorem c_and : (den G (.cons x (.cons y z))).bc .And ρ μ = ((den G x).e ρ μ).bind fun v μ1 => (asB v μ1).bind fun c μ2 => bif c then (den G (.cons y z)).bc .And ρ μ2 else .ok (.dat (.bool false)) μ2 := by
  rw [bc_cons2]
  dsimp only
  refine congrArg _ (funext fun v => funext fun μ1 => congrArg _ (funext fun c => funext fun μ2 => ?_))
  cases c <;> rfl
theorem c_or : (den G (.cons x (.cons y z))).bc .Or ρ μ = ((den G x).e ρ μ).bind fun v μ1 => (asB v μ1).bind fun c μ2 => bif c then .ok (.dat (.bool true)) μ2 else (den G (.cons y z)).bc .Or ρ μ2 := by
  rw [bc_cons2]
  dsimp only
  refine congrArg _ (funext fun v => funext fun μ1 => congrArg _ (funext fun c => funext fun μ2 => ?_))
  cases c <;> rfl
theorem e_ife : (den G (.ife x y z)).e ρ μ = (testR (den G x).e ρ μ).bind fun b μ1 => bif b then (den G y).e ρ μ1 else (den G z).e ρ μ1 := by
  show ((testR (den G x).e ρ μ).bind fun b μ1 => match b with
    | true => (den G y).e ρ μ1
    | false => (den G z).e ρ μ1) = _
  refine congrArg _ (funext fun b => funext fun μ1 => ?_)
  cases b <;> rfl
theorem e_tup : (den G (.tup x)).e ρ μ = ((den G x).k ρ μ).bind fun ds μ1 => .ok (.dat (.tuple ds)) μ1 := rfl
theorem e_lst : (den G (.lst x)).e ρ μ = ((den G x).k ρ μ).bind fun ds μ1 => .ok (.fre ds) μ1 := rfl
theorem e_idx : (den G (.idx x y)).e ρ μ = ((den G x).e ρ μ).bind fun v μ1 => ((den G y).e ρ μ1).bind fun w μ2 => (look1 v μ2).bind fun a μ3 => (look1 w μ3).bind fun b μ4 => (R.of (idxD a b) μ4).bind fun d μ5 => .ok (.dat d) μ5 := rfl
theorem e_sli : (den G (.sli x y z)).e ρ μ = ((den G x).e ρ μ).bind fun v μ1 => ((den G y).o ρ μ1).bind fun l μ2 => ((den G z).o ρ μ2).bind fun h μ3 => (look1 v μ3).bind fun a μ4 => R.of (cutD a l h) μ4 := rfl
theorem e_cal {c : Ce} (h : G.ces[j]? = some c) : (den G (.cal j x)).e ρ μ = ((den G x).a ρ μ).bind fun vs μ1 => callR c vs μ1 := by
  show (match G.ces[j]? with
      | none => R.stuck
      | some c => ((den G x).a ρ μ).bind fun vs μ1 => callR c vs μ1) = _
  rw [h]
theorem e_blt {b : Blt} : (den G (.blt b x)).e ρ μ = ((den G x).b ρ μ).bind fun vs μ1 => (R.of (looks μ1 vs) μ1).bind fun ds μ2 => R.of (bltD b ds) μ2 := rfl
theorem e_isi {ts : List Ty} : (den G (.isi x ts)).e ρ μ = ((den G x).e ρ μ).bind fun v μ1 => (look1 v μ1).bind fun d μ2 => dB (ts.any (isTy d)) μ2 := rfl
theorem e_lc0 {vs : List (Str × Nat)} {tg : Tg} : (den G (.lc vs tg x .nil y)).e ρ μ = ((den G x).i ρ μ).noX.bind fun ds μ1 => if ds.length ≤ 10000000 then
        (lcR tg.f.one (fun _ μ2 => .ok true μ2) (fun ρ1 μ2 => ((den G y).e ρ1 μ2).bind fun v μ3 => (v.keep μ3).bind fun d μ4 => .ok [d] μ4) (wipeR ρ (vs.map (·.2))) ds μ1).noX.bind fun ys μ2 => .ok (.fre ys) μ2
      else .stuck := rfl
theorem e_rev : (den G (.rev x)).e ρ μ = ((den G x).e ρ μ).bind fun v μ1 => (look1 v μ1).bind fun a μ2 => R.of (revD a) μ2 := rfl
theorem e_fmt : (den G (.fmt x)).e ρ μ = ((den G x).e ρ μ).bind fun v μ1 => (look1 v μ1).bind fun a μ2 => (R.of (fmtD a) μ2).bind fun z μ3 => .ok (.dat (.str z)) μ3 := rfl
theorem e_jst : (den G (.jst x)).e ρ μ = ((den G x).j Str.empty ρ μ).bind fun z μ1 => .ok (.dat (.str z)) μ1 := rfl
theorem e_joi {s : Str} : (den G (.joi s x)).e ρ μ = ((den G x).e ρ μ).bind fun v μ1 => (look1 v μ1).bind fun a μ2 => (R.of (joinD s a) μ2).bind fun z μ3 => .ok (.dat (.str z)) μ3 := rfl
theorem e_lrg : (den G (.lrg x)).e ρ μ = ((den G x).e ρ μ).bind fun v μ1 => (asI v μ1).bind fun n μ2 => if smallI n && decide (n ≤ 10000000) then .ok (.fre (rangeD 0 n.toNat)) μ2 else .stuck := rfl
theorem j_nil {acc : Str} : (den G .nil).j acc ρ μ = .ok acc μ := rfl
theorem j_cons {acc z : Str} {μ1 : List Cell} (h : (den G x).e ρ μ = .ok (.dat (.str z)) μ1) (h2 : (acc ++ z).length ≤ sizeLine) : (den G (.cons x y)).j acc ρ μ = (den G y).j (acc ++ z) ρ μ1 := by
  show (((den G x).e ρ μ).bind fun v μ1 => match v with
        | .dat (.str z) => if (acc ++ z).length ≤ sizeLine then (den G y).j (acc ++ z) ρ μ1 else R.stuck
        | _ => R.stuck) = _
  rw [h]
  show (if (acc ++ z).length ≤ sizeLine then (den G y).j (acc ++ z) ρ μ1 else R.stuck) = _
  rw [if_pos h2]
theorem s_aug {o : Operator} {p : Int} (h : slotI ρ i = some p) : (den G (.aug i o x)).s ρ μ = (((den G x).e ρ μ).bind fun w μ3 => (asI w μ3).bind fun q μ4 => R.of (augI o p q) μ4).st ρ fun v μ1 => .nx (ρ.set i (some (.dat (.int v)))) μ1 := by
  show (match slotI ρ i with
      | none => RS.stuck
      | some p => (((den G x).e ρ μ).bind fun w μ3 => (asI w μ3).bind fun q μ4 => R.of (augI o p q) μ4).st ρ fun v μ1 => .nx (ρ.set i (some (.dat (.int v)))) μ1) = _
  rw [h]
-- lists of expressions
theorem k_nil : (den G .nil).k ρ μ = .ok [] μ := rfl
theorem k_cons : (den G (.cons x y)).k ρ μ = ((den G x).e ρ μ).bind fun v μ1 => (v.keep μ1).bind fun d μ2 => ((den G y).k ρ μ2).bind fun ds μ3 => .ok (d :: ds) μ3 := rfl
theorem bl_nil : (den G .nil).b ρ μ = .ok [] μ := rfl
theorem bl_cons : (den G (.cons x y)).b ρ μ = ((den G x).e ρ μ).bind fun v μ1 => ((den G y).b ρ μ1).bind fun vs μ2 => .ok (v :: vs) μ2 := rfl
theorem a_nil : (den G .nil).a ρ μ = .ok [] μ := rfl
theorem a_cons : (den G (.cons x y)).a ρ μ = ((den G x).av ρ μ).bind fun v μ1 => ((den G y).a ρ μ1).bind fun vs μ2 => .ok (v :: vs) μ2 := rfl
theorem o_nil : (den G .nil).o ρ μ = .ok none μ := rfl
theorem o_var : (den G (.var i)).o ρ μ = (slot ρ i μ).bind intO := rfl
theorem o_lit {d : D} : (den G (.lit d)).o ρ μ = (R.ok (.dat d) μ).bind intO := rfl
theorem intO_i {n : Int} : intO (.dat (.int n)) μ = .ok (some n) μ := rfl
theorem av_dat {d : D} : avOf (.dat d) μ = .ok (.dat d) μ := rfl
theorem av_fre {d : List D} : avOf (.fre d) μ = .ok (.dat (.list d)) μ := rfl
theorem av_own : avOf (.own k) μ = .ok (.tmp k) μ := rfl
theorem av_var : (den G (.var i)).av ρ μ = (slot ρ i μ).bind avOf := rfl
theorem av_lit {d : D} : (den G (.lit d)).av ρ μ = .ok (.dat d) μ := rfl
theorem av_glb {n : Str} {d : D} : (den G (.glb n d)).av ρ μ = .ok (.dat d) μ := rfl
theorem av_bin {o : Operator} : (den G (.bin o x y)).av ρ μ = ((den G (.bin o x y)).e ρ μ).bind avOf := rfl
theorem av_idx : (den G (.idx x y)).av ρ μ = ((den G (.idx x y)).e ρ μ).bind avOf := rfl
theorem av_lst : (den G (.lst x)).av ρ μ = ((den G (.lst x)).e ρ μ).bind avOf := rfl
theorem av_tup : (den G (.tup x)).av ρ μ = ((den G (.tup x)).e ρ μ).bind avOf := rfl
theorem av_cal : (den G (.cal j x)).av ρ μ = ((den G (.cal j x)).e ρ μ).bind avOf := rfl
theorem av_blt {b : Blt} : (den G (.blt b x)).av ρ μ = ((den G (.blt b x)).e ρ μ).bind avOf := rfl
theorem av_lend : (den G (.lend i)).av ρ μ = (slot ρ i μ).bind fun v μ1 => match v with
      | .own k => .ok (.own k) μ1
      | _ => .stuck := rfl
-- iterables
theorem i_seq : (den G (.iSeq x)).i ρ μ = ((den G x).e ρ μ).bind fun v μ1 => (v.keep μ1).bind fun d μ2 => R.of (itemsD d) μ2 := rfl
theorem i_rng : (den G (.iRng x)).i ρ μ = ((den G x).b ρ μ).bind fun vs μ1 => (R.of (looks μ1 vs) μ1).bind fun ds μ2 => R.of (rngD ds) μ2 := rfl
-- slots
theorem sl_0 {v : SV} {r : Rho} : slot (some v :: r) 0 μ = .ok v μ := rfl
theorem sl_s {v : Option SV} {r : Rho} : slot (v :: r) (i + 1) μ = slot r i μ := rfl
theorem ow_0 {r : Rho} : ownS (some (.own k) :: r) 0 = some k := rfl
theorem ow_s {v : Option SV} {r : Rho} : ownS (v :: r) (i + 1) = ownS r i := rfl
theorem lks_nil : looks μ [] = some [] := rfl
theorem lks_dat {d : D} {vs : List SV} {ds : List D} (h : looks μ vs = some ds) : looks μ (.dat d :: vs) = some (d :: ds) := by
  show (match some d, looks μ vs with
    | some d, some ds => some (d :: ds)
    | _, _ => none) = _
  rw [h]
theorem lks_fre {d : List D} {vs : List SV} {ds : List D} (h : looks μ vs = some ds) : looks μ (.fre d :: vs) = some (.list d :: ds) := by
  show (match some (PyData.list d), looks μ vs with
    | some d, some ds => some (d :: ds)
    | _, _ => none) = _
  rw [h]
-- calls
theorem call_dat {c : Ce} {vs : List AV} {as : List Arg} {r : Rv} (h1 : owns vs = []) (h2 : avArgs μ vs = some as) (h3 : vs.length = c.arity) (h4 : c.sem as = some (.ret r [])) (h5 : r.noL = true ∨ tmps vs = []) : callR c vs μ = .ok r.sv μ := by
  unfold callR
  rw [h1, if_pos ⟨List.nodup_nil, rfl, h3⟩, h2]
  dsimp only
  rw [h4]
  dsimp only
  rw [if_pos (show ([] : List (List D)).length = ([] : List Nat).length from rfl)]
  rcases h5 with h5 | h5
  · rw [h5]
    rfl
  · rw [h5]
    cases r.noL <;> rfl
theorem call_exc {c : Ce} {vs : List AV} {as : List Arg} {x : Str} (h1 : owns vs = []) (h2 : avArgs μ vs = some as) (h3 : vs.length = c.arity) (h4 : c.sem as = some (.exc ⟨x, []⟩ [])) : callR c vs μ = .exc ⟨x, []⟩ μ := by
  unfold callR
  rw [h1, if_pos ⟨List.nodup_nil, rfl, h3⟩, h2]
  dsimp only
  rw [h4]
  rfl
theorem op_eq {s : CS} (h : s ≠ .nest) : s.op = s := by cases s <;> first | rfl | exact absurd rfl h
theorem call_own {c : Ce} {vs : List AV} {as : List Arg} {r : Rv} {ds' : List D} {cl : Cell} (h1 : owns vs = [k]) (ht : tmps vs = []) (h2 : avArgs μ vs = some as) (h3 : vs.length = c.arity) (h4 : c.sem as = some (.ret r [ds'])) (hk : μ[k]? = some cl) (hn : cl.st ≠ .nest := by exact fun z => nomatch z) : callR c vs μ = .ok r.sv (μ.set k ⟨cl.st, ds'⟩) := by
  unfold callR
  rw [h1, ht, if_pos ⟨by simp, rfl, h3⟩, h2]
  dsimp only
  rw [h4]
  dsimp only
  rw [if_pos (show [ds'].length = [k].length from rfl)]
  have e : wback [k] [ds'] μ = μ.set k ⟨cl.st, ds'⟩ := by
    simp [wback, hk, op_eq hn]
  rw [e]
  cases (r.noL && [ds'].all noLists) <;> rfl
theorem ka_dat {d : D} : keepA (.dat d) = .dat d := rfl
theorem ka_fre {d : List D} : keepA (.fre d) = .dat (.list d) := rfl
theorem ka_own : keepA (.own k) = .own k := rfl
theorem tn_fre {ds : List D} : toName true (.fre ds) μ = .ok (.own μ.length) (μ ++ [⟨.live, ds⟩]) := rfl
theorem tn_own : toName true (.own k) μ = .ok (.own k) μ := rfl
theorem pn_o {ts : List Bool} {vs : List SV} {c : List SV → List Cell → RS} : parN (true :: ts) (.own k :: vs) μ ρ c = parN ts vs μ ρ fun ws μ2 => c (.own k :: ws) μ2 := rfl
theorem tg_nm {d : D} : (Tg.nm i).f.one d ρ = some (ρ.set i (some (.dat d))) := rfl
section
variable {asg : D → Rho → Option Rho} {b : Rho → List Cell → RS} {d : D} {ds : List D} {ρ1 ρ2 : Rho} {μ2 : List Cell}
theorem for_nil : forR asg b [] ρ μ = .nx ρ μ := rfl
theorem for_nx (h1 : asg d ρ = some ρ1) (h2 : b ρ1 μ = .nx ρ2 μ2) : forR asg b (d :: ds) ρ μ = forR asg b ds ρ2 μ2 := by
  show (match asg d ρ with
    | none => RS.stuck
    | some ρ1 => match b ρ1 μ with
      | .nx ρ2 μ2 => forR asg b ds ρ2 μ2
      | .ct ρ2 μ2 => forR asg b ds ρ2 μ2
      | .bk ρ2 μ2 => .nx ρ2 μ2
      | r => r) = _
  rw [h1]
  dsimp only
  rw [h2]
theorem for_ct (h1 : asg d ρ = some ρ1) (h2 : b ρ1 μ = .ct ρ2 μ2) : forR asg b (d :: ds) ρ μ = forR asg b ds ρ2 μ2 := by
  show (match asg d ρ with
    | none => RS.stuck
    | some ρ1 => match b ρ1 μ with
      | .nx ρ2 μ2 => forR asg b ds ρ2 μ2
      | .ct ρ2 μ2 => forR asg b ds ρ2 μ2
      | .bk ρ2 μ2 => .nx ρ2 μ2
      | r => r) = _
  rw [h1]
  dsimp only
  rw [h2]
theorem for_rt {v : SV} (h1 : asg d ρ = some ρ1) (h2 : b ρ1 μ = .rt v μ2) : forR asg b (d :: ds) ρ μ = .rt v μ2 := by
  show (match asg d ρ with
    | none => RS.stuck
    | some ρ1 => match b ρ1 μ with
      | .nx ρ2 μ2 => forR asg b ds ρ2 μ2
      | .ct ρ2 μ2 => forR asg b ds ρ2 μ2
      | .bk ρ2 μ2 => .nx ρ2 μ2
      | r => r) = _
  rw [h1]
  dsimp only
  rw [h2]
end
theorem bi_add {m n : Int} : bin2 .Add (.int m) (.int n) = some (.dat (.int (m + n))) := rfl
theorem bi_sub {m n : Int} : bin2 .Sub (.int m) (.int n) = some (.dat (.int (m - n))) := rfl
theorem bi_mul {m n : Int} (h : okMul m n = true) : bin2 .Mult (.int m) (.int n) = some (.dat (.int (m * n))) := if_pos h
theorem bi_div {m n : Int} (h : okDiv n = true) : bin2 .FloorDiv (.int m) (.int n) = some (.dat (.int (m / n))) := if_pos h
theorem bi_mod {m n : Int} (h : 0 < n) : bin2 .Mod (.int m) (.int n) = some (.dat (.int (m % n))) := if_pos (decide_eq_true h)
theorem bi_pow {m n : Int} (h : okPow m n = true) : bin2 .Pow (.int m) (.int n) = some (.dat (.int (m ^ n.toNat))) := if_pos h
theorem bi_cat {m n : List D} (h : m.length + n.length ≤ sizeLine) : bin2 .Add (.list m) (.list n) = some (.fre (m ++ n)) := if_pos h
theorem cm_lt {m n : Int} : cmp2 .Lt (.int m) (.int n) = some (decide (m < n)) := rfl
theorem cm_le {m n : Int} : cmp2 .LtE (.int m) (.int n) = some (decide (m ≤ n)) := rfl
theorem cm_gt {m n : Int} : cmp2 .Gt (.int m) (.int n) = some (decide (n < m)) := rfl
theorem cm_ge {m n : Int} : cmp2 .GtE (.int m) (.int n) = some (decide (n ≤ m)) := rfl
theorem cm_eq {m n : D} (h0 : ∀ a, m ≠ .str a) (h1 : SeqAt.shaped m = true) (h2 : SeqAt.shaped n = true) : cmp2 .Eq m n = some (PyData.eqv m n) := by
  have e : cmp2 .Eq m n = if (SeqAt.shaped m && SeqAt.shaped n) = true then some (PyData.eqv m n) else none := by
    cases m <;> first
      | rfl
      | exact absurd rfl (h0 _)
  rw [e, h1, h2]
  rfl
theorem cm_ne {m n : D} (h0 : ∀ a, m ≠ .str a) (h1 : SeqAt.shaped m = true) (h2 : SeqAt.shaped n = true) : cmp2 .NotEq m n = some (!PyData.eqv m n) := by
  have e : cmp2 .NotEq m n = if (SeqAt.shaped m && SeqAt.shaped n) = true then some (!PyData.eqv m n) else none := by
    cases m <;> first
      | rfl
      | exact absurd rfl (h0 _)
  rw [e, h1, h2]
  rfl
theorem cm_is {m : D} : cmp2 .Is m .none = some (isN m) := by cases m <;> rfl
theorem bt_len {a : List D} : bltD .len [.list a] = some (.dat (.int a.length)) := rfl
theorem bt_lenT {a : List D} : bltD .len [.tuple a] = some (.dat (.int a.length)) := rfl
theorem bt_int {n : Int} : bltD .int1 [.int n] = some (.dat (.int n)) := rfl
theorem bt_list {a : List D} : bltD .list1 [.list a] = some (.fre a) := rfl
theorem bt_tuple {a : List D} : bltD .tuple1 [.list a] = some (.dat (.tuple a)) := rfl
theorem bt_min {m n : Int} : bltD .min2 [.int m, .int n] = some (.dat (.int (if n < m then n else m))) := rfl
theorem rv_dat {d : D} : (Rv.dat d).sv = .dat d := rfl
theorem rv_fre {d : List D} : (Rv.fre d).sv = .fre d := rfl
section
variable {c c0 c1 c2 : Cell} {r : List Cell} {a b d e : D} {s : CS}
theorem lk_0 {ds : List D} : look1 (.own 0) (⟨.live, ds⟩ :: r) = .ok (.list ds) (⟨.live, ds⟩ :: r) := rfl
theorem lk_0a {ds : List D} : look1 (.own 0) (⟨.arg, ds⟩ :: r) = .ok (.list ds) (⟨.arg, ds⟩ :: r) := rfl
theorem lk_1 {ds : List D} : look1 (.own 1) (c0 :: ⟨.live, ds⟩ :: r) = .ok (.list ds) (c0 :: ⟨.live, ds⟩ :: r) := rfl
theorem lk_1a {ds : List D} : look1 (.own 1) (c0 :: ⟨.arg, ds⟩ :: r) = .ok (.list ds) (c0 :: ⟨.arg, ds⟩ :: r) := rfl
theorem lk_2 {ds : List D} : look1 (.own 2) (c0 :: c1 :: ⟨.live, ds⟩ :: r) = .ok (.list ds) (c0 :: c1 :: ⟨.live, ds⟩ :: r) := rfl
theorem lk_2a {ds : List D} : look1 (.own 2) (c0 :: c1 :: ⟨.arg, ds⟩ :: r) = .ok (.list ds) (c0 :: c1 :: ⟨.arg, ds⟩ :: r) := rfl
theorem i3_0 : idxD (.list [a, b, d]) (.int 0) = some a := rfl
theorem i3_1 : idxD (.list [a, b, d]) (.int 1) = some b := rfl
theorem i3_2 : idxD (.list [a, b, d]) (.int 2) = some d := rfl
theorem t3_1 : stiV 1 e (.own 0) (⟨.arg, [a, b, d]⟩ :: r) = .ok (⟨.arg, [a, e, d]⟩ :: r) (⟨.arg, [a, b, d]⟩ :: r) := rfl
theorem t3_2 : stiV 2 e (.own 0) (⟨.arg, [a, b, d]⟩ :: r) = .ok (⟨.arg, [a, b, e]⟩ :: r) (⟨.arg, [a, b, d]⟩ :: r) := rfl
end
theorem i_enu {v : SV} {a : List D} {μ1 μ2 : List Cell} (h : (den G x).e ρ μ = .ok v μ1) (h2 : v.keep μ1 = .ok (.list a) μ2) : (den G (.iEnu x)).i ρ μ = .ok (enuD 0 a) μ2 := by
  show (((den G x).e ρ μ).bind fun v μ1 => (v.keep μ1).bind fun d μ2 => match d with
      | .list a => R.ok (enuD 0 a) μ2
      | _ => .stuck) = _
  rw [h]
  show ((v.keep μ1).bind fun d μ2 => match d with
      | .list a => R.ok (enuD 0 a) μ2
      | _ => .stuck) = _
  rw [h2]
  rfl
theorem i_zip {v w : SV} {d e : D} {xs ys : List D} {μ1 μ2 μ3 μ4 : List Cell} (h : (den G x).e ρ μ = .ok v μ1) (h2 : v.keep μ1 = .ok d μ2) (h3 : (den G y).e ρ μ2 = .ok w μ3) (h4 : w.keep μ3 = .ok e μ4) (h5 : itemsD d = some xs) (h6 : itemsD e = some ys) :
    (den G (.iZip none x y)).i ρ μ = .ok (zipD xs ys) μ4 := by
  show (((den G x).e ρ μ).bind fun v μ1 => (v.keep μ1).bind fun d μ2 => ((den G y).e ρ μ2).bind fun w μ3 => (w.keep μ3).bind fun d' μ4 => (R.of (itemsD d) μ4).bind fun xs μ5 => (R.of (itemsD d') μ5).bind fun ys μ6 => if (none : Option Bool) = some true ∧ xs.length ≠ ys.length then .stuck else .ok (zipD xs ys) μ6) = _
  rw [h]
  show ((v.keep μ1).bind fun d μ2 => ((den G y).e ρ μ2).bind fun w μ3 => (w.keep μ3).bind fun d' μ4 => (R.of (itemsD d) μ4).bind fun xs μ5 => (R.of (itemsD d') μ5).bind fun ys μ6 => if (none : Option Bool) = some true ∧ xs.length ≠ ys.length then .stuck else .ok (zipD xs ys) μ6) = _
  rw [h2]
  show (((den G y).e ρ μ2).bind fun w μ3 => (w.keep μ3).bind fun d' μ4 => (R.of (itemsD d) μ4).bind fun xs μ5 => (R.of (itemsD d') μ5).bind fun ys μ6 => if (none : Option Bool) = some true ∧ xs.length ≠ ys.length then .stuck else .ok (zipD xs ys) μ6) = _
  rw [h3]
  show ((w.keep μ3).bind fun d' μ4 => (R.of (itemsD d) μ4).bind fun xs μ5 => (R.of (itemsD d') μ5).bind fun ys μ6 => if (none : Option Bool) = some true ∧ xs.length ≠ ys.length then .stuck else .ok (zipD xs ys) μ6) = _
  rw [h4]
  show ((R.of (itemsD d) μ4).bind fun xs μ5 => (R.of (itemsD e) μ5).bind fun ys μ6 => if (none : Option Bool) = some true ∧ xs.length ≠ ys.length then .stuck else .ok (zipD xs ys) μ6) = _
  rw [h5]
  show ((R.of (itemsD e) μ4).bind fun ys μ6 => if (none : Option Bool) = some true ∧ xs.length ≠ ys.length then .stuck else .ok (zipD xs ys) μ6) = _
  rw [h6]
  rfl
theorem not_shut {s : CS} (h1 : s ≠ .froz) (h2 : s ≠ .nest) : ¬ s.shut = true := by cases s <;> simp_all [CS.shut]
theorem sti_of {c : Cell} {n : Int} {d : D} (h : μ[k]? = some c) (h1 : c.st ≠ .froz) (h2 : ixN c.ds.length n = some j) (hn : c.st ≠ .nest := by exact fun z => nomatch z) : stiV n d (.own k) μ = .ok (μ.set k ⟨c.st, c.ds.set j d⟩) μ := by
  show R.of (stiR k n d μ) μ = _
  unfold stiR
  rw [h]
  dsimp only
  rw [if_neg (not_shut h1 hn), h2]
  rfl
theorem app_of {c : Cell} {d : D} (h : μ[k]? = some c) (h1 : c.st ≠ .froz) (h2 : c.ds.length < 10000000) (hn : c.st ≠ .nest := by exact fun z => nomatch z) : appR k d μ = some (μ.set k ⟨c.st, c.ds ++ [d]⟩) := by
  unfold appR
  rw [h]
  dsimp only
  rw [if_neg (not_shut h1 hn), if_pos h2]
theorem pn_nil {c : List SV → List Cell → RS} : parN [] [] μ ρ c = c [] μ := rfl
theorem pn_f {ts : List Bool} {d : D} {vs : List SV} {c : List SV → List Cell → RS} : parN (false :: ts) (.dat d :: vs) μ ρ c = parN ts vs μ ρ fun ws μ2 => c (.dat d :: ws) μ2 := rfl
theorem pn_ff {ts : List Bool} {d : List D} {vs : List SV} {c : List SV → List Cell → RS} : parN (false :: ts) (.fre d :: vs) μ ρ c = parN ts vs μ ρ fun ws μ2 => c (.dat (.list d) :: ws) μ2 := rfl
theorem pn_fo {ts : List Bool} {vs : List SV} {c : List SV → List Cell → RS} : parN (false :: ts) (.own k :: vs) μ ρ c = parN ts vs μ ρ fun ws μ2 => c (.own k :: ws) μ2 := rfl
theorem pn_t {ts : List Bool} {ds : List D} {vs : List SV} {c : List SV → List Cell → RS} : parN (true :: ts) (.fre ds :: vs) μ ρ c = parN ts vs (μ ++ [⟨.live, ds⟩]) ρ fun ws μ2 => c (.own μ.length :: ws) μ2 := rfl
theorem st_nil : sets [] [] ρ = some ρ := rfl
theorem st_cons {is : List Nat} {v : SV} {vs : List SV} : sets (i :: is) (v :: vs) ρ = sets is vs (ρ.set i (some v)) := rfl
theorem s_try_ok {ρ' : Rho} (h : (den G x).s ρ μ = .nx ρ' μ') : (den G (.tryM x y)).s ρ μ = .nx ρ' μ' := by
  show (match (den G x).s ρ μ with
      | .exc x ρ1 μ1 => if G.exc.contains x.cls = true then (match hdlPick G.sub x.cls (den G y).h with
        | some h => (h ρ1 μ1).noX
        | none => .exc x ρ1 μ1) else .stuck
      | r => r) = _
  rw [h]
theorem s_try_rt {v : SV} (h : (den G x).s ρ μ = .rt v μ') : (den G (.tryM x y)).s ρ μ = .rt v μ' := by
  show (match (den G x).s ρ μ with
      | .exc x ρ1 μ1 => if G.exc.contains x.cls = true then (match hdlPick G.sub x.cls (den G y).h with
        | some h => (h ρ1 μ1).noX
        | none => .exc x ρ1 μ1) else .stuck
      | r => r) = _
  rw [h]
theorem s_try_exc {e : Exn} {ρ' : Rho} {m : Rho → List Cell → RS} (h : (den G x).s ρ μ = .exc e ρ' μ') (h1 : G.exc.contains e.cls = true) (h2 : hdlPick G.sub e.cls (den G y).h = some m) : (den G (.tryM x y)).s ρ μ = (m ρ' μ').noX := by
  show (match (den G x).s ρ μ with
      | .exc x ρ1 μ1 => if G.exc.contains x.cls = true then (match hdlPick G.sub x.cls (den G y).h with
        | some h => (h ρ1 μ1).noX
        | none => .exc x ρ1 μ1) else .stuck
      | r => r) = _
  rw [h]
  dsimp only
  rw [if_pos h1, h2]
theorem lcR_map {asg : D → Rho → Option Rho} {te : Rho → List Cell → R (List D)} {f : D → D} : ∀ {ds : List D}, (∀ d ∈ ds, ∃ ρ1, asg d ρ = some ρ1 ∧ te ρ1 μ = .ok [f d] μ) → lcR asg (fun _ μ2 => .ok true μ2) te ρ ds μ = .ok (ds.map f) μ
  | [], _ => rfl
  | d :: ds, h => by
    obtain ⟨ρ1, h1, h2⟩ := h d (List.mem_cons_self ..)
    have ih := lcR_map (ds := ds) fun e he => h e (List.mem_cons_of_mem _ he)
    show (match asg d ρ with
    | none => R.stuck
    | some ρ1 => (R.ok true μ).bind fun b μ1 => match b with
      | true => (te ρ1 μ1).bind fun y μ2 => (lcR asg (fun _ μ2 => .ok true μ2) te ρ ds μ2).bind fun ys μ3 => .ok (y ++ ys) μ3
      | false => lcR asg (fun _ μ2 => .ok true μ2) te ρ ds μ1) = _
    rw [h1]
    show ((te ρ1 μ).bind fun y μ2 => (lcR asg (fun _ μ2 => .ok true μ2) te ρ ds μ2).bind fun ys μ3 => .ok (y ++ ys) μ3) = _
    rw [h2]
    show ((lcR asg (fun _ μ2 => .ok true μ2) te ρ ds μ).bind fun ys μ3 => .ok ([f d] ++ ys) μ3) = _
    rw [ih]
    rfl
theorem toB_map {α : Type} {f : α → Bool} : ∀ (l : List α), toBools (l.map fun d => .bool (f d)) = some (l.map f)
  | [] => rfl
  | d :: l => by
    show (toBools (l.map fun d => .bool (f d))).map (f d :: ·) = _
    rw [toB_map l]
    rfl
theorem bt_all {α : Type} {f : α → Bool} {l : List α} : bltD .all1 [.list (l.map fun d => .bool (f d))] = some (.dat (.bool (l.all f))) := by
  show (toBools (l.map fun d => .bool (f d))).map (fun bs => SV.dat (.bool (bs.all id))) = _
  rw [toB_map]
  show some (SV.dat (.bool ((l.map f).all id))) = _
  rw [List.all_map]
  rfl
theorem s_app2 : (den G (.app i x)).s ρ μ = match ownS ρ i with
      | some k => (((den G x).e ρ μ).bind fun v μ1 => (v.keep μ1).bind fun d μ2 => R.of (appR k d μ2) μ2).st ρ fun r _ => .nx ρ r
      | none => .stuck := rfl
theorem beqD {α : Type} [DecidableEq α] [BEq α] [LawfulBEq α] (a b : α) : (a == b) = decide (a = b) := by
  by_cases h : a = b
  · subst h
    simp
  · simp [h]
theorem sh_int (a : Int) : SeqAt.shaped (.int a) = true := by simp [SeqAt.shaped, PyData.canLay0, PyData.depth]
theorem sh_bool (a : Bool) : SeqAt.shaped (.bool a) = true := by simp [SeqAt.shaped, PyData.canLay0, PyData.depth]
theorem cm_eqi {a b : Int} : cmp2 .Eq (.int a) (.int b) = some (decide (a = b)) := by
  rw [cm_eq (m := .int a) (by intro b z; cases z) (sh_int a) (sh_int b)]
  simp [PyData.eqv, beqD]
theorem cm_nei {a b : Int} : cmp2 .NotEq (.int a) (.int b) = some (!decide (a = b)) := by
  rw [cm_ne (m := .int a) (by intro b z; cases z) (sh_int a) (sh_int b)]
  simp [PyData.eqv, beqD]
theorem cm_nes {a b : Str} : cmp2 .NotEq (.str a) (.str b) = some (!decide (a = b)) := rfl
theorem cm_eqs {a b : Str} : cmp2 .Eq (.str a) (.str b) = some (decide (a = b)) := rfl
theorem cm_neb {a b : Bool} : cmp2 .NotEq (.bool a) (.bool b) = some (!decide (a = b)) := by
  rw [cm_ne (m := .bool a) (by intro b z; cases z) (sh_bool a) (sh_bool b)]
  cases a <;> cases b <;> simp [PyData.eqv]
/-! ### repr of ints -/
theorem text_len : ∀ (ts : List Str) (k : Nat) (acc : Str) (B : Nat), (∀ t ∈ ts, t.length ≤ B) → (textFrom k acc ts).length ≤ acc.length + (B + 2) * ts.length
  | [], k, acc, B, _ => by simp [textFrom]
  | t :: ts, k, acc, B, h => by
    have h1 := h t (List.mem_cons_self ..)
    have ih := text_len ts (k + 1) (acc ++ (if k > 0 then ", " else "" : String) ++ t) B fun u hu => h u (List.mem_cons_of_mem _ hu)
    show (textFrom (k + 1) (acc ++ (if k > 0 then ", " else "" : String) ++ t) ts).length ≤ _
    have e : (acc ++ (if k > 0 then ", " else "" : String) ++ t).length ≤ acc.length + 2 + t.length := by
      rw [strLen_append, strLen_append]
      split
      · exact Nat.le_refl _
      · have : ((Str.ofString "") : Str).length = 0 := rfl
        omega
    rw [List.length_cons, Nat.mul_add, Nat.mul_one]
    omega
theorem repr_ints {l : List Int} (h : ∀ x ∈ l, x.natAbs < 2 ^ 1000) (hl : l.length ≤ 100) : bltD .repr1 [.list (l.map PyData.int)] = some (.dat (.str (PyData.list (l.map PyData.int)).shown)) := by
  have lg : ∀ x ∈ l, x.natAbs.log2 < 1920 := fun x hx => by
    by_cases z : x.natAbs = 0
    · rw [z]
      decide
    · have := (Nat.log2_lt z).mpr (h x hx)
      omega
  have s1 : ∀ l : List Int, (∀ x ∈ l, x.natAbs.log2 < 1920) → PyData.showableAll (l.map PyData.int) = true ∧ PyData.hasDictAll (l.map PyData.int) = false ∧ ∀ t ∈ PyData.shownAll (l.map PyData.int), t.length ≤ 1921 := fun l => by
    induction l with
    | nil => exact fun _ => ⟨by simp [PyData.showableAll], by simp [PyData.hasDictAll], fun t ht => by simp [PyData.shownAll] at ht⟩
    | cons x l ih =>
      intro q
      obtain ⟨i1, i2, i3⟩ := ih fun y hy => q y (List.mem_cons_of_mem _ hy)
      have qx := q x (List.mem_cons_self ..)
      refine ⟨by simp [PyData.showableAll, PyData.showable, qx, i1], by simp [PyData.hasDictAll, PyData.hasDict, i2], fun t ht => ?_⟩
      rw [List.map_cons] at ht
      simp only [PyData.shownAll, List.mem_cons] at ht
      rcases ht with rfl | ht
      · simp only [PyData.shown]
        exact int_text_len_1921 qx
      · exact i3 t ht
  obtain ⟨q1, q2, q3⟩ := s1 l lg
  have sl : ∀ l : List D, (PyData.shownAll l).length = l.length := fun l => by
    induction l with
    | nil => rfl
    | cons x l ih => simp [PyData.shownAll, ih]
  have ln : (PyData.list (l.map PyData.int)).shown.length ≤ 1000000 := by
    simp only [PyData.shown, listText]
    rw [strLen_append]
    have := text_len (PyData.shownAll (l.map PyData.int)) 0 "[" 1921 q3
    rw [sl, List.length_map] at this
    have e1 : ((Str.ofString "[") : Str).length = 1 := rfl
    have e2 : ((Str.ofString "]") : Str).length = 1 := rfl
    omega
  have dp : (PyData.list (l.map PyData.int)).depth ≤ 64 := by
    have da : ∀ l : List Int, PyData.depthAll (l.map PyData.int) ≤ 1 := fun l => by
      induction l with
      | nil => simp [PyData.depthAll]
      | cons x l ih => simp [PyData.depthAll, PyData.depth, ih]
    have := da l
    simp only [PyData.depth]
    omega
  show (if ((PyData.list (l.map PyData.int)).showable && !(PyData.list (l.map PyData.int)).hasDict && decide ((PyData.list (l.map PyData.int)).depth ≤ 64) && decide ((PyData.list (l.map PyData.int)).shown.length ≤ 1000000)) = true then _ else _) = _
  rw [if_pos]
  simp [PyData.showable, PyData.hasDict, q1, q2, dp, ln]
end
end DL

set_option maxHeartbeats 1000000
/-! DL27: more of what a text does, step by step; modes and axes as data. -/
namespace DL
open PySem PySem.Spec PyProof.Rows L2
section
variable {G : Ge} {ρ : Rho} {μ μ' : List Cell} {x y z : IR} {i j k : Nat} {α β : Type}
theorem e_lc2 {vs : List (Str × Nat)} {vs1 : List Nat} {tg tg' : Tg} {it it' e : IR} : (den G (.lc2 vs vs1 tg it tg' it' e)).e ρ μ = ((den G it).i ρ μ).noX.bind fun ds μ1 =>
      (lcR tg.f.one (fun _ μ2 => .ok true μ2) (fun ρ1 μ2 => ((den G it').i ρ1 μ2).noX.bind fun ds' μ3 =>
        lcR tg'.f.one (fun _ μ4 => .ok true μ4) (fun ρ2 μ4 => ((den G e).e ρ2 μ4).bind fun v μ5 => (v.keep μ5).bind fun d μ6 => .ok [d] μ6) (wipeR ρ1 vs1) ds' μ3) (wipeR ρ (vs.map (·.2))) ds μ1).noX.bind fun ys μ2 => if ys.length ≤ 10000000 then .ok (.fre ys) μ2 else .stuck := rfl
/-- a comprehension with a test -/
theorem e_lc1 {vs : List (Str × Nat)} {tg : Tg} (h : z ≠ .nil) : (den G (.lc vs tg x z y)).e ρ μ = ((den G x).i ρ μ).noX.bind fun ds μ1 => if ds.length ≤ 10000000 then
        (lcR tg.f.one (testR (den G z).e) (fun ρ1 μ2 => ((den G y).e ρ1 μ2).bind fun v μ3 => (v.keep μ3).bind fun d μ4 => .ok [d] μ4) (wipeR ρ (vs.map (·.2))) ds μ1).noX.bind fun ys μ2 => .ok (.fre ys) μ2
      else .stuck := by
  cases z <;> first
    | exact absurd rfl h
    | rfl
section
variable {asg : D → Rho → Option Rho} {te : Rho → List Cell → R (List D)} {tt : Rho → List Cell → R Bool}
theorem lcR_id : ∀ {ds : List D}, (∀ d ∈ ds, ∃ ρ1, asg d ρ = some ρ1 ∧ te ρ1 μ = .ok [d] μ) → lcR asg (fun _ μ2 => .ok true μ2) te ρ ds μ = .ok ds μ := fun {ds} h => by
  have := lcR_map (f := id) h
  rwa [List.map_id] at this
theorem lc_step {d : D} {ds : List D} {ρ1 : Rho} {b : Bool} {y ys : List D} {μ2 μ3 μ4 : List Cell} (h1 : asg d ρ = some ρ1) (h2 : tt ρ1 μ = .ok true μ2) (h3 : te ρ1 μ2 = .ok y μ3) (h4 : lcR asg tt te ρ ds μ3 = .ok ys μ4) : lcR asg tt te ρ (d :: ds) μ = .ok (y ++ ys) μ4 := by
  show (match asg d ρ with
    | none => R.stuck
    | some ρ1 => (tt ρ1 μ).bind fun b μ1 => match b with
      | true => (te ρ1 μ1).bind fun y μ2 => (lcR asg tt te ρ ds μ2).bind fun ys μ3 => .ok (y ++ ys) μ3
      | false => lcR asg tt te ρ ds μ1) = _
  rw [h1]
  show ((tt ρ1 μ).bind fun b μ1 => match b with
      | true => (te ρ1 μ1).bind fun y μ2 => (lcR asg tt te ρ ds μ2).bind fun ys μ3 => .ok (y ++ ys) μ3
      | false => lcR asg tt te ρ ds μ1) = _
  rw [h2]
  show ((te ρ1 μ2).bind fun y μ2 => (lcR asg tt te ρ ds μ2).bind fun ys μ3 => .ok (y ++ ys) μ3) = _
  rw [h3]
  show ((lcR asg tt te ρ ds μ3).bind fun ys μ3 => .ok (y ++ ys) μ3) = _
  rw [h4]
  rfl
theorem lc_skip {d : D} {ds : List D} {ρ1 : Rho} {ys : List D} {μ2 μ4 : List Cell} (h1 : asg d ρ = some ρ1) (h2 : tt ρ1 μ = .ok false μ2) (h4 : lcR asg tt te ρ ds μ2 = .ok ys μ4) : lcR asg tt te ρ (d :: ds) μ = .ok ys μ4 := by
  show (match asg d ρ with
    | none => R.stuck
    | some ρ1 => (tt ρ1 μ).bind fun b μ1 => match b with
      | true => (te ρ1 μ1).bind fun y μ2 => (lcR asg tt te ρ ds μ2).bind fun ys μ3 => .ok (y ++ ys) μ3
      | false => lcR asg tt te ρ ds μ1) = _
  rw [h1]
  show ((tt ρ1 μ).bind fun b μ1 => match b with
      | true => (te ρ1 μ1).bind fun y μ2 => (lcR asg tt te ρ ds μ2).bind fun ys μ3 => .ok (y ++ ys) μ3
      | false => lcR asg tt te ρ ds μ1) = _
  rw [h2]
  exact h4
theorem lcR_flat {f : D → List D} : ∀ {ds : List D}, (∀ d ∈ ds, ∃ ρ1, asg d ρ = some ρ1 ∧ te ρ1 μ = .ok (f d) μ) → lcR asg (fun _ μ2 => .ok true μ2) te ρ ds μ = .ok (ds.flatMap f) μ
  | [], _ => rfl
  | d :: ds, h => by
    obtain ⟨ρ1, h1, h2⟩ := h d (List.mem_cons_self ..)
    rw [List.flatMap_cons]
    exact lc_step (b := true) h1 rfl h2 (lcR_flat fun e he => h e (List.mem_cons_of_mem _ he))
/-- some of them, each by a function -/
theorem lcR_filt {p : D → Bool} {f : D → D} : ∀ {ds : List D}, (∀ d ∈ ds, ∃ ρ1, asg d ρ = some ρ1 ∧ tt ρ1 μ = .ok (p d) μ ∧ (p d = true → te ρ1 μ = .ok [f d] μ)) → lcR asg tt te ρ ds μ = .ok ((ds.filter p).map f) μ
  | [], _ => rfl
  | d :: ds, h => by
    obtain ⟨ρ1, h1, h2, h3⟩ := h d (List.mem_cons_self ..)
    have ih := lcR_filt (ds := ds) fun e he => h e (List.mem_cons_of_mem _ he)
    cases hp : p d with
    | true =>
      rw [hp] at h2
      rw [List.filter_cons_of_pos hp, List.map_cons]
      exact lc_step (b := true) h1 h2 (h3 hp) ih
    | false =>
      rw [hp] at h2
      rw [List.filter_cons_of_neg (by rw [hp]; exact Bool.false_ne_true)]
      exact lc_skip h1 h2 ih
end
theorem lc2_ok {vs : List (Str × Nat)} {vs1 : List Nat} {tg tg' : Tg} {it it' e : IR} {ds ys : List D} {μ1 μ2 : List Cell} (h1 : (den G it).i ρ μ = .ok ds μ1)
    (h2 : lcR tg.f.one (fun _ μ2 => .ok true μ2) (fun ρ1 μ2 => ((den G it').i ρ1 μ2).noX.bind fun ds' μ3 =>
        lcR tg'.f.one (fun _ μ4 => .ok true μ4) (fun ρ2 μ4 => ((den G e).e ρ2 μ4).bind fun v μ5 => (v.keep μ5).bind fun d μ6 => .ok [d] μ6) (wipeR ρ1 vs1) ds' μ3) (wipeR ρ (vs.map (·.2))) ds μ1 = .ok ys μ2) (h3 : ys.length ≤ 10000000) :
    (den G (.lc2 vs vs1 tg it tg' it' e)).e ρ μ = .ok (.fre ys) μ2 := by
  rw [e_lc2, h1, nox_ok, b_ok, h2, nox_ok, b_ok, if_pos h3]
theorem lc_ok {vs : List (Str × Nat)} {tg : Tg} {ds ys : List D} {μ1 μ2 : List Cell} (h1 : (den G x).i ρ μ = .ok ds μ1)
    (h2 : lcR tg.f.one (fun _ μ2 => .ok true μ2) (fun ρ1 μ2 => ((den G y).e ρ1 μ2).bind fun v μ3 => (v.keep μ3).bind fun d μ4 => .ok [d] μ4) (wipeR ρ (vs.map (·.2))) ds μ1 = .ok ys μ2) (h3 : ds.length ≤ 10000000) :
    (den G (.lc vs tg x .nil y)).e ρ μ = .ok (.fre ys) μ2 := by
  rw [e_lc0, h1, nox_ok, b_ok, if_pos h3, h2, nox_ok, b_ok]
theorem lc_okT {vs : List (Str × Nat)} {tg : Tg} {ds ys : List D} {μ1 μ2 : List Cell} (h0 : z ≠ .nil) (h1 : (den G x).i ρ μ = .ok ds μ1)
    (h2 : lcR tg.f.one (testR (den G z).e) (fun ρ1 μ2 => ((den G y).e ρ1 μ2).bind fun v μ3 => (v.keep μ3).bind fun d μ4 => .ok [d] μ4) (wipeR ρ (vs.map (·.2))) ds μ1 = .ok ys μ2) (h3 : ds.length ≤ 10000000) :
    (den G (.lc vs tg x z y)).e ρ μ = .ok (.fre ys) μ2 := by
  rw [e_lc1 h0, h1, nox_ok, b_ok, if_pos h3, h2, nox_ok, b_ok]
/-- what a comprehension's element is worth -/
theorem te_ok {e : IR} {v : SV} {d : D} {μ1 μ2 : List Cell} (h : (den G e).e ρ μ = .ok v μ1) (h2 : v.keep μ1 = .ok d μ2) : (((den G e).e ρ μ).bind fun v μ3 => (v.keep μ3).bind fun d μ4 => R.ok [d] μ4) = .ok [d] μ2 := by
  rw [h, b_ok, h2, b_ok]
theorem av_neg : (den G (.neg x)).av ρ μ = ((den G (.neg x)).e ρ μ).bind avOf := rfl
theorem av_nt : (den G (.nt x)).av ρ μ = ((den G (.nt x)).e ρ μ).bind avOf := rfl
theorem av_cmp {o : CmpOp} : (den G (.cmp o x y)).av ρ μ = ((den G (.cmp o x y)).e ρ μ).bind avOf := rfl
theorem av_ife : (den G (.ife x y z)).av ρ μ = ((den G (.ife x y z)).e ρ μ).bind avOf := rfl
theorem av_sli : (den G (.sli x y z)).av ρ μ = ((den G (.sli x y z)).e ρ μ).bind avOf := rfl
theorem av_lc {vs : List (Str × Nat)} {tg : Tg} : (den G (.lc vs tg x y z)).av ρ μ = ((den G (.lc vs tg x y z)).e ρ μ).bind avOf := rfl
theorem av_dct : (den G .dct).av ρ μ = ((den G .dct).e ρ μ).bind avOf := rfl
theorem av_bop {o : BoolOp} : (den G (.bop o x)).av ρ μ = ((den G (.bop o x)).e ρ μ).bind avOf := rfl
theorem o_bin {o : Operator} : (den G (.bin o x y)).o ρ μ = ((den G (.bin o x y)).e ρ μ).bind intO := rfl
theorem o_neg : (den G (.neg x)).o ρ μ = ((den G (.neg x)).e ρ μ).bind intO := rfl
theorem i_zipb {b : Bool} {v w : SV} {d e : D} {xs ys : List D} {μ1 μ2 μ3 μ4 : List Cell} (h : (den G x).e ρ μ = .ok v μ1) (h2 : v.keep μ1 = .ok d μ2) (h3 : (den G y).e ρ μ2 = .ok w μ3) (h4 : w.keep μ3 = .ok e μ4) (h5 : itemsD d = some xs) (h6 : itemsD e = some ys) (h7 : b = true → xs.length = ys.length) :
    (den G (.iZip (some b) x y)).i ρ μ = .ok (zipD xs ys) μ4 := by
  have hf : ¬ (some b = some true ∧ xs.length ≠ ys.length) := fun z => z.2 (h7 (Option.some.inj z.1))
  show (((den G x).e ρ μ).bind fun v μ1 => (v.keep μ1).bind fun d μ2 => ((den G y).e ρ μ2).bind fun w μ3 => (w.keep μ3).bind fun d' μ4 => (R.of (itemsD d) μ4).bind fun xs μ5 => (R.of (itemsD d') μ5).bind fun ys μ6 => if (some b : Option Bool) = some true ∧ xs.length ≠ ys.length then .stuck else .ok (zipD xs ys) μ6) = _
  simp only [h, b_ok, h2, h3, h4, h5, h6, of_some]
  rw [if_neg hf]
section
variable {c : Rho → List Cell → R Bool} {b : Rho → List Cell → RS} {r : RS} {ρ1 ρ2 : Rho} {μ1 μ2 : List Cell}
theorem whileN_mono : ∀ (n : Nat) {ρ : Rho} {μ : List Cell} {r : RS}, whileN c b n ρ μ = r → r ≠ .stuck → whileN c b (n + 1) ρ μ = r
  | 0, ρ, μ, r, h, hr => absurd h.symm hr
  | n + 1, ρ, μ, r, h, hr => by
    unfold whileN at h ⊢
    cases hc : c ρ μ with
    | stuck => rw [hc] at h; exact absurd h.symm hr
    | exc x μ1 => rw [hc] at h; exact h
    | ok k μ1 =>
      rw [hc] at h
      cases k with
      | false => exact h
      | true =>
        replace h : (match b ρ μ1 with
          | .nx ρ2 μ2 => whileN c b n ρ2 μ2
          | .ct ρ2 μ2 => whileN c b n ρ2 μ2
          | .bk ρ2 μ2 => .nx ρ2 μ2
          | r => r) = r := h
        show (match b ρ μ1 with
          | .nx ρ2 μ2 => whileN c b (n + 1) ρ2 μ2
          | .ct ρ2 μ2 => whileN c b (n + 1) ρ2 μ2
          | .bk ρ2 μ2 => .nx ρ2 μ2
          | r => r) = r
        cases hb : b ρ μ1 with
        | nx ρ2 μ2 => rw [hb] at h; exact whileN_mono n h hr
        | ct ρ2 μ2 => rw [hb] at h; exact whileN_mono n h hr
        | bk ρ2 μ2 => rw [hb] at h; exact h
        | rt v μ2 => rw [hb] at h; exact h
        | exc x ρ2 μ2 => rw [hb] at h; exact h
        | stuck => rw [hb] at h; exact h
theorem whileN_le {n : Nat} {ρ : Rho} {μ : List Cell} {r : RS} (h : whileN c b n ρ μ = r) (hr : r ≠ .stuck) : ∀ {m : Nat}, n ≤ m → whileN c b m ρ μ = r := fun {m} hm => by
  induction hm with
  | refl => exact h
  | step _ ih => exact whileN_mono _ ih hr
theorem while_of {n : Nat} {ρ : Rho} {μ : List Cell} (h : whileN c b n ρ μ = r) (hr : r ≠ .stuck) : whileR c b ρ μ = r := by
  have he : ∃ n, whileN c b n ρ μ ≠ .stuck := ⟨n, by rw [h]; exact hr⟩
  unfold whileR
  rw [dif_pos he]
  have hc := Classical.choose_spec he
  rcases Nat.le_total n (Classical.choose he) with q | q
  · exact whileN_le h hr q
  · exact (whileN_le rfl hc q).symm.trans h
theorem of_while {ρ : Rho} {μ : List Cell} (h : whileR c b ρ μ = r) (hr : r ≠ .stuck) : ∃ n, whileN c b n ρ μ = r := by
  unfold whileR at h
  split at h
  · exact ⟨_, h⟩
  · exact absurd h.symm hr
theorem while_end {ρ : Rho} {μ : List Cell} (h : c ρ μ = .ok false μ1) : whileR c b ρ μ = .nx ρ μ1 := while_of (n := 1) (by
  unfold whileN
  rw [h]
  rfl) (fun z => nomatch z)
theorem while_go {ρ : Rho} {μ : List Cell} (h : c ρ μ = .ok true μ1) (h2 : b ρ μ1 = .nx ρ2 μ2) (h3 : whileR c b ρ2 μ2 = r) (hr : r ≠ .stuck) : whileR c b ρ μ = r := by
  obtain ⟨n, hn⟩ := of_while h3 hr
  refine while_of (n := n + 1) ?_ hr
  unfold whileN
  rw [h]
  show (match b ρ μ1 with
          | .nx ρ2 μ2 => whileN c b n ρ2 μ2
          | .ct ρ2 μ2 => whileN c b n ρ2 μ2
          | .bk ρ2 μ2 => .nx ρ2 μ2
          | r => r) = r
  rw [h2]
  exact hn
end
theorem s_whl : (den G (.whl x y)).s ρ μ = whileR (testR (den G x).e) (den G y).s ρ μ := rfl
theorem bi_cats {a b : Str} (h : a.length + b.length ≤ sizeLine) : bin2 .Add (.str a) (.str b) = some (.dat (.str (a ++ b))) := if_pos h
theorem str_nil (x : Str) : Str.empty ++ x = x := by
  show (⟨#[] ++ x.cps⟩ : Str) = x
  rw [Array.empty_append]
theorem bi_catT {m n : List D} (h : m.length + n.length ≤ sizeLine) : bin2 .Add (.tuple m) (.tuple n) = some (.dat (.tuple (m ++ n))) := if_pos h
theorem bt_listT {a : List D} : bltD .list1 [.tuple a] = some (.fre a) := rfl
theorem bt_abs {n : Int} : bltD .abs [.int n] = some (.dat (.int (if n < 0 then -n else n))) := rfl
theorem bt_max {m n : Int} : bltD .max2 [.int m, .int n] = some (.dat (.int (if n > m then n else m))) := rfl
theorem lks_own {c : Cell} {vs : List SV} {ds : List D} (h1 : μ[k]? = some c) (h : looks μ vs = some ds) (hn : c.st ≠ .nest := by exact fun z => nomatch z) : looks μ (.own k :: vs) = some (.list c.ds :: ds) := by
  simp [looks, SV.look, h1, h, hn]
end
theorem out_own {n k : Nat} {μ : List Cell} {ds : List D} (h : n ≤ k) (h1 : μ[k]? = some ⟨.live, ds⟩) (h2 : argsSt n μ = true) : outOf n (.rt (.own k) μ) = some (.ret (.fre ds) (outC n μ)) := by
  have h3 : ¬ k < n := by omega
  simp [outOf, h2, retV, h1, h3]
theorem call_own2 {c : Ce} {vs : List AV} {as : List Arg} {r : Rv} {ds' es' : List D} {cl dl : Cell} {i k : Nat} {μ : List Cell} (h1 : owns vs = [i, k]) (hik : i ≠ k) (ht : tmps vs = []) (h2 : avArgs μ vs = some as) (h3 : vs.length = c.arity) (h4 : c.sem as = some (.ret r [ds', es'])) (hi : μ[i]? = some cl) (hk : μ[k]? = some dl) (n1 : cl.st ≠ .nest := by exact fun z => nomatch z) (n2 : dl.st ≠ .nest := by exact fun z => nomatch z) : callR c vs μ = .ok r.sv ((μ.set i ⟨cl.st, ds'⟩).set k ⟨dl.st, es'⟩) := by
  unfold callR
  rw [h1, ht, if_pos ⟨by simp [hik], rfl, h3⟩, h2]
  dsimp only
  rw [h4]
  dsimp only
  rw [if_pos (show [ds', es'].length = [i, k].length from rfl)]
  have e : wback [i, k] [ds', es'] μ = (μ.set i ⟨cl.st, ds'⟩).set k ⟨dl.st, es'⟩ := by
    have q : (μ.set i ⟨cl.st, ds'⟩)[k]? = some dl := by rw [List.getElem?_set_ne hik]; exact hk
    simp [wback, hi, q, op_eq n1, op_eq n2]
  rw [e]
  cases (r.noL && [ds', es'].all noLists) <;> rfl
theorem fz_of {k : Nat} {μ : List Cell} {ds : List D} (h : μ[k]? = some ⟨.live, ds⟩) : (SV.own k).keep μ = .ok (.list ds) (μ.set k ⟨.froz, ds⟩) := by
  have e : froze k μ = some (ds, μ.set k ⟨.froz, ds⟩) := by simp [froze, h]
  show (match froze k μ with
    | some (ds, μ') => R.ok (PyData.list ds) μ'
    | none => .stuck) = _
  rw [e]
/-! ### modes and axes -/
abbrev Md := Int × Int
abbrev md (m : Md) : D := .tuple [.int m.1, .int m.2]
abbrev ax (ms : List Md) : D := .list (ms.map md)
abbrev axs (xs : List (List Md)) : D := .list (xs.map ax)
theorem lay_md (m : Md) : (md m).canLay0 = true := by simp [PyData.canLay0, PyData.canLayAll0]
theorem lay_ax : ∀ ms : List Md, PyData.canLayAll0 (ms.map md) = true
  | [] => by simp [PyData.canLayAll0]
  | m :: ms => by
    rw [List.map_cons]
    simp only [PyData.canLayAll0, lay_md, lay_ax ms, Bool.and_self]
theorem dep_md (m : Md) : (md m).depth ≤ 2 := by simp [PyData.depth, PyData.depthAll]
theorem dep_ax : ∀ ms : List Md, PyData.depthAll (ms.map md) ≤ 3
  | [] => by simp [PyData.depthAll]
  | m :: ms => by
    have h1 := dep_ax ms
    have h2 := dep_md m
    rw [List.map_cons]
    simp only [PyData.depthAll]
    omega
theorem sh_ax (ms : List Md) : SeqAt.shaped (ax ms) = true := by
  have h := dep_ax ms
  unfold SeqAt.shaped
  rw [Bool.and_eq_true]
  refine ⟨by simp only [PyData.canLay0]; exact lay_ax ms, decide_eq_true ?_⟩
  simp only [PyData.depth]
  omega
theorem lay_axs : ∀ xs : List (List Md), PyData.canLayAll0 (xs.map ax) = true
  | [] => by simp [PyData.canLayAll0]
  | ms :: xs => by
    rw [List.map_cons]
    have h : (ax ms).canLay0 = true := by simp only [PyData.canLay0]; exact lay_ax ms
    simp only [PyData.canLayAll0, h, lay_axs xs, Bool.and_self]
theorem dep_axs : ∀ xs : List (List Md), PyData.depthAll (xs.map ax) ≤ 5
  | [] => by simp [PyData.depthAll]
  | ms :: xs => by
    have h1 := dep_axs xs
    have h2 : (ax ms).depth ≤ 4 := by
      have := dep_ax ms
      simp only [PyData.depth]
      omega
    rw [List.map_cons]
    simp only [PyData.depthAll]
    omega
theorem sh_axs (xs : List (List Md)) : SeqAt.shaped (axs xs) = true := by
  have h := dep_axs xs
  unfold SeqAt.shaped
  rw [Bool.and_eq_true]
  refine ⟨by simp only [PyData.canLay0]; exact lay_axs xs, decide_eq_true ?_⟩
  simp only [PyData.depth]
  omega
theorem sh_nil : SeqAt.shaped (.list []) = true := sh_ax []
theorem eqv_nil {ds : List D} : PyData.eqv (.list ds) (.list []) = ds.isEmpty := by
  cases ds <;> simp [PyData.eqv, PyData.eqvAll]
theorem cm_neNil {m : List D} (h1 : SeqAt.shaped (.list m) = true) : cmp2 .NotEq (.list m) (.list []) = some (!m.isEmpty) := by
  rw [cm_ne (by intro a z; cases z) h1 sh_nil, eqv_nil]
theorem cm_eqNil {m : List D} (h1 : SeqAt.shaped (.list m) = true) : cmp2 .Eq (.list m) (.list []) = some m.isEmpty := by
  rw [cm_eq (by intro a z; cases z) h1 sh_nil, eqv_nil]
theorem ix_nn {n : Nat} {i : Int} (h0 : 0 ≤ i) (h1 : i < n) : ixN n i = some i.toNat := by
  unfold ixN
  rw [if_pos h0, if_pos h1]
theorem ix_last {n : Nat} (h : 0 < n) : ixN n (-1) = some (n - 1) := by
  unfold ixN
  rw [if_neg (by decide), if_pos (by omega)]
  congr 1
  omega
theorem at_last {ds : List D} {d : D} : idxD (.list (ds ++ [d])) (.int (-1)) = some d := by
  show atI (ds ++ [d]) (-1) = _
  unfold atI
  rw [ix_last (by simp)]
  simp
theorem at_nn {ds : List D} {i : Int} (h0 : 0 ≤ i) (h1 : i < ds.length) : ∃ d, d ∈ ds ∧ ds[i.toNat]? = some d ∧ idxD (.list ds) (.int i) = some d := by
  have hl : i.toNat < ds.length := by omega
  refine ⟨ds[i.toNat], List.getElem_mem hl, by simp [hl], ?_⟩
  show atI ds i = _
  unfold atI
  rw [ix_nn h0 h1]
  simp [hl]
theorem t2_0 {a b : D} : idxD (.tuple [a, b]) (.int 0) = some a := rfl
theorem t2_1 {a b : D} : idxD (.tuple [a, b]) (.int 1) = some b := rfl
theorem tg_2 {i j : Nat} {a b : D} {ρ : Rho} : (Tg.cons (.nm i) (.cons (.nm j) .nil)).f.one (.tuple [a, b]) ρ = some ((ρ.set i (some (.dat a))).set j (some (.dat b))) := rfl
theorem cut_lo {ds : List D} {i : Int} (h0 : 0 ≤ i) (h1 : i ≤ ds.length) : cutD (.list ds) (some i) none = some (.fre (ds.drop i.toNat)) := by
  have e : i = ((i.toNat : Nat) : Int) := by omega
  show some (SV.fre ((ds.drop (HT.sIx ds.length 0 (some i))).take (ds.length - HT.sIx ds.length 0 (some i)))) = _
  rw [e, HT.sIx_nat, Nat.min_eq_left (by omega)]
  congr 2
  rw [Int.toNat_natCast, List.take_of_length_le (by simp)]
theorem cut_hi {ds : List D} {i : Int} (h0 : 0 ≤ i) (h1 : i ≤ ds.length) : cutD (.list ds) none (some i) = some (.fre (ds.take i.toNat)) := by
  have e : i = ((i.toNat : Nat) : Int) := by omega
  show some (SV.fre ((ds.drop 0).take (HT.sIx ds.length ds.length (some i) - 0))) = _
  rw [e, HT.sIx_nat, Nat.min_eq_left (by omega), List.drop_zero, Nat.sub_zero]
  congr 2
theorem cut_8 {ds : List D} (i : Nat) (h1 : ds.length ≤ i) : cutD (.list ds) none (some (i : Int)) = some (.fre ds) := by
  show some (SV.fre ((ds.drop 0).take (HT.sIx ds.length ds.length (some ((i : Nat) : Int)) - 0))) = _
  rw [HT.sIx_nat, Nat.min_eq_right h1, List.drop_zero, Nat.sub_zero, List.take_length]
theorem sh_flat {ds : List D} (h : ∀ d ∈ ds, ∃ i : Int, d = .int i) : SeqAt.shaped (.list ds) = true := by
  have q : PyData.canLayAll0 ds = true ∧ PyData.depthAll ds ≤ 1 := by
    induction ds with
    | nil => exact ⟨by simp [PyData.canLayAll0], by simp [PyData.depthAll]⟩
    | cons d ds ih =>
      obtain ⟨i1, i2⟩ := ih fun e he => h e (List.mem_cons_of_mem _ he)
      obtain ⟨i, rfl⟩ := h d (List.mem_cons_self ..)
      exact ⟨by simp [PyData.canLayAll0, PyData.canLay0, i1], by simp [PyData.depthAll, PyData.depth, i2]⟩
  unfold SeqAt.shaped
  rw [Bool.and_eq_true]
  refine ⟨by simp only [PyData.canLay0]; exact q.1, decide_eq_true ?_⟩
  simp only [PyData.depth]
  omega
end DL

set_option maxHeartbeats 1000000
/-! DL28: modes, plainly. -/
namespace DL
def size : List Md → Int
  | [] => 1
  | m :: ms => m.1 * size ms
def worth : List Md → Int → Int
  | [], _ => 0
  | m :: ms, i => i % m.1 * m.2 + worth ms (i / m.1)
abbrev M40 : Int := 10000000000000000000000000000000000000000
abbrev M60 : Int := 1000000000000000000000000000000000000000000000000000000000000
structure GoodM (m : Md) : Prop where
  s0 : 1 ≤ m.1
  s1 : m.1 ≤ M40
  t0 : -M60 ≤ m.2
  t1 : m.2 ≤ M60
/-- sizes from 1 on -/
def Pos (ms : List Md) : Prop := ∀ m ∈ ms, 1 ≤ m.1
theorem Pos.tl {m : Md} {ms : List Md} (h : Pos (m :: ms)) : 1 ≤ m.1 ∧ Pos ms := ⟨h m (List.mem_cons_self ..), fun x hx => h x (List.mem_cons_of_mem _ hx)⟩
theorem size_pos : ∀ {ms : List Md}, Pos ms → 1 ≤ size ms
  | [], _ => by decide
  | m :: ms, h => by
    have h1 := h.tl.1
    have h2 := size_pos h.tl.2
    have := Int.mul_le_mul h1 h2 (by decide) (by omega)
    simpa [size] using this
theorem size_app : ∀ (a b : List Md), size (a ++ b) = size a * size b
  | [], b => by simp [size]
  | m :: a, b => by simp [size, size_app a b, Int.mul_assoc]
theorem worth_app : ∀ (a b : List Md) (i : Int), Pos a → worth (a ++ b) i = worth a i + worth b (i / size a)
  | [], b, i, _ => by simp [worth, size]
  | m :: a, b, i, h => by
    have h1 := h.tl.1
    rw [List.cons_append, worth, worth_app a b (i / m.1) h.tl.2, worth, size, Int.ediv_ediv_of_nonneg (by omega)]
    omega
theorem mod_mul (i a b : Int) (ha : 1 ≤ a) (hb : 1 ≤ b) : i % (a * b) = i % a + a * (i / a % b) := by
  rw [Int.emod_def, Int.emod_def i a, Int.emod_def (i / a) b, ← Int.ediv_ediv_of_nonneg (by omega : 0 ≤ a), Int.mul_sub, Int.mul_assoc]
  omega
/-! ### the shortest form -/
def push (acc : List Md) (m : Md) : List Md := if m.1 = 1 then acc else match acc.getLast? with
  | none => acc ++ [m]
  | some l => if m.2 = l.1 * l.2 then acc.dropLast ++ [(l.1 * m.1, l.2)] else acc ++ [m]
def shortA : List Md → List Md → List Md
  | acc, [] => acc
  | acc, m :: ms => shortA (push acc m) ms
def short (ms : List Md) : List Md := shortA [] ms
theorem push_one {acc : List Md} {m : Md} (h : m.1 = 1) : push acc m = acc := if_pos h
theorem push_nil {m : Md} (h : m.1 ≠ 1) : push [] m = [m] := if_neg h
theorem push_mrg {acc : List Md} {l m : Md} (h : m.1 ≠ 1) (h2 : m.2 = l.1 * l.2) : push (acc ++ [l]) m = acc ++ [(l.1 * m.1, l.2)] := by
  unfold push
  rw [if_neg h]
  simp [h2]
theorem push_add {acc : List Md} {l m : Md} (h : m.1 ≠ 1) (h2 : m.2 ≠ l.1 * l.2) : push (acc ++ [l]) m = acc ++ [l] ++ [m] := by
  unfold push
  rw [if_neg h]
  simp [h2]
theorem end_cases (acc : List Md) : acc = [] ∨ ∃ a l, acc = a ++ [l] := by
  rcases List.eq_nil_or_concat acc with h | ⟨a, l, h⟩
  · exact .inl h
  · exact .inr ⟨a, l, by simpa using h⟩
/-- neighbours that do not go on from one another, no size 1 -/
def Short : List Md → Prop
  | [] => True
  | [m] => 2 ≤ m.1
  | m :: n :: ms => 2 ≤ m.1 ∧ n.2 ≠ m.1 * m.2 ∧ Short (n :: ms)
theorem Short.tl : ∀ {ms : List Md} {m : Md}, Short (m :: ms) → 2 ≤ m.1 ∧ Short ms
  | [], m, h => ⟨h, trivial⟩
  | n :: ms, m, h => ⟨h.1, h.2.2⟩
theorem Short.pos : ∀ {ms : List Md}, Short ms → Pos ms
  | [], _, x, hx => by cases hx
  | m :: ms, h, x, hx => by
    rcases List.mem_cons.mp hx with rfl | hx
    · have := h.tl.1
      omega
    · exact h.tl.2.pos x hx
theorem Short.snoc : ∀ {a : List Md} {l m : Md}, Short (a ++ [l]) → 2 ≤ m.1 → m.2 ≠ l.1 * l.2 → Short (a ++ [l] ++ [m])
  | [], l, m, h, h1, h2 => ⟨h, h2, h1⟩
  | [n], l, m, h, h1, h2 => ⟨h.1, h.2.1, h.2.2, h2, h1⟩
  | n :: n' :: a, l, m, h, h1, h2 => ⟨h.1, h.2.1, Short.snoc (a := n' :: a) h.2.2 h1 h2⟩
theorem Short.mrg : ∀ {a : List Md} {l m : Md}, Short (a ++ [l]) → 2 ≤ m.1 → Short (a ++ [(l.1 * m.1, l.2)])
  | [], l, m, h, h1 => by
    have h : 2 ≤ l.1 := h
    have := Int.mul_le_mul h (by omega : 1 ≤ m.1) (by decide) (by omega)
    show 2 ≤ l.1 * m.1
    omega
  | [n], l, m, h, h1 => ⟨h.1, h.2.1, by
    have h : 2 ≤ l.1 := h.2.2
    have := Int.mul_le_mul h (by omega : 1 ≤ m.1) (by decide) (by omega)
    show 2 ≤ l.1 * m.1
    omega⟩
  | n :: n' :: a, l, m, h, h1 => ⟨h.1, h.2.1, Short.mrg (a := n' :: a) h.2.2 h1⟩
theorem Pos.snoc {a : List Md} {m : Md} (h : Pos a) (h1 : 1 ≤ m.1) : Pos (a ++ [m]) := fun x hx => by
  rcases List.mem_append.mp hx with q | q
  · exact h x q
  · rw [List.mem_singleton.mp q]
    exact h1
theorem Pos.left {a b : List Md} (h : Pos (a ++ b)) : Pos a := fun x hx => h x (List.mem_append_left _ hx)
theorem Pos.right {a b : List Md} (h : Pos (a ++ b)) : Pos b := fun x hx => h x (List.mem_append_right _ hx)
theorem Pos.app {a b : List Md} (h : Pos a) (g : Pos b) : Pos (a ++ b) := fun x hx => by
  rcases List.mem_append.mp hx with q | q
  · exact h x q
  · exact g x q
theorem push_ok {acc : List Md} {m : Md} (h : Short acc) (h1 : 1 ≤ m.1) : Short (push acc m) ∧ (∀ i, worth (push acc m) i = worth (acc ++ [m]) i) ∧ size (push acc m) = size acc * m.1 := by
  have hp := h.pos
  by_cases e : m.1 = 1
  · rw [push_one e]
    refine ⟨h, fun i => ?_, by rw [e, Int.mul_one]⟩
    rw [worth_app _ _ _ hp]
    simp [worth, e, Int.emod_one]
  · have h2 : 2 ≤ m.1 := by omega
    rcases end_cases acc with rfl | ⟨a, l, rfl⟩
    · rw [push_nil e]
      exact ⟨h2, fun i => rfl, by simp [size]⟩
    · by_cases g : m.2 = l.1 * l.2
      · rw [push_mrg e g]
        have hl : 1 ≤ l.1 := hp l (by simp)
        refine ⟨h.mrg h2, fun i => ?_, by rw [size_app, size_app]; simp [size, Int.mul_assoc]⟩
        rw [worth_app _ _ _ hp.left, worth_app _ _ _ hp, worth_app _ _ _ hp.left, size_app]
        simp only [worth, size, Int.mul_one, Int.add_zero]
        rw [mod_mul _ _ _ hl h1, g, Int.ediv_ediv_of_nonneg (by have := size_pos hp.left; omega), Int.add_mul, Int.mul_comm l.1 (_ % m.1), Int.mul_assoc]
        omega
      · rw [push_add e g]
        exact ⟨h.snoc h2 g, fun i => rfl, by rw [size_app]; simp [size]⟩
theorem shortA_ok : ∀ {ms acc : List Md}, Short acc → Pos ms → Short (shortA acc ms) ∧ (∀ i, worth (shortA acc ms) i = worth (acc ++ ms) i) ∧ size (shortA acc ms) = size acc * size ms
  | [], acc, h, _ => ⟨h, fun i => by rw [List.append_nil]; rfl, by simp [size, shortA]⟩
  | m :: ms, acc, h, hp => by
    obtain ⟨h1, h2⟩ := hp.tl
    obtain ⟨q1, q2, q3⟩ := push_ok h h1
    obtain ⟨r1, r2, r3⟩ := shortA_ok (ms := ms) q1 h2
    refine ⟨r1, fun i => ?_, ?_⟩
    · show worth (shortA (push acc m) ms) i = _
      rw [r2, worth_app _ _ _ q1.pos, q2, q3, show acc ++ m :: ms = (acc ++ [m]) ++ ms from by simp, worth_app (acc ++ [m]) _ _ (h.pos.snoc h1), size_app]
      simp [size]
    · show size (shortA (push acc m) ms) = _
      rw [r3, q3, size, Int.mul_assoc]
theorem short_ok {ms : List Md} (h : Pos ms) : Short (short ms) ∧ (∀ i, worth (short ms) i = worth ms i) ∧ size (short ms) = size ms := by
  obtain ⟨h1, h2, h3⟩ := shortA_ok (acc := []) trivial h
  exact ⟨h1, h2, by rw [show short ms = shortA [] ms from rfl, h3]; simp [size]⟩
/-! ### the least index apart -/
def apartA : List Md → List Md → Int → Option Int
  | [], [], _ => none
  | [], _ :: _, u => some u
  | _ :: _, [], u => some u
  | m :: xs, n :: ys, u => if m.2 ≠ n.2 then some u else if m.1 ≠ n.1 then some (u * (if n.1 < m.1 then n.1 else m.1)) else apartA xs ys (u * m.1)
theorem apart_mul : ∀ (x y : List Md) (u : Int), apartA x y u = (apartA x y 1).map (u * ·)
  | [], [], u => rfl
  | [], _ :: _, u => by simp [apartA]
  | _ :: _, [], u => by simp [apartA]
  | m :: xs, n :: ys, u => by
    unfold apartA
    split
    · simp
    · split
      · simp
      · rw [apart_mul xs ys (u * m.1), apart_mul xs ys (1 * m.1), Option.map_map]
        congr 1
        funext z
        simp [Int.mul_assoc]
theorem worth_1 {m : Md} {ms : List Md} (h : 2 ≤ m.1) : worth (m :: ms) 1 = m.2 + worth ms 0 := by
  rw [worth, Int.emod_eq_of_lt (by decide) (by omega), Int.ediv_eq_zero_of_lt (by decide) (by omega), Int.one_mul]
theorem worth_0 : ∀ ms : List Md, worth ms 0 = 0
  | [] => rfl
  | m :: ms => by simp [worth, worth_0 ms]
/-- at u they part, if both have it; ahead of u they agree -/
structure Parts (x y : List Md) (u : Int) : Prop where
  u0 : 1 ≤ u
  agree : ∀ i, 0 ≤ i → i < u → worth x i = worth y i
  le : u ≤ size x ∧ u ≤ size y
  differ : u < size x → u < size y → worth x u ≠ worth y u
theorem apart_one : ∀ {x y : List Md}, Short x → Short y → (apartA x y 1 = none ∧ x = y) ∨ ∃ u, apartA x y 1 = some u ∧ Parts x y u
  | [], [], _, _ => .inl ⟨rfl, rfl⟩
  | [], n :: ys, _, hy => .inr ⟨1, rfl, by decide, fun i h0 h1 => by
      have e : i = 0 := by omega
      rw [e, worth_0, worth_0], ⟨by decide, size_pos hy.pos⟩, fun h => by simp [size] at h⟩
  | m :: xs, [], hx, _ => .inr ⟨1, rfl, by decide, fun i h0 h1 => by
      have e : i = 0 := by omega
      rw [e, worth_0, worth_0], ⟨size_pos hx.pos, by decide⟩, fun _ h => by simp [size] at h⟩
  | m :: xs, n :: ys, hx, hy => by
    have hm := hx.tl.1
    have hn := hy.tl.1
    unfold apartA
    by_cases h1 : m.2 = n.2
    · rw [if_neg (by simp [h1])]
      by_cases h2 : m.1 = n.1
      · rw [if_neg (by simp [h2]), apart_mul]
        have emn : m = n := Prod.ext h2 h1
        subst emn
        rcases apart_one hx.tl.2 hy.tl.2 with ⟨q1, q2⟩ | ⟨u, q1, q2⟩
        · rw [q1, q2]
          exact .inl ⟨rfl, rfl⟩
        · rw [q1]
          refine .inr ⟨m.1 * u, by simp, ?_, fun i h0 hi => ?_, ⟨?_, ?_⟩, fun ha hb => ?_⟩
          · have := Int.mul_le_mul (by omega : 1 ≤ m.1) q2.u0 (by decide) (by omega)
            omega
          · rw [worth, worth, q2.agree (i / m.1) (Int.ediv_nonneg h0 (by omega)) (by rw [Int.ediv_lt_iff_lt_mul (by omega), Int.mul_comm]; exact hi)]
          · exact Int.mul_le_mul_of_nonneg_left q2.le.1 (by omega)
          · exact Int.mul_le_mul_of_nonneg_left q2.le.2 (by omega)
          · rw [worth, worth, Int.mul_emod_right, Int.mul_ediv_cancel_left _ (by omega)]
            have := q2.differ (Int.lt_of_mul_lt_mul_left ha (by omega)) (Int.lt_of_mul_lt_mul_left hb (by omega))
            omega
      · rw [if_pos h2]
        refine .inr ⟨_, rfl, ?_⟩
        rw [Int.one_mul]
        -- the smaller size ends first
        have key : ∀ {a b : Md} {as bs : List Md}, Short (a :: as) → Short (b :: bs) → a.2 = b.2 → a.1 < b.1 → Parts (a :: as) (b :: bs) a.1 := fun {a b as bs} ha hb e lt => by
          have a2 := ha.tl.1
          have pa := size_pos ha.tl.2.pos
          have pb := size_pos hb.tl.2.pos
          refine ⟨by omega, fun i h0 hi => ?_, ⟨?_, ?_⟩, fun h3 h4 => ?_⟩
          · rw [worth, worth, Int.emod_eq_of_lt h0 hi, Int.emod_eq_of_lt h0 (by omega), Int.ediv_eq_zero_of_lt h0 hi, Int.ediv_eq_zero_of_lt h0 (by omega), worth_0, worth_0, e]
          · have := Int.mul_le_mul_of_nonneg_left pa (by omega : 0 ≤ a.1)
            rw [size]
            omega
          · have := Int.mul_le_mul_of_nonneg_left pb (by omega : 0 ≤ b.1)
            rw [size]
            omega
          · cases as with
            | nil => simp [size] at h3
            | cons c as =>
              have c2 := ha.tl.2.tl.1
              have ne := ha.2.1
              rw [show worth (a :: c :: as) a.1 = a.1 % a.1 * a.2 + worth (c :: as) (a.1 / a.1) from rfl, show worth (b :: bs) a.1 = a.1 % b.1 * b.2 + worth bs (a.1 / b.1) from rfl, Int.emod_self, Int.ediv_self (by omega), worth_1 c2, worth_0, Int.emod_eq_of_lt (by omega) lt, Int.ediv_eq_zero_of_lt (by omega) lt, worth_0, ← e]
              omega
        by_cases lt : n.1 < m.1
        · rw [if_pos lt]
          have q := key hy hx h1.symm lt
          exact ⟨q.u0, fun i h0 h => (q.agree i h0 h).symm, ⟨q.le.2, q.le.1⟩, fun h3 h4 z => q.differ h4 h3 z.symm⟩
        · rw [if_neg lt]
          exact key hx hy h1 (by omega)
    · rw [if_pos h1]
      refine .inr ⟨1, rfl, by decide, fun i h0 hi => ?_, ⟨size_pos hx.pos, size_pos hy.pos⟩, fun _ _ => ?_⟩
      · have e : i = 0 := by omega
        rw [e, worth_0, worth_0]
      · rw [worth_1 hm, worth_1 hn, worth_0, worth_0]
        omega
/-! ### bounds -/
/-- sizes that can be multiplied -/
structure Sz (ms : List Md) : Prop where
  len : ms.length ≤ 2000
  b : ∀ m ∈ ms, m.1.natAbs < 2 ^ 133
theorem abs2 {x b : Int} {k : Nat} (h0 : -b ≤ x) (h : x ≤ b) (hb : b.toNat < 2 ^ k) : x.natAbs < 2 ^ k := by omega
theorem GoodM.a1 {m : Md} (g : GoodM m) : m.1.natAbs < 2 ^ 133 := abs2 (b := M40) (by have := g.s0; have : (0 : Int) ≤ M40 := by decide
                                                                                      omega) g.s1 (by decide)
theorem GoodM.a2 {m : Md} (g : GoodM m) : m.2.natAbs < 2 ^ 200 := abs2 (b := M60) g.t0 g.t1 (by decide)
theorem Sz.of {ms : List Md} (h : ∀ m ∈ ms, GoodM m) (hl : ms.length ≤ 2000) : Sz ms := ⟨hl, fun m hm => (h m hm).a1⟩
structure Vld (xs : List (List Md)) : Prop where
  len : xs.length ≤ 8
  many : xs.flatten.length ≤ 200
  good : ∀ m ∈ xs.flatten, GoodM m
  sz : size xs.flatten ≤ M40
theorem Vld.s {xs : List (List Md)} (v : Vld xs) : Sz xs.flatten := Sz.of v.good (Nat.le_trans v.many (by decide))
theorem Vld.pos {xs : List (List Md)} (v : Vld xs) : Pos xs.flatten := fun m hm => (v.good m hm).s0
end DL

set_option maxHeartbeats 1000000
/-! DL29: repr of axes. -/
namespace DL
open PySem PySem.Spec PyProof.Rows L2
/-- data that can be shown, its text within B -/
structure Shw (x : D) (n B : Nat) : Prop where
  s : x.showable = true
  h : x.hasDict = false
  d : x.depth ≤ n
  b : x.shown.length ≤ B
theorem shown_all {n B : Nat} : ∀ {ds : List D}, (∀ d ∈ ds, Shw d n B) → PyData.showableAll ds = true ∧ PyData.hasDictAll ds = false ∧ PyData.depthAll ds ≤ n ∧ (PyData.shownAll ds).length = ds.length ∧ ∀ t ∈ PyData.shownAll ds, t.length ≤ B
  | [], _ => ⟨by simp [PyData.showableAll], by simp [PyData.hasDictAll], by simp [PyData.depthAll], rfl, fun t ht => by simp [PyData.shownAll] at ht⟩
  | d :: ds, h => by
    have q := h d (List.mem_cons_self ..)
    obtain ⟨i1, i2, i3, i4, i5⟩ := shown_all (ds := ds) fun e he => h e (List.mem_cons_of_mem _ he)
    refine ⟨by simp [PyData.showableAll, q.s, i1], by simp [PyData.hasDictAll, q.h, i2], ?_, by simp [PyData.shownAll, i4], fun t ht => ?_⟩
    · have := q.d
      simp only [PyData.depthAll]
      omega
    · simp only [PyData.shownAll, List.mem_cons] at ht
      rcases ht with rfl | ht
      · exact q.b
      · exact i5 t ht
theorem shw_int {i : Int} (h0 : -M60 ≤ i) (h1 : i ≤ M60) : Shw (.int i) 0 62 := by
  have hb : i.natAbs < 10 ^ 61 := abs2' h0 h1
  have hl : i.natAbs.log2 < 1920 := by
    by_cases z : i.natAbs = 0
    · rw [z]; decide
    · exact (Nat.log2_lt z).mpr (Nat.lt_trans hb (by decide))
  refine ⟨by simp [PyData.showable, hl], by simp [PyData.hasDict], by simp [PyData.depth], ?_⟩
  simp only [PyData.shown]
  rw [PySem.ofString_length]
  exact int_text_length_le10 (k := 61) (by decide) hb
where
  abs2' {i : Int} (h0 : -M60 ≤ i) (h1 : i ≤ M60) : i.natAbs < 10 ^ 61 := by
    have : M60.toNat < 10 ^ 61 := by decide
    omega
theorem shw_pair {a b : D} {n A B : Nat} (ha : Shw a n A) (hb : Shw b n B) : Shw (.tuple [a, b]) (n + 2) (A + B + 4) := by
  refine ⟨by simp [PyData.showable, PyData.showableAll, ha.s, hb.s], by simp [PyData.hasDict, PyData.hasDictAll, ha.h, hb.h], ?_, ?_⟩
  · have h1 := ha.d
    have h2 := hb.d
    simp only [PyData.depth, PyData.depthAll]
    omega
  · simp only [PyData.shown, PyData.shownAll]
    have e : tupleText [a.shown, b.shown] = ("(" : Str) ++ (a.shown ++ ", " ++ b.shown) ++ (")" : String) := rfl
    rw [e, strLen_append, strLen_append, strLen_append, strLen_append]
    have h1 := ha.b
    have h2 := hb.b
    have e1 : ((Str.ofString "(") : Str).length = 1 := rfl
    have e2 : ((Str.ofString ")") : Str).length = 1 := rfl
    have e3 : ((Str.ofString ", ") : Str).length = 2 := rfl
    omega
theorem shw_list {ds : List D} {n B : Nat} (h : ∀ d ∈ ds, Shw d n B) : Shw (.list ds) (n + 2) (2 + (B + 2) * ds.length) := by
  obtain ⟨i1, i2, i3, i4, i5⟩ := shown_all h
  refine ⟨by simp [PyData.showable, i1], by simp [PyData.hasDict, i2], ?_, ?_⟩
  · simp only [PyData.depth]
    omega
  · simp only [PyData.shown, listText]
    rw [strLen_append]
    have := text_len (PyData.shownAll ds) 0 "[" B i5
    rw [i4] at this
    have e1 : ((Str.ofString "[") : Str).length = 1 := rfl
    have e2 : ((Str.ofString "]") : Str).length = 1 := rfl
    omega
theorem Shw.mono {d : D} {n m A B : Nat} (h : Shw d n A) (h1 : n ≤ m) (h2 : A ≤ B) : Shw d m B := ⟨h.s, h.h, Nat.le_trans h.d h1, Nat.le_trans h.b h2⟩
theorem shw_md {m : Md} (g : GoodM m) : Shw (md m) 2 128 := by
  have h : (0 : Int) ≤ M60 := by decide
  have hM : M40 ≤ M60 := by decide
  have g1 := g.s0
  have g2 := g.s1
  exact (shw_pair (shw_int (by omega) (by omega)) (shw_int g.t0 g.t1)).mono (by omega) (by omega)
theorem shw_ax {ms : List Md} (g : ∀ m ∈ ms, GoodM m) (hl : ms.length ≤ 100) : Shw (ax ms) 4 13002 := by
  refine (shw_list (n := 2) (B := 128) fun d hd => ?_).mono (by omega) ?_
  · obtain ⟨m, hm, rfl⟩ := List.mem_map.mp hd
    exact shw_md (g m hm)
  · rw [List.length_map]
    omega
theorem shw_axs {xs : List (List Md)} (v : Vld xs) (hl : xs.flatten.length ≤ 100) : Shw (axs xs) 6 110000 := by
  refine (shw_list (n := 4) (B := 13002) fun d hd => ?_).mono (by omega) ?_
  · obtain ⟨ms, hm, rfl⟩ := List.mem_map.mp hd
    have hsub : ∀ m ∈ ms, m ∈ xs.flatten := fun m h => List.mem_flatten.mpr ⟨ms, hm, h⟩
    have hlen : ms.length ≤ xs.flatten.length := (List.sublist_flatten_of_mem hm).length_le
    exact shw_ax (fun m h => v.good m (hsub m h)) (by omega)
  · have := v.len
    rw [List.length_map]
    omega
theorem bt_repr {d : D} {n B : Nat} (h : Shw d n B) (h1 : n ≤ 64) (h2 : B ≤ 1000000) : bltD .repr1 [d] = some (.dat (.str d.shown)) := by
  show (if (d.showable && !d.hasDict && decide (d.depth ≤ 64) && decide (d.shown.length ≤ 1000000)) = true then _ else _) = _
  rw [if_pos]
  have h3 := h.d
  have h4 := h.b
  simp [h.s, h.h, Nat.le_trans h3 h1, Nat.le_trans h4 h2]
end DL

set_option maxHeartbeats 1000000
/-! DL30: nests, step by step. -/
namespace DL
open PySem PySem.Spec PyProof.Rows L2
section
variable {G : Ge} {ρ : Rho} {μ μ' : List Cell} {x y z : IR} {i j k : Nat}
theorem s_stn : (den G (.stn i x y)).s ρ μ = (((den G y).e ρ μ).bind fun v μ1 => (slot ρ i μ1).bind fun w μ3 => ((den G x).e ρ μ3).bind fun x μ4 => (asI x μ4).bind fun n μ5 => stnV n v w μ5).st ρ fun r _ => .nx ρ r := rfl
theorem s_sti2 : (den G (.sti2 i x z y)).s ρ μ = (((den G y).e ρ μ).bind fun v μ1 => (v.keep μ1).bind fun d μ2 => ((slot ρ i μ2).bind fun w μ3 => ((den G x).e ρ μ3).bind fun x μ4 => nidx w x μ4).bind fun y μ5 => ((den G z).e ρ μ5).bind fun u μ6 => (asI u μ6).bind fun n μ7 => stiV n d y μ7).st ρ fun r _ => .nx ρ r := rfl
theorem e_frz : (den G (.frz x)).e ρ μ = ((den G x).e ρ μ).bind fun v μ1 => v.nkeep μ1 := rfl
theorem e_idxN : (den G (.idxN x y)).e ρ μ = ((den G x).e ρ μ).bind fun v μ1 => ((den G y).e ρ μ1).bind fun w μ2 => nidx v w μ2 := rfl
theorem s_foN {i1 i2 o : Nat} {c : Cell} (h : ρ[j]? = some (some (.nst o))) (h2 : μ[o]? = some c) : (den G (.foN i1 i2 j x)).s ρ μ = forN o i1 i2 (den G x).s c.ds 0 c.ds ρ μ := by
  show (match ρ[j]? with
      | some (some (.nst o)) => (match μ[o]? with
        | some c => forN o i1 i2 (den G x).s c.ds 0 c.ds ρ μ
        | none => .stuck)
      | _ => .stuck) = _
  rw [h]
  dsimp only
  rw [h2]
theorem nlc_ok {vs : List (Str × Nat)} {ds : List D} {dss : List (List D)} {μ1 : List Cell} (h1 : (den G x).i ρ μ = .ok ds μ1) (h2 : ds.length ≤ 10000000) (h3 : i < ρ.length) (h4 : rowsD ds = some dss) : (den G (.nlc vs i x)).e ρ μ = .ok (.frn dss) μ1 := by
  show ((den G x).i ρ μ).noX.bind (fun ds μ1 => if ds.length ≤ 10000000 ∧ i < ρ.length then (match rowsD ds with
      | some dss => R.ok (SV.frn dss) μ1
      | none => .stuck) else .stuck) = _
  rw [h1, nox_ok, b_ok, if_pos ⟨h2, h3⟩, h4]
theorem rows_ax : ∀ xs : List (List Md), rowsD (xs.map ax) = some (xs.map (·.map md))
  | [] => rfl
  | ms :: xs => by
    show (rowsD (xs.map ax)).map (ms.map md :: ·) = _
    rw [rows_ax xs]
    rfl
end
section
variable {μ : List Cell} {d e f : D} {es fs : List D}
theorem lks1 : looks μ [.dat d] = some [d] := rfl
theorem lks1f : looks μ [.fre es] = some [.list es] := rfl
theorem lks2 : looks μ [.dat d, .dat e] = some [d, e] := rfl
theorem lks2f : looks μ [.fre es, .fre fs] = some [.list es, .list fs] := rfl
theorem lks2a : looks μ [.dat d, .fre fs] = some [d, .list fs] := rfl
theorem lks2b : looks μ [.fre es, .dat e] = some [.list es, e] := rfl
theorem lks3 : looks μ [.dat d, .dat e, .dat f] = some [d, e, f] := rfl
end
section
variable {G : Ge} {ρ : Rho} {μ μ1 : List Cell} {x : IR}
theorem e_blt1 {b : Blt} {v w : SV} {d : D} (h : (den G x).e ρ μ = .ok v μ1) (h2 : v.look μ1 = some d) (h3 : bltD b [d] = some w) : (den G (.blt b (.cons x .nil))).e ρ μ = .ok w μ1 := by
  rw [e_blt, bl_cons, h, b_ok, bl_nil, b_ok, b_ok]
  have e : looks μ1 [v] = some [d] := by
    show (match v.look μ1, looks μ1 [] with
      | some d, some ds => some (d :: ds)
      | _, _ => none) = _
    rw [h2]
    rfl
  rw [e, of_some, b_ok, h3, of_some]
theorem i_rng1 {n : Int} {L : List D} (h : (den G x).e ρ μ = .ok (.dat (.int n)) μ1) (h2 : rngD [.int n] = some L) : (den G (.iRng (.cons x .nil))).i ρ μ = .ok L μ1 := by
  rw [i_rng, bl_cons, h, b_ok, bl_nil, b_ok, b_ok, lks1, of_some, b_ok, h2, of_some]
theorem look_own {k : Nat} {c : Cell} (h : μ[k]? = some c) (hn : c.st ≠ .nest := by exact fun z => nomatch z) : (SV.own k).look μ = some (.list c.ds) := by
  simp [SV.look, h, hn]
theorem rng_n {n : Nat} (h : n ≤ 1000000000) : rngD [.int (n : Int)] = some (rangeD 0 n) := by
  have hs : smallI (n : Int) = true := by simp [smallI]; omega
  show (if smallI (n : Int) = true then some (rangeD 0 (n : Int).toNat) else none) = _
  rw [if_pos hs, Int.toNat_natCast]
end
abbrev pt (k : Nat) : D := .int (k : Int)
/-- a nest of lists of modes -/
structure Nst (μ : List Cell) (o : Nat) (ks : List Nat) (xs : List (List Md)) : Prop where
  at_ : μ[o]? = some ⟨.nest, ks.map pt⟩
  nod : ks.Nodup
  ln : ks.length = xs.length
  it : ∀ (i k : Nat) (ms : List Md), ks[i]? = some k → xs[i]? = some ms → μ[k]? = some ⟨.live, ms.map md⟩
theorem live_ne_nest {ds es : List D} : (⟨.live, ds⟩ : Cell) ≠ ⟨.nest, es⟩ := fun h => by cases h
section
variable {μ μ' : List Cell} {o : Nat} {ks : List Nat} {xs : List (List Md)}
theorem Nst.get (h : Nst μ o ks xs) {i : Nat} {ms : List Md} (e : xs[i]? = some ms) : ∃ k, ks[i]? = some k ∧ μ[k]? = some ⟨.live, ms.map md⟩ := by
  have hi : i < ks.length := by rw [h.ln]; exact (List.getElem?_eq_some_iff.mp e).1
  exact ⟨ks[i], by simp [hi], h.it i _ ms (by simp [hi]) e⟩
theorem Nst.getK (h : Nst μ o ks xs) {i k : Nat} (e : ks[i]? = some k) : ∃ ms, xs[i]? = some ms ∧ μ[k]? = some ⟨.live, ms.map md⟩ := by
  have hi : i < xs.length := by rw [← h.ln]; exact (List.getElem?_eq_some_iff.mp e).1
  exact ⟨xs[i], by simp [hi], h.it i _ _ e (by simp [hi])⟩
theorem Nst.ne (h : Nst μ o ks xs) {i k : Nat} (e : ks[i]? = some k) : k ≠ o := fun z => by
  obtain ⟨ms, _, q⟩ := h.getK e
  rw [z, h.at_] at q
  cases q
/-- another cell is changed -/
theorem Nst.other (h : Nst μ o ks xs) {j : Nat} {c d : Cell} (e : μ[j]? = some c) (hc : c.st = .arg) : Nst (μ.set j d) o ks xs where
  at_ := by
    rw [List.getElem?_set_ne fun z => ?_]
    · exact h.at_
    · subst z
      rw [h.at_] at e
      cases e
      cases hc
  nod := h.nod
  ln := h.ln
  it := fun i k ms h1 h2 => by
    have q := h.it i k ms h1 h2
    rw [List.getElem?_set_ne fun z => ?_]
    · exact q
    · subst z
      rw [q] at e
      cases e
      cases hc
theorem nod_ix {α : Type} {l : List α} (n : l.Nodup) {i j : Nat} {a : α} (h : l[i]? = some a) (g : l[j]? = some a) : i = j := by
  obtain ⟨h1, e1⟩ := List.getElem?_eq_some_iff.mp h
  obtain ⟨h2, e2⟩ := List.getElem?_eq_some_iff.mp g
  exact (List.getElem_inj n).mp (e1.trans e2.symm)
/-- a list within is changed -/
theorem Nst.put (h : Nst μ o ks xs) {i k : Nat} (e : ks[i]? = some k) (ms : List Md) : Nst (μ.set k ⟨.live, ms.map md⟩) o ks (xs.set i ms) where
  at_ := by rw [List.getElem?_set_ne (h.ne e)]; exact h.at_
  nod := h.nod
  ln := by rw [List.length_set]; exact h.ln
  it := fun j l ns h1 h2 => by
    obtain ⟨ms0, q1, q2⟩ := h.getK e
    by_cases z : j = i
    · subst z
      rw [e] at h1
      cases h1
      rw [List.getElem?_set_self (List.getElem?_eq_some_iff.mp q1).1] at h2
      cases h2
      rw [List.getElem?_set_self (List.getElem?_eq_some_iff.mp q2).1]
    · rw [List.getElem?_set_ne (Ne.symm z)] at h2
      rw [List.getElem?_set_ne fun y => z (nod_ix h.nod h1 (by rw [e, y]))]
      exact h.it j l ns h1 h2
/-- another list comes in its place -/
theorem Nst.swap (h : Nst μ o ks xs) {i k : Nat} (e : ks[i]? = some k) (ms : List Md) : stnR o (i : Int) (ms.map md) μ = some ((μ ++ [(⟨.live, ms.map md⟩ : Cell)]).set o ⟨.nest, (ks.set i μ.length).map pt⟩) ∧ Nst ((μ ++ [(⟨.live, ms.map md⟩ : Cell)]).set o ⟨.nest, (ks.set i μ.length).map pt⟩) o (ks.set i μ.length) (xs.set i ms) := by
  have hi : i < ks.length := (List.getElem?_eq_some_iff.mp e).1
  have ho : o < μ.length := (List.getElem?_eq_some_iff.mp h.at_).1
  have fresh : ∀ (j k : Nat), ks[j]? = some k → k < μ.length := fun j k ej => by
    obtain ⟨_, _, q⟩ := h.getK ej
    exact (List.getElem?_eq_some_iff.mp q).1
  constructor
  · unfold stnR
    rw [h.at_]
    dsimp only
    rw [if_pos rfl, ix_nn (by omega) (by rw [List.length_map]; omega)]
    dsimp only
    rw [Int.toNat_natCast, List.map_set]
  · refine ⟨by rw [List.getElem?_set_self (by rw [List.length_append]; omega)], ?_, by rw [List.length_set, List.length_set]; exact h.ln, fun j l ns h1 h2 => ?_⟩
    · refine List.pairwise_iff_getElem.mpr fun a b ha hb hab he => ?_
      rw [List.length_set] at ha hb
      have ea : (ks.set i μ.length)[a]? = (ks.set i μ.length)[b]? := by
        rw [List.getElem?_eq_getElem (by rw [List.length_set]; exact ha), List.getElem?_eq_getElem (by rw [List.length_set]; exact hb), he]
      have ha' : ks[a]? = some ks[a] := by simp [ha]
      have hb' : ks[b]? = some ks[b] := by simp [hb]
      by_cases za : a = i
      · subst za
        rw [List.getElem?_set_self hi, List.getElem?_set_ne (by omega), hb'] at ea
        have := fresh b _ hb'
        have := Option.some.inj ea
        omega
      · rw [List.getElem?_set_ne (Ne.symm za), ha'] at ea
        by_cases zb : b = i
        · subst zb
          rw [List.getElem?_set_self hi] at ea
          have := fresh a _ ha'
          have := Option.some.inj ea
          omega
        · rw [List.getElem?_set_ne (Ne.symm zb), hb'] at ea
          have := nod_ix h.nod (ha'.trans ea) hb'
          omega
    · by_cases z : j = i
      · subst z
        rw [List.getElem?_set_self hi] at h1
        cases h1
        have hx : j < xs.length := by rw [← h.ln]; exact hi
        rw [List.getElem?_set_self hx] at h2
        cases h2
        rw [List.getElem?_set_ne (by omega)]
        simp
      · rw [List.getElem?_set_ne (Ne.symm z)] at h1 h2
        rw [List.getElem?_set_ne (Ne.symm (h.ne h1)), List.getElem?_append_left (fresh j l h1)]
        exact h.it j l ns h1 h2
theorem nst_idx (h : Nst μ o ks xs) {i k : Nat} (e : ks[i]? = some k) : nidx (.nst o) (.dat (.int (i : Int))) μ = .ok (.own k) μ := by
  have hi : i < ks.length := (List.getElem?_eq_some_iff.mp e).1
  show (match μ[o]? with
    | some c => if c.st = CS.nest then (match ixN c.ds.length (i : Int) with
      | some j => (match c.ds[j]? with
        | some (.int k) => R.ok (SV.own k.toNat) μ
        | _ => .stuck)
      | none => .stuck) else .stuck
    | none => .stuck) = _
  rw [h.at_]
  dsimp only
  rw [if_pos rfl, ix_nn (by omega) (by rw [List.length_map]; omega)]
  dsimp only
  rw [Int.toNat_natCast, List.getElem?_map, e]
  rfl
/-- the lists are given up, one by one -/
theorem nfz_nat : ∀ (ks : List Nat) (xs : List (List Md)) (μ : List Cell), ks.Nodup → ks.length = xs.length → (∀ (i k : Nat) (ms : List Md), ks[i]? = some k → xs[i]? = some ms → μ[k]? = some ⟨.live, ms.map md⟩) → ∃ μ', nfz (ks.map pt) μ = some (xs.map ax, μ') ∧ μ'.length = μ.length ∧ ∀ j, j ∉ ks → μ'[j]? = μ[j]?
  | [], [], μ, _, _, _ => ⟨μ, rfl, rfl, fun _ _ => rfl⟩
  | [], _ :: _, _, _, h, _ => by cases h
  | _ :: _, [], _, _, h, _ => by cases h
  | k :: ks, ms :: xs, μ, nd, ln, it => by
    have h0 := it 0 k ms rfl rfl
    have hk : k < μ.length := (List.getElem?_eq_some_iff.mp h0).1
    have nk := (List.nodup_cons.mp nd).1
    obtain ⟨μ', e, l, q⟩ := nfz_nat ks xs (μ.set k ⟨.froz, ms.map md⟩) (List.nodup_cons.mp nd).2 (by simpa using ln) fun i l ns h1 h2 => by
      rw [List.getElem?_set_ne fun z => nk (by rw [z]; exact List.mem_of_getElem? h1)]
      exact it (i + 1) l ns (by simpa using h1) (by simpa using h2)
    refine ⟨μ', ?_, by rw [l, List.length_set], fun j hj => ?_⟩
    · show (match froze (Int.toNat (k : Nat)) μ with
        | some (ds, μ1) => match nfz (ks.map pt) μ1 with
          | some (es, μ2) => some (PyData.list ds :: es, μ2)
          | none => none
        | none => none) = _
      rw [Int.toNat_natCast, show froze k μ = some (ms.map md, μ.set k ⟨.froz, ms.map md⟩) from by simp [froze, h0]]
      dsimp only
      rw [e]
      rfl
    · rw [q j fun z => hj (List.mem_cons_of_mem _ z), List.getElem?_set_ne fun z => hj (by rw [z]; exact List.mem_cons_self ..)]
theorem Nst.keep (h : Nst μ o ks xs) : ∃ μ', (SV.nst o).nkeep μ = .ok (.dat (axs xs)) μ' ∧ μ'.length = μ.length ∧ μ'[o]? = some ⟨.froz, xs.map ax⟩ ∧ ∀ (j : Nat) (c : Cell), μ[j]? = some c → c.st = .arg → μ'[j]? = some c := by
  obtain ⟨μ', e, l, q⟩ := nfz_nat ks xs μ h.nod h.ln h.it
  refine ⟨μ'.set o ⟨.froz, xs.map ax⟩, ?_, by rw [List.length_set, l], by rw [List.getElem?_set_self (by rw [l]; exact (List.getElem?_eq_some_iff.mp h.at_).1)], fun j c e1 e2 => ?_⟩
  · show (match μ[o]? with
      | some c => if c.st = CS.froz then R.ok (SV.dat (.list c.ds)) μ else if c.st = CS.nest then (match nfz c.ds μ with
        | some (es, μ') => R.ok (SV.dat (.list es)) (μ'.set o ⟨CS.froz, es⟩)
        | none => .stuck) else .stuck
      | none => .stuck) = _
    rw [h.at_]
    dsimp only
    rw [if_neg (fun z => nomatch z), if_pos rfl, e]
  · have z1 : o ≠ j := fun z => by
      subst z
      rw [h.at_] at e1
      cases e1
      cases e2
    have z2 : j ∉ ks := fun z => by
      obtain ⟨i, hi, ei⟩ := List.getElem_of_mem z
      obtain ⟨ms, _, q2⟩ := h.getK (i := i) (k := j) (by simp [hi, ei])
      rw [q2] at e1
      cases e1
      cases e2
    rw [List.getElem?_set_ne z1, q j z2, e1]
end
/-- a nest that was just made -/
theorem nst_new (μ : List Cell) (xs : List (List Md)) : Nst (μ ++ ((xs.map (·.map md)).map (fun ds => (⟨.live, ds⟩ : Cell)) ++ [⟨.nest, (List.range' μ.length (xs.map (·.map md)).length).map fun k : Nat => .int k⟩])) (μ.length + xs.length) (List.range' μ.length xs.length) xs where
  at_ := by
    rw [List.getElem?_append_right (by omega), Nat.add_sub_cancel_left, List.getElem?_append_right (by simp)]
    simp
  nod := List.nodup_range'
  ln := by simp
  it := fun i k ms h1 h2 => by
    have hi : i < xs.length := (List.getElem?_eq_some_iff.mp h2).1
    rw [List.getElem?_range' hi] at h1
    cases h1
    rw [List.getElem?_append_right (by omega), List.getElem?_append_left (by simp; omega)]
    simp [h2]
open Classical in
/-- a loop over a nest whose turns leave it -/
theorem forN_step {o i1 i2 : Nat} {b : Rho → List Cell → RS} {cs : List D} {n k : Nat} {r : List D} {ρ ρ2 : Rho} {μ μ2 : List Cell} (h : μ[o]? = some ⟨.nest, cs⟩) (hb : b ((ρ.set i1 (some (.dat (.int n)))).set i2 (some (.own k))) μ = .nx ρ2 μ2) : forN o i1 i2 b cs n (pt k :: r) ρ μ = forN o i1 i2 b cs (n + 1) r ρ2 μ2 := by
  show (if μ[o]? = some ⟨.nest, cs⟩ then (match b ((ρ.set i1 (some (.dat (.int n)))).set i2 (some (.own (Int.toNat (k : Nat))))) μ with
      | .nx ρ2 μ2 => forN o i1 i2 b cs (n + 1) r ρ2 μ2
      | .ct ρ2 μ2 => forN o i1 i2 b cs (n + 1) r ρ2 μ2
      | _ => .stuck) else .stuck) = _
  rw [if_pos h, Int.toNat_natCast, hb]
open Classical in
theorem forN_end {o i1 i2 : Nat} {b : Rho → List Cell → RS} {cs : List D} {n : Nat} {ρ : Rho} {μ : List Cell} (h : μ[o]? = some ⟨.nest, cs⟩) : forN o i1 i2 b cs n [] ρ μ = .nx ρ μ := if_pos h
/-! ### axes changed -/
section
variable {G : Ge} {ρ : Rho} {μ : List Cell}
theorem pn_tn {ts : List Bool} {dss : List (List D)} {vs : List SV} {c : List SV → List Cell → RS} : parN (true :: ts) (.frn dss :: vs) μ ρ c = parN ts vs (μ ++ (dss.map (fun ds => ⟨.live, ds⟩) ++ [⟨.nest, (List.range' μ.length dss.length).map fun k : Nat => .int k⟩])) ρ fun ws μ2 => c (.nst (μ.length + dss.length) :: ws) μ2 := rfl
theorem nk_dat {d : D} : (SV.dat d).nkeep μ = .ok (.dat d) μ := rfl
theorem nk_again {o : Nat} {es : List D} (h : μ[o]? = some ⟨.froz, es⟩) : (SV.nst o).nkeep μ = .ok (.dat (.list es)) μ := by
  show (match μ[o]? with
    | some c => if c.st = CS.froz then R.ok (SV.dat (.list c.ds)) μ else if c.st = CS.nest then (match nfz c.ds μ with
      | some (es, μ') => R.ok (SV.dat (.list es)) (μ'.set o ⟨CS.froz, es⟩)
      | none => .stuck) else .stuck
    | none => .stuck) = _
  rw [h]
  rfl
theorem av_frz {x : IR} : (den G (.frz x)).av ρ μ = ((den G (.frz x)).e ρ μ).bind avOf := rfl
theorem out_d1 {d : D} {ds : List D} {R : List Cell} : outOf 1 (.rt (.dat d) (⟨.arg, ds⟩ :: R)) = some (.ret (.dat d) [ds]) := by
  simp [outOf, argsSt, retV, outC, CS.shut]
theorem out_f1 {d : List D} {ds : List D} {R : List Cell} : outOf 1 (.rt (.fre d) (⟨.arg, ds⟩ :: R)) = some (.ret (.fre d) [ds]) := by
  simp [outOf, argsSt, retV, outC, CS.shut]
end
theorem Nst.keep1 {ds : List D} {R : List Cell} {o : Nat} {ks : List Nat} {xs : List (List Md)} (h : Nst (⟨.arg, ds⟩ :: R) o ks xs) : ∃ R', (SV.nst o).nkeep (⟨.arg, ds⟩ :: R) = .ok (.dat (axs xs)) (⟨.arg, ds⟩ :: R') ∧ (⟨.arg, ds⟩ :: R' : List Cell)[o]? = some ⟨.froz, xs.map ax⟩ := by
  obtain ⟨μ', e1, _, e2, e3⟩ := h.keep
  have e0 := e3 0 ⟨.arg, ds⟩ rfl rfl
  cases μ' with
  | nil => cases e0
  | cons c R' =>
    cases e0
    exact ⟨R', e1, e2⟩
theorem Nst.pen {ds ds' : List D} {R : List Cell} {o : Nat} {ks : List Nat} {xs : List (List Md)} (h : Nst (⟨.arg, ds⟩ :: R) o ks xs) : Nst (⟨.arg, ds'⟩ :: R) o ks xs := h.other (j := 0) (c := ⟨.arg, ds⟩) (d := ⟨.arg, ds'⟩) rfl rfl
/-- a change within keeps the pen -/
theorem Nst.put1 {ds : List D} {R : List Cell} {o i k : Nat} {ks : List Nat} {xs : List (List Md)} (h : Nst (⟨.arg, ds⟩ :: R) o ks xs) (e : ks[i]? = some k) (ms : List Md) : ∃ R', (⟨.arg, ds⟩ :: R : List Cell).set k ⟨.live, ms.map md⟩ = ⟨.arg, ds⟩ :: R' ∧ Nst (⟨.arg, ds⟩ :: R') o ks (xs.set i ms) := by
  have hp := h.put e ms
  cases k with
  | zero =>
    obtain ⟨_, _, q⟩ := h.getK e
    cases q
  | succ k => exact ⟨R.set k ⟨.live, ms.map md⟩, rfl, hp⟩
theorem Nst.swap1 {ds : List D} {R : List Cell} {o i k : Nat} {ks : List Nat} {xs : List (List Md)} (h : Nst (⟨.arg, ds⟩ :: R) o ks xs) (e : ks[i]? = some k) (ms : List Md) : ∃ R' ks', stnR o (i : Int) (ms.map md) (⟨.arg, ds⟩ :: R) = some (⟨.arg, ds⟩ :: R') ∧ Nst (⟨.arg, ds⟩ :: R') o ks' (xs.set i ms) := by
  obtain ⟨e1, h1⟩ := h.swap e ms
  cases o with
  | zero =>
    have := h.at_
    cases this
  | succ o => exact ⟨_, _, e1, h1⟩
theorem split_ix {α : Type} : ∀ {l : List α} {i : Nat} {a : α}, l[i]? = some a → ∃ p q, l = p ++ a :: q ∧ ∀ b, l.set i b = p ++ b :: q
  | [], i, a, h => by simp at h
  | x :: l, 0, a, h => by
    cases h
    exact ⟨[], l, rfl, fun _ => rfl⟩
  | x :: l, i + 1, a, h => by
    obtain ⟨p, q, e1, e2⟩ := split_ix (l := l) (i := i) (a := a) (by simpa using h)
    exact ⟨x :: p, q, by rw [e1]; rfl, fun b => by rw [List.set_cons_succ, e2]; rfl⟩
theorem size_rev : ∀ ms : List Md, size ms.reverse = size ms
  | [] => rfl
  | m :: ms => by
    rw [List.reverse_cons, size_app, size_rev ms]
    show size ms * (m.1 * 1) = m.1 * size ms
    rw [Int.mul_one, Int.mul_comm]
theorem size_revs : ∀ xs : List (List Md), size xs.reverse.flatten = size xs.flatten
  | [] => rfl
  | ms :: xs => by
    rw [List.reverse_cons, List.flatten_append, size_app, size_revs xs, show [ms].flatten = ms from by simp, List.flatten_cons, size_app, Int.mul_comm]
theorem size_le_mid {a b c : List Md} {x : List Md} (ha : Pos a) (hb : Pos b) (hc : Pos c) (hx : Pos x) (h : size x ≤ size b) : size (a ++ (x ++ c)) ≤ size (a ++ (b ++ c)) := by
  rw [size_app, size_app, size_app, size_app]
  have h1 := size_pos ha
  have h2 := size_pos hc
  exact Int.mul_le_mul_of_nonneg_left (Int.mul_le_mul_of_nonneg_right h (by omega)) (by omega)
/-- one list within is exchanged -/
theorem vld_set {xs : List (List Md)} (v : Vld xs) {i : Nat} {ms ns : List Md} (e : xs[i]? = some ms) (hg : ∀ m ∈ ns, GoodM m) (hl : ns.length ≤ ms.length) (hs : size ns ≤ size ms) : Vld (xs.set i ns) ∧ (xs.set i ns).flatten.length ≤ xs.flatten.length := by
  obtain ⟨p, q, e1, e2⟩ := split_ix e
  have ef : xs.flatten = p.flatten ++ (ms ++ q.flatten) := by rw [e1]; simp
  have ef2 : (xs.set i ns).flatten = p.flatten ++ (ns ++ q.flatten) := by rw [e2]; simp
  have vp := v.pos
  rw [ef] at vp
  have hp : Pos ns := fun m hm => (hg m hm).s0
  have hlen : (xs.set i ns).flatten.length ≤ xs.flatten.length := by
    rw [ef, ef2]
    simp only [List.length_append]
    omega
  refine ⟨⟨by rw [List.length_set]; exact v.len, Nat.le_trans hlen v.many, fun m hm => ?_, Int.le_trans ?_ v.sz⟩, hlen⟩
  · rw [ef2] at hm
    rcases List.mem_append.mp hm with z | z
    · exact v.good m (by rw [ef]; exact List.mem_append_left _ z)
    · rcases List.mem_append.mp z with z | z
      · exact hg m z
      · exact v.good m (by rw [ef]; exact List.mem_append_right _ (List.mem_append_right _ z))
  · rw [ef, ef2]
    exact size_le_mid vp.left vp.right.left vp.right.right hp hs
theorem vld_ms {xs : List (List Md)} (v : Vld xs) {i : Nat} {ms : List Md} (e : xs[i]? = some ms) : ms.length ≤ 200 ∧ ∀ m ∈ ms, GoodM m := by
  obtain ⟨p, q, e1, _⟩ := split_ix e
  have ef : xs.flatten = p.flatten ++ (ms ++ q.flatten) := by rw [e1]; simp
  have := v.many
  rw [ef] at this
  simp only [List.length_append] at this
  exact ⟨by omega, fun m hm => v.good m (by rw [ef]; exact List.mem_append_right _ (List.mem_append_left _ hm))⟩
/-- one mode within is exchanged -/
theorem vld_set2 {xs : List (List Md)} (v : Vld xs) {i j : Nat} {ms : List Md} {m n : Md} (e : xs[i]? = some ms) (e2 : ms[j]? = some m) (g : GoodM n) (hs : n.1 ≤ m.1) : Vld (xs.set i (ms.set j n)) ∧ (xs.set i (ms.set j n)).flatten.length ≤ xs.flatten.length := by
  obtain ⟨_, gm⟩ := vld_ms v e
  obtain ⟨p, q, e3, e4⟩ := split_ix e2
  have pm : Pos ms := fun x hx => (gm x hx).s0
  rw [e3] at pm
  refine vld_set v e (fun x hx => ?_) (by rw [List.length_set]; exact Nat.le_refl _) ?_
  · rw [e4] at hx
    rcases List.mem_append.mp hx with z | z
    · exact gm x (by rw [e3]; exact List.mem_append_left _ z)
    · rcases List.mem_cons.mp z with rfl | z
      · exact g
      · exact gm x (by rw [e3]; exact List.mem_append_right _ (List.mem_cons_of_mem _ z))
  · rw [e4, e3]
    have := size_le_mid (a := p) (b := [m]) (c := q) (x := [n]) pm.left (fun x hx => by rw [List.mem_singleton.mp hx]; exact pm.right.tl.1) pm.right.tl.2 (fun x hx => by rw [List.mem_singleton.mp hx]; exact g.s0) (by show n.1 * 1 ≤ m.1 * 1; omega)
    simpa using this
theorem vld_rev {xs : List (List Md)} (v : Vld xs) : Vld xs.reverse ∧ xs.reverse.flatten.length ≤ xs.flatten.length := by
  have hlen : xs.reverse.flatten.length = xs.flatten.length := by simp
  refine ⟨⟨by rw [List.length_reverse]; exact v.len, by rw [hlen]; exact v.many, fun m hm => ?_, by rw [size_revs]; exact v.sz⟩, by omega⟩
  exact v.good m (by simp only [List.mem_flatten, List.mem_reverse] at hm ⊢; exact hm)
abbrev tup2 (n : Nat) : D → D := fun d => .tuple [.int n, d]
theorem pairs_map (n : Nat) : ∀ (m : Nat) (lo : Nat), (rangeD (lo : Int) m).map (tup2 n) = ((List.range' lo m).map fun j : Nat => ((n : Int), (j : Int))).map md
  | 0, _ => rfl
  | m + 1, lo => by
    rw [List.range'_succ, List.map_cons, List.map_cons, ← pairs_map n m (lo + 1)]
    rfl
theorem range_len : ∀ (n : Nat) (lo : Int), (rangeD lo n).length = n
  | 0, _ => rfl
  | n + 1, lo => by
    show (rangeD (lo + 1) n).length + 1 = n + 1
    rw [range_len n]
/-- the places of modes -/
def Plc (xs : List (List Md)) (PP : List Md) : Prop := ∀ q ∈ PP, ∃ (i j : Nat) (ms : List Md) (m : Md), q = ((i : Int), (j : Int)) ∧ xs[i]? = some ms ∧ ms[j]? = some m
theorem take_len {xs : List (List Md)} (n : Nat) (hm : xs.flatten.length ≤ 200) : (xs.take n).flatten.length ≤ 200 := by
  have : ((xs.take n).flatten ++ (xs.drop n).flatten).length = xs.flatten.length := by rw [← List.flatten_append, List.take_append_drop]
  rw [List.length_append] at this
  omega
theorem pn_len (n m : Nat) : ((List.range' 0 m).map fun j : Nat => ((n : Int), (j : Int))).length = m := by simp
end DL

namespace K04
open DL
open PySem PySem.Spec PyProof.Rows L2
/-! ### the text -/
def top (i : Nat) : Stmt := PySem.Challenge.pw_pacefold_k04_functions_compared.main.body.getD i (.Pass ⟨0, 0, 0, 0⟩)
abbrev con : List (Str × Int) := [("MOST_SIZE", 10000000000000000000000000000000000000000), ("MOST_STRIDE", 1000000000000000000000000000000000000000000000000000000000000), ("MOST_AXES", 8), ("MOST_MODES", 200)]
abbrev exc : List Str := ["FoldError", "NoAxes"]
abbrev sub : Str → Str → Bool := subT [("FoldError", "FoldError"), ("NoAxes", "NoAxes"), ("NoAxes", "FoldError")]
/-! _law_open -/
def N__law_open : List Str := ["_law_script", "_law_cells", "_law_k", "_law_cell"]
def ir__law_open : IR := .cons (.setO 1 (.blt .list1 (.cons (.sli (.var 0) (.nil) (.lit (.int 12))) (.nil)))) (.cons (.fo (.cons (.nm 2) (.cons (.nm 3) (.nil))) (.iEnu (.sli (.var 0) (.lit (.int 12)) (.lit (.int 63)))) (.cons (.sti 1 (.bin .Mod (.blt .int1 (.cons (.var 2) (.nil))) (.lit (.int 12))) (.bin .Add (.idx (.var 1) (.bin .Mod (.blt .int1 (.cons (.var 2) (.nil))) (.lit (.int 12)))) (.var 3))) (.nil))) (.cons (.ret (.lst (.cons (.var 1) (.cons (.lit (.int 0)) (.cons (.lit (.int 0)) (.nil)))))) (.nil)))
/-! _law_spread -/
def N__law_spread : List Str := ["_law_cell", "_law_at", "_law_primes", "_law_u", "_law_v", "_law_w"]
def ir__law_spread : IR := .cons (.ifs (.cmp .GtE (.var 0) (.bin .Pow (.lit (.int 10)) (.lit (.int 18)))) (.cons (.ret (.var 0)) (.nil)) (.nil)) (.cons (.set 2 (.lst (.cons (.lit (.int 2147483629)) (.cons (.lit (.int 2147483587)) (.cons (.lit (.int 2147483579)) (.cons (.lit (.int 2147483563)) (.cons (.lit (.int 2147483549)) (.cons (.lit (.int 2147483543)) (.cons (.lit (.int 2147483497)) (.cons (.lit (.int 2147483489)) (.nil))))))))))) (.cons (.set 2 (.bin .Add (.var 2) (.lst (.cons (.lit (.int 2147483477)) (.cons (.lit (.int 2147483423)) (.cons (.lit (.int 2147483399)) (.cons (.lit (.int 2147483353)) (.cons (.lit (.int 2147483323)) (.nil))))))))) (.cons (.set 3 (.bin .Add (.bin .Add (.bin .Mult (.bin .Mod (.blt .int1 (.cons (.var 0) (.nil))) (.lit (.int 1000000007))) (.bin .Add (.bin .Mult (.lit (.int 2)) (.var 1)) (.lit (.int 69069)))) (.bin .Mult (.var 1) (.lit (.int 40503)))) (.lit (.int 977)))) (.cons (.set 3 (.bin .Mod (.blt .int1 (.cons (.bin .Pow (.var 3) (.lit (.int 3))) (.nil))) (.idx (.var 2) (.bin .Mod (.blt .int1 (.cons (.var 1) (.nil))) (.lit (.int 13)))))) (.cons (.set 4 (.bin .Mod (.blt .int1 (.cons (.bin .Pow (.bin .Add (.bin .Add (.bin .Mult (.var 3) (.bin .Add (.var 1) (.lit (.int 3)))) (.bin .Mod (.blt .int1 (.cons (.var 0) (.nil))) (.lit (.int 65537)))) (.lit (.int 5))) (.lit (.int 5))) (.nil))) (.idx (.var 2) (.bin .Mod (.blt .int1 (.cons (.bin .Add (.var 1) (.lit (.int 5))) (.nil))) (.lit (.int 13)))))) (.cons (.set 5 (.bin .Mod (.blt .int1 (.cons (.bin .Pow (.bin .Add (.bin .Add (.var 4) (.bin .Mod (.blt .int1 (.cons (.var 3) (.nil))) (.lit (.int 1009)))) (.var 1)) (.lit (.int 3))) (.nil))) (.idx (.var 2) (.bin .Mod (.blt .int1 (.cons (.bin .Add (.var 1) (.lit (.int 7))) (.nil))) (.lit (.int 13)))))) (.cons (.ret (.bin .Add (.bin .Mult (.bin .Add (.bin .Mult (.var 3) (.lit (.int 2147483647))) (.var 4)) (.lit (.int 2147483647))) (.var 5))) (.nil))))))))
/-! _law_take -/
def N__law_take : List Str := ["_law_pen", "_law_amount", "_law_found", "_law_at", "_law_cell"]
def ir__law_take : IR := .cons (.ifs (.cmp .Lt (.idx (.var 0) (.lit (.int 2))) (.var 1)) (.cons (.set 3 (.idx (.var 0) (.lit (.int 1)))) (.cons (.set 4 (.lit (.int 0))) (.cons (.ifs (.cmp .Lt (.var 3) (.blt .len (.cons (.idx (.var 0) (.lit (.int 0))) (.nil)))) (.cons (.set 4 (.idx (.idx (.var 0) (.lit (.int 0))) (.var 3))) (.nil)) (.cons (.ifs (.cmp .Gt (.blt .len (.cons (.idx (.var 0) (.lit (.int 0))) (.nil))) (.lit (.int 0))) (.cons (.set 4 (.bin .Mod (.blt .int1 (.cons (.idx (.idx (.var 0) (.lit (.int 0))) (.bin .Mod (.blt .int1 (.cons (.bin .Add (.bin .Mult (.var 3) (.lit (.int 5))) (.lit (.int 3))) (.nil))) (.blt .len (.cons (.idx (.var 0) (.lit (.int 0))) (.nil))))) (.nil))) (.bin .Add (.bin .Pow (.lit (.int 10)) (.lit (.int 17))) (.var 3)))) (.nil)) (.nil)) (.nil))) (.cons (.sti 0 (.lit (.int 1)) (.bin .Add (.var 3) (.lit (.int 1)))) (.cons (.sti 0 (.lit (.int 2)) (.cal 1 (.cons (.var 4) (.cons (.var 3) (.nil))))) (.nil)))))) (.nil)) (.cons (.set 2 (.bin .Mod (.blt .int1 (.cons (.idx (.var 0) (.lit (.int 2))) (.nil))) (.var 1))) (.cons (.sti 0 (.lit (.int 2)) (.bin .FloorDiv (.idx (.var 0) (.lit (.int 2))) (.var 1))) (.cons (.ret (.var 2)) (.nil))))
/-! _law_one_of -/
def N__law_one_of : List Str := ["_law_pen", "_law_some"]
def ir__law_one_of : IR := .cons (.ret (.idx (.var 1) (.cal 2 (.cons (.lend 0) (.cons (.blt .len (.cons (.var 1) (.nil))) (.nil)))))) (.nil)
/-! _law_draw_size -/
def N__law_draw_size : List Str := ["_law_pen", "_law_room"]
def ir__law_draw_size : IR := .cons (.ret (.blt .min2 (.cons (.var 1) (.cons (.cal 3 (.cons (.lend 0) (.cons (.lst (.cons (.lit (.int 1)) (.cons (.lit (.int 2)) (.cons (.lit (.int 2)) (.cons (.lit (.int 2)) (.cons (.lit (.int 3)) (.cons (.lit (.int 3)) (.cons (.lit (.int 4)) (.cons (.lit (.int 5)) (.cons (.lit (.int 6)) (.cons (.lit (.int 8)) (.cons (.bin .Add (.lit (.int 1)) (.cal 2 (.cons (.lend 0) (.cons (.var 1) (.nil))))) (.nil))))))))))))) (.nil)))) (.nil))))) (.nil)
/-! _law_flat -/
def N__law_flat : List Str := ["_law_axes", "_law_found", "_law_axis"]
def ir__law_flat : IR := .cons (.setO 1 (.lst (.nil))) (.cons (.fo (.nm 2) (.iSeq (.var 0)) (.cons (.setO 1 (.bin .Add (.var 1) (.blt .list1 (.cons (.var 2) (.nil))))) (.nil))) (.cons (.ret (.var 1)) (.nil)))
/-! _law_draw_stride -/
def N__law_draw_stride : List Str := ["_law_pen", "_law_modes", "_law_unit", "_law_last", "_law_some"]
def ir__law_draw_stride : IR := .cons (.set 3 (.ife (.cmp .NotEq (.var 1) (.lst (.nil))) (.bin .Mult (.idx (.idx (.var 1) (.neg (.lit (.int 1)))) (.lit (.int 0))) (.idx (.idx (.var 1) (.neg (.lit (.int 1)))) (.lit (.int 1)))) (.lit (.int 1)))) (.cons (.set 4 (.lst (.cons (.var 3) (.cons (.var 3) (.cons (.var 2) (.cons (.bin .Mult (.var 2) (.lit (.int 2))) (.cons (.lit (.int 0)) (.cons (.lit (.int 1)) (.cons (.bin .Add (.lit (.int 1)) (.cal 2 (.cons (.lend 0) (.cons (.lit (.int 9)) (.nil))))) (.cons (.bin .Sub (.neg (.lit (.int 1))) (.cal 2 (.cons (.lend 0) (.cons (.lit (.int 9)) (.nil))))) (.cons (.bin .Add (.var 3) (.lit (.int 1))) (.cons (.bin .Pow (.lit (.int 10)) (.lit (.int 6))) (.nil))))))))))))) (.cons (.ret (.cal 3 (.cons (.lend 0) (.cons (.var 4) (.nil))))) (.nil)))
/-! _law_draw_axes -/
def N__law_draw_axes : List Str := ["_law_pen", "_law_lists", "_law_room", "_law_again", "_law_found", "_law_left", "_law_unit", "_law_axis", "_law_other", "_law_many_here", "_law_behind"]
def ir__law_draw_axes : IR := .cons (.par [(4, true), (5, false), (6, false)] (.cons (.lst (.nil)) (.cons (.var 2) (.cons (.lit (.int 1)) (.nil))))) (.cons (.fo (.nm 3) (.iRng (.cons (.cal 2 (.cons (.lend 0) (.cons (.bin .Add (.var 1) (.lit (.int 1))) (.nil)))) (.nil))) (.cons (.setO 7 (.lst (.nil))) (.cons (.fo (.nm 8) (.iRng (.cons (.cal 2 (.cons (.lend 0) (.cons (.lit (.int 4)) (.nil)))) (.nil))) (.cons (.par [(9, false), (10, true)] (.cons (.cal 4 (.cons (.lend 0) (.cons (.var 5) (.nil)))) (.cons (.ife (.cmp .NotEq (.var 7) (.lst (.nil))) (.var 7) (.cal 5 (.cons (.var 4) (.nil)))) (.nil)))) (.cons (.app 7 (.tup (.cons (.var 9) (.cons (.cal 6 (.cons (.lend 0) (.cons (.lend 10) (.cons (.var 6) (.nil))))) (.nil))))) (.cons (.par [(5, false), (6, false)] (.cons (.bin .FloorDiv (.var 5) (.var 9)) (.cons (.bin .Mult (.var 6) (.var 9)) (.nil)))) (.nil))))) (.cons (.app 4 (.var 7)) (.nil))))) (.cons (.ret (.var 4)) (.nil)))
/-! _law_draw_great -/
def N__law_draw_great : List Str := ["_law_pen", "_law_lists", "_law_again", "_law_found", "_law_left", "_law_axis", "_law_other", "_law_some", "_law_many_here", "_law_last", "_law_stride"]
def ir__law_draw_great : IR := .cons (.par [(3, true), (4, false)] (.cons (.lst (.nil)) (.cons (.bin .Pow (.lit (.int 10)) (.lit (.int 40))) (.nil)))) (.cons (.fo (.nm 2) (.iRng (.cons (.cal 2 (.cons (.lend 0) (.cons (.bin .Add (.var 1) (.lit (.int 1))) (.nil)))) (.nil))) (.cons (.setO 5 (.lst (.nil))) (.cons (.fo (.nm 6) (.iRng (.cons (.cal 2 (.cons (.lend 0) (.cons (.lit (.int 5)) (.nil)))) (.nil))) (.cons (.set 7 (.lst (.cons (.lit (.int 1)) (.cons (.lit (.int 2)) (.cons (.lit (.int 3)) (.cons (.lit (.int 10)) (.cons (.lit (.int 997)) (.cons (.bin .Pow (.lit (.int 10)) (.lit (.int 6))) (.cons (.bin .Add (.bin .Pow (.lit (.int 10)) (.lit (.int 9))) (.lit (.int 7))) (.cons (.bin .Pow (.lit (.int 10)) (.lit (.int 20))) (.cons (.bin .Add (.lit (.int 1)) (.cal 2 (.cons (.lend 0) (.cons (.bin .Pow (.lit (.int 10)) (.lit (.int 8))) (.nil))))) (.nil)))))))))))) (.cons (.set 8 (.blt .min2 (.cons (.var 4) (.cons (.cal 3 (.cons (.lend 0) (.cons (.var 7) (.nil)))) (.nil))))) (.cons (.set 9 (.ife (.cmp .NotEq (.var 5) (.lst (.nil))) (.bin .Mult (.idx (.idx (.var 5) (.neg (.lit (.int 1)))) (.lit (.int 0))) (.idx (.idx (.var 5) (.neg (.lit (.int 1)))) (.lit (.int 1)))) (.lit (.int 1)))) (.cons (.set 7 (.lst (.cons (.var 9) (.cons (.var 9) (.cons (.lit (.int 0)) (.cons (.lit (.int 1)) (.cons (.bin .Pow (.lit (.int 10)) (.lit (.int 60))) (.cons (.neg (.bin .Pow (.lit (.int 10)) (.lit (.int 60)))) (.cons (.cal 2 (.cons (.lend 0) (.cons (.bin .Pow (.lit (.int 10)) (.lit (.int 9))) (.nil)))) (.cons (.bin .Sub (.neg (.lit (.int 1))) (.cal 2 (.cons (.lend 0) (.cons (.bin .Pow (.lit (.int 10)) (.lit (.int 9))) (.nil))))) (.nil))))))))))) (.cons (.set 10 (.cal 3 (.cons (.lend 0) (.cons (.bin .Add (.var 7) (.lst (.cons (.bin .Add (.var 9) (.lit (.int 1))) (.cons (.bin .Pow (.lit (.int 10)) (.lit (.int 30))) (.nil))))) (.nil))))) (.cons (.app 5 (.tup (.cons (.var 8) (.cons (.ife (.chn .LtE .LtE (.neg (.bin .Pow (.lit (.int 10)) (.lit (.int 60)))) (.var 10) (.bin .Pow (.lit (.int 10)) (.lit (.int 60)))) (.var 10) (.lit (.int 1))) (.nil))))) (.cons (.set 4 (.bin .FloorDiv (.var 4) (.var 8))) (.nil))))))))) (.cons (.app 3 (.var 5)) (.nil))))) (.cons (.ret (.var 3)) (.nil)))
/-! _law_parted -/
def N__law_parted : List Str := ["_law_pen", "_law_axes", "_law_found", "_law_axis", "_law_row", "_law_k", "_law_j", "_law_many_here", "_law_stride", "_law_half", "_law_one"]
def ir__law_parted : IR := .cons (.setO 2 (.lst (.nil))) (.cons (.fo (.nm 3) (.iSeq (.var 1)) (.cons (.setO 4 (.lst (.nil))) (.cons (.fo (.cons (.nm 7) (.cons (.nm 8) (.nil))) (.iSeq (.var 3)) (.cons (.set 9 (.cal 3 (.cons (.lend 0) (.cons (.lc [("_law_one", 10)] (.nm 10) (.iSeq (.lst (.cons (.lit (.int 2)) (.cons (.lit (.int 3)) (.cons (.lit (.int 4)) (.cons (.lit (.int 5)) (.cons (.lit (.int 7)) (.cons (.lit (.int 10)) (.cons (.lit (.int 1)) (.nil)))))))))) (.cmp .Eq (.bin .Mult (.bin .FloorDiv (.var 7) (.var 10)) (.var 10)) (.var 7)) (.var 10)) (.nil))))) (.cons (.ifs (.cmp .Gt (.blt .abs (.cons (.bin .Mult (.var 8) (.var 9)) (.nil))) (.bin .Pow (.lit (.int 10)) (.lit (.int 60)))) (.cons (.set 9 (.lit (.int 1))) (.nil)) (.nil)) (.cons (.setO 4 (.bin .Add (.var 4) (.lst (.cons (.tup (.cons (.var 9) (.cons (.var 8) (.nil)))) (.cons (.tup (.cons (.bin .FloorDiv (.var 7) (.var 9)) (.cons (.bin .Mult (.var 8) (.var 9)) (.nil)))) (.nil)))))) (.cons (.ifs (.cmp .Eq (.cal 2 (.cons (.lend 0) (.cons (.lit (.int 4)) (.nil)))) (.lit (.int 0))) (.cons (.app 4 (.tup (.cons (.lit (.int 1)) (.cons (.cal 2 (.cons (.lend 0) (.cons (.lit (.int 100)) (.nil)))) (.nil))))) (.nil)) (.nil)) (.nil)))))) (.cons (.app 2 (.var 4)) (.nil))))) (.cons (.ifs (.bop .And (.cons (.cmp .NotEq (.var 2) (.lst (.nil))) (.cons (.cmp .Eq (.cal 2 (.cons (.lend 0) (.cons (.lit (.int 3)) (.nil)))) (.lit (.int 0))) (.nil)))) (.cons (.set 5 (.cal 2 (.cons (.lend 0) (.cons (.blt .len (.cons (.var 2) (.nil))) (.nil))))) (.cons (.set 6 (.cal 2 (.cons (.lend 0) (.cons (.bin .Add (.blt .len (.cons (.idx (.var 2) (.var 5)) (.nil))) (.lit (.int 1))) (.nil))))) (.cons (.setO 2 (.bin .Add (.bin .Add (.sli (.var 2) (.nil) (.var 5)) (.lst (.cons (.sli (.idx (.var 2) (.var 5)) (.nil) (.var 6)) (.cons (.sli (.idx (.var 2) (.var 5)) (.var 6) (.nil)) (.nil))))) (.sli (.var 2) (.bin .Add (.var 5) (.lit (.int 1))) (.nil)))) (.nil)))) (.nil)) (.cons (.ret (.ife (.cmp .LtE (.blt .len (.cons (.var 2) (.nil))) (.lit (.int 8))) (.sli (.var 2) (.nil) (.lit (.int 8))) (.var 1))) (.nil))))
/-! _law_many -/
def N__law_many : List Str := ["_law_modes", "_law_found", "_law_mode"]
def ir__law_many : IR := .cons (.set 1 (.lit (.int 1))) (.cons (.fo (.nm 2) (.iSeq (.var 0)) (.cons (.set 1 (.bin .Mult (.var 1) (.idx (.var 2) (.lit (.int 0))))) (.nil))) (.cons (.ret (.var 1)) (.nil)))
/-! _law_changed -/
def N__law_changed : List Str := ["_law_pen", "_law_axes", "_law_places", "_law_found", "_law_way", "_law_k", "_law_axis", "_law_j", "_law_many_here", "_law_stride"]
def ir__law_changed : IR := .cons (.par [(3, true), (4, false)] (.cons (.nlc [("_law_axis", 6)] 6 (.iSeq (.var 1))) (.cons (.cal 2 (.cons (.lend 0) (.cons (.lit (.int 7)) (.nil)))) (.nil)))) (.cons (.set 2 (.lst (.nil))) (.cons (.foN 5 6 3 (.cons (.set 2 (.bin .Add (.var 2) (.lc [("_law_j", 7)] (.nm 7) (.iRng (.cons (.blt .len (.cons (.var 6) (.nil))) (.nil))) (.nil) (.tup (.cons (.var 5) (.cons (.var 7) (.nil))))))) (.nil))) (.cons (.ifs (.bop .Or (.cons (.cmp .Eq (.var 2) (.lst (.nil))) (.cons (.cmp .Eq (.var 4) (.lit (.int 0))) (.nil)))) (.cons (.ifs (.bop .Or (.cons (.cmp .Eq (.blt .len (.cons (.frz (.var 3)) (.nil))) (.lit (.int 8))) (.cons (.cmp .Gt (.cal 10 (.cons (.cal 5 (.cons (.frz (.var 3)) (.nil))) (.nil))) (.bin .Pow (.lit (.int 10)) (.lit (.int 39)))) (.nil)))) (.cons (.ret (.frz (.var 3))) (.nil)) (.nil)) (.cons (.ret (.bin .Add (.frz (.var 3)) (.lst (.cons (.lst (.cons (.tup (.cons (.lit (.int 2)) (.cons (.cal 2 (.cons (.lend 0) (.cons (.lit (.int 5)) (.nil)))) (.nil)))) (.nil))) (.nil))))) (.nil))) (.nil)) (.cons (.unp (.cons (.nm 5) (.cons (.nm 7) (.nil))) (.cal 3 (.cons (.lend 0) (.cons (.var 2) (.nil))))) (.cons (.unp (.cons (.nm 8) (.cons (.nm 9) (.nil))) (.idx (.idxN (.var 3) (.var 5)) (.var 7))) (.cons (.ifs (.cmp .Lt (.var 4) (.lit (.int 3))) (.cons (.set 9 (.bin .Add (.var 9) (.cal 3 (.cons (.lend 0) (.cons (.lst (.cons (.lit (.int 1)) (.cons (.neg (.lit (.int 1))) (.cons (.var 8) (.nil))))) (.nil)))))) (.cons (.sti2 3 (.var 5) (.var 7) (.tup (.cons (.var 8) (.cons (.ife (.cmp .LtE (.blt .abs (.cons (.var 9) (.nil))) (.bin .Pow (.lit (.int 10)) (.lit (.int 60)))) (.var 9) (.lit (.int 7))) (.nil))))) (.nil))) (.cons (.ifs (.cmp .Eq (.var 4) (.lit (.int 3))) (.cons (.sti2 3 (.var 5) (.var 7) (.tup (.cons (.blt .max2 (.cons (.lit (.int 1)) (.cons (.bin .Sub (.var 8) (.lit (.int 1))) (.nil)))) (.cons (.var 9) (.nil))))) (.nil)) (.cons (.ifs (.cmp .Eq (.var 4) (.lit (.int 4))) (.cons (.stn 3 (.var 5) (.rev (.idxN (.var 3) (.var 5)))) (.nil)) (.cons (.ifs (.cmp .Eq (.var 4) (.lit (.int 5))) (.cons (.stn 3 (.var 5) (.sli (.idxN (.var 3) (.var 5)) (.nil) (.var 7))) (.nil)) (.cons (.set 3 (.rev (.frz (.var 3)))) (.nil))) (.nil))) (.nil))) (.nil))) (.cons (.ret (.frz (.var 3))) (.nil))))))))
/-! modes_of -/
def N_modes_of : List Str := ["axes", "axis", "mode"]
def ir_modes_of : IR := .cons (.ret (.lc2 [("axis", 1), ("mode", 2)] [2] (.nm 1) (.iSeq (.var 0)) (.nm 2) (.iSeq (.var 1)) (.var 2))) (.nil)
/-! raw_size -/
def N_raw_size : List Str := ["axes", "found", "size", "stride"]
def ir_raw_size : IR := .cons (.set 1 (.lit (.int 1))) (.cons (.fo (.cons (.nm 2) (.cons (.nm 3) (.nil))) (.iSeq (.cal 12 (.cons (.var 0) (.nil)))) (.cons (.set 1 (.bin .Mult (.var 1) (.var 2))) (.nil))) (.cons (.ret (.var 1)) (.nil)))
/-! is_integer -/
def N_is_integer : List Str := ["thing", "least", "most"]
def ir_is_integer : IR := .cons (.ret (.bop .And (.cons (.isi (.var 0) [.int]) (.cons (.nt (.isi (.var 0) [.bool])) (.cons (.chn .LtE .LtE (.var 1) (.var 0) (.var 2)) (.nil)))))) (.nil)
/-! is_mode -/
def N_is_mode : List Str := ["thing"]
def ir_is_mode : IR := .cons (.ifs (.bop .Or (.cons (.nt (.isi (.var 0) [.tuple])) (.cons (.cmp .NotEq (.blt .len (.cons (.var 0) (.nil))) (.lit (.int 2))) (.nil)))) (.cons (.ret (.lit (.bool false))) (.nil)) (.nil)) (.cons (.ret (.bop .And (.cons (.cal 14 (.cons (.idx (.var 0) (.lit (.int 0))) (.cons (.lit (.int 1)) (.cons (.glb "MOST_SIZE" (.int 10000000000000000000000000000000000000000)) (.nil))))) (.cons (.cal 14 (.cons (.idx (.var 0) (.lit (.int 1))) (.cons (.neg (.glb "MOST_STRIDE" (.int 1000000000000000000000000000000000000000000000000000000000000))) (.cons (.glb "MOST_STRIDE" (.int 1000000000000000000000000000000000000000000000000000000000000)) (.nil))))) (.nil))))) (.nil))
/-! is_axes -/
def N_is_axes : List Str := ["thing", "modes", "axis", "mode"]
def ir_is_axes : IR := .cons (.ifs (.bop .Or (.cons (.nt (.isi (.var 0) [.list])) (.cons (.cmp .Gt (.blt .len (.cons (.var 0) (.nil))) (.glb "MOST_AXES" (.int 8))) (.cons (.nt (.blt .all1 (.cons (.lc [("axis", 2)] (.nm 2) (.iSeq (.var 0)) (.nil) (.isi (.var 2) [.list])) (.nil)))) (.nil))))) (.cons (.ret (.lit (.bool false))) (.nil)) (.nil)) (.cons (.set 1 (.cal 12 (.cons (.var 0) (.nil)))) (.cons (.ifs (.bop .Or (.cons (.cmp .Gt (.blt .len (.cons (.var 1) (.nil))) (.glb "MOST_MODES" (.int 200))) (.cons (.nt (.blt .all1 (.cons (.lc [("mode", 3)] (.nm 3) (.iSeq (.var 1)) (.nil) (.cal 15 (.cons (.var 3) (.nil)))) (.nil)))) (.nil)))) (.cons (.ret (.lit (.bool false))) (.nil)) (.nil)) (.cons (.ret (.cmp .LtE (.cal 13 (.cons (.var 0) (.nil))) (.glb "MOST_SIZE" (.int 10000000000000000000000000000000000000000)))) (.nil))))
/-! need_axes -/
def N_need_axes : List Str := ["axes"]
def ir_need_axes : IR := .cons (.ifs (.nt (.cal 16 (.cons (.var 0) (.nil)))) (.cons (.rai "NoAxes" "not axes") (.nil)) (.nil)) (.nil)
/-! apart_at -/
def N_apart_at : List Str := ["one", "other", "unit", "size", "stride", "many", "step"]
def ir_apart_at : IR := .cons (.set 2 (.lit (.int 1))) (.cons (.fo (.cons (.cons (.nm 3) (.cons (.nm 4) (.nil))) (.cons (.cons (.nm 5) (.cons (.nm 6) (.nil))) (.nil))) (.iZip (some false) (.var 0) (.var 1)) (.cons (.ifs (.cmp .NotEq (.var 4) (.var 6)) (.cons (.ret (.var 2)) (.nil)) (.nil)) (.cons (.ifs (.cmp .NotEq (.var 3) (.var 5)) (.cons (.ret (.bin .Mult (.var 2) (.blt .min2 (.cons (.var 3) (.cons (.var 5) (.nil)))))) (.nil)) (.nil)) (.cons (.set 2 (.bin .Mult (.var 2) (.var 3))) (.nil))))) (.cons (.ret (.ife (.cmp .Eq (.blt .len (.cons (.var 0) (.nil))) (.blt .len (.cons (.var 1) (.nil)))) (.lit .none) (.var 2))) (.nil)))
/-! short_axis -/
def N_short_axis : List Str := ["modes", "found", "size", "stride"]
def ir_short_axis : IR := .cons (.setO 1 (.lst (.nil))) (.cons (.fo (.cons (.nm 2) (.cons (.nm 3) (.nil))) (.iSeq (.var 0)) (.cons (.ifs (.cmp .Eq (.var 2) (.lit (.int 1))) (.cons (.ctn) (.nil)) (.nil)) (.cons (.ifs (.bop .And (.cons (.cmp .NotEq (.var 1) (.lst (.nil))) (.cons (.cmp .Eq (.var 3) (.bin .Mult (.idx (.idx (.var 1) (.neg (.lit (.int 1)))) (.lit (.int 0))) (.idx (.idx (.var 1) (.neg (.lit (.int 1)))) (.lit (.int 1))))) (.nil)))) (.cons (.sti 1 (.neg (.lit (.int 1))) (.tup (.cons (.bin .Mult (.idx (.idx (.var 1) (.neg (.lit (.int 1)))) (.lit (.int 0))) (.var 2)) (.cons (.idx (.idx (.var 1) (.neg (.lit (.int 1)))) (.lit (.int 1))) (.nil))))) (.nil)) (.cons (.app 1 (.tup (.cons (.var 2) (.cons (.var 3) (.nil))))) (.nil))) (.nil)))) (.cons (.ret (.var 1)) (.nil)))
/-! raw_joined -/
def N_raw_joined : List Str := ["axes"]
def ir_raw_joined : IR := .cons (.ret (.cal 19 (.cons (.cal 12 (.cons (.var 0) (.nil))) (.nil)))) (.nil)
/-! apart -/
def N_apart : List Str := ["one", "other"]
def ir_apart : IR := .cons (.xpr (.cal 17 (.cons (.var 0) (.nil)))) (.cons (.xpr (.cal 17 (.cons (.var 1) (.nil)))) (.cons (.ret (.cal 18 (.cons (.cal 20 (.cons (.var 0) (.nil))) (.cons (.cal 20 (.cons (.var 1) (.nil))) (.nil))))) (.nil)))
/-! _law_same -/
def N__law_same : List Str := ["_law_found", "_law_due", "_law_one", "_law_other"]
def ir__law_same : IR := .cons (.ifs (.bop .Or (.cons (.cmp .Is (.var 1) (.lit .none)) (.cons (.cmp .Is (.var 0) (.lit .none)) (.nil)))) (.cons (.ret (.bop .And (.cons (.cmp .Is (.var 1) (.lit .none)) (.cons (.cmp .Is (.var 0) (.lit .none)) (.nil))))) (.nil)) (.nil)) (.cons (.ifs (.bop .Or (.cons (.isi (.var 1) [.bool]) (.cons (.isi (.var 0) [.bool]) (.nil)))) (.cons (.ret (.bop .And (.cons (.isi (.var 1) [.bool]) (.cons (.isi (.var 0) [.bool]) (.cons (.cmp .Eq (.var 0) (.var 1)) (.nil)))))) (.nil)) (.nil)) (.cons (.ifs (.isi (.var 1) [.int, .str]) (.cons (.ifs (.cmp .NotEq (.isi (.var 0) [.int]) (.isi (.var 1) [.int])) (.cons (.ret (.lit (.bool false))) (.nil)) (.nil)) (.cons (.ret (.bop .And (.cons (.isi (.var 0) [.int, .str]) (.cons (.cmp .Eq (.var 0) (.var 1)) (.nil))))) (.nil))) (.nil)) (.cons (.ifs (.bop .Or (.cons (.cmp .NotEq (.isi (.var 1) [.tuple]) (.isi (.var 0) [.tuple])) (.cons (.cmp .NotEq (.isi (.var 1) [.list]) (.isi (.var 0) [.list])) (.nil)))) (.cons (.ret (.lit (.bool false))) (.nil)) (.nil)) (.cons (.ifs (.cmp .NotEq (.blt .len (.cons (.var 0) (.nil))) (.blt .len (.cons (.var 1) (.nil)))) (.cons (.ret (.lit (.bool false))) (.nil)) (.nil)) (.cons (.ret (.cmp .NotIn (.lit (.bool false)) (.lc [("_law_one", 2), ("_law_other", 3)] (.cons (.nm 2) (.cons (.nm 3) (.nil))) (.iZip none (.var 0) (.var 1)) (.nil) (.cal 22 (.cons (.var 2) (.cons (.var 3) (.nil))))))) (.nil))))))
/-! _law_short -/
def N__law_short : List Str := ["_law_modes", "_law_found", "_law_k", "_law_mode", "_law_one", "_law_other"]
def ir__law_short : IR := .cons (.set 1 (.lc [("_law_mode", 3)] (.nm 3) (.iSeq (.var 0)) (.cmp .NotEq (.idx (.var 3) (.lit (.int 0))) (.lit (.int 1))) (.var 3))) (.cons (.set 2 (.lit (.int 0))) (.cons (.whl (.cmp .Lt (.bin .Add (.var 2) (.lit (.int 1))) (.blt .len (.cons (.var 1) (.nil)))) (.cons (.par [(4, false), (5, false)] (.cons (.idx (.var 1) (.var 2)) (.cons (.idx (.var 1) (.bin .Add (.var 2) (.lit (.int 1)))) (.nil)))) (.cons (.ifs (.cmp .Eq (.idx (.var 5) (.lit (.int 1))) (.bin .Mult (.idx (.var 4) (.lit (.int 0))) (.idx (.var 4) (.lit (.int 1))))) (.cons (.set 1 (.bin .Add (.bin .Add (.sli (.var 1) (.nil) (.var 2)) (.lst (.cons (.tup (.cons (.bin .Mult (.idx (.var 4) (.lit (.int 0))) (.idx (.var 5) (.lit (.int 0)))) (.cons (.idx (.var 4) (.lit (.int 1))) (.nil)))) (.nil)))) (.sli (.var 1) (.bin .Add (.var 2) (.lit (.int 2))) (.nil)))) (.cons (.set 2 (.lit (.int 0))) (.nil))) (.cons (.set 2 (.bin .Add (.var 2) (.lit (.int 1)))) (.nil))) (.nil)))) (.cons (.ret (.var 1)) (.nil))))
/-! _law_is_int -/
def N__law_is_int : List Str := ["_law_value", "_law_least", "_law_greatest"]
def ir__law_is_int : IR := .cons (.ret (.bop .And (.cons (.isi (.var 0) [.int]) (.cons (.nt (.isi (.var 0) [.bool])) (.cons (.chn .LtE .LtE (.var 1) (.var 0) (.var 2)) (.nil)))))) (.nil)
/-! _law_worth -/
def N__law_worth : List Str := ["_law_modes", "_law_index", "_law_found", "_law_left", "_law_many_here", "_law_stride"]
def ir__law_worth : IR := .cons (.par [(2, false), (3, false)] (.cons (.lit (.int 0)) (.cons (.var 1) (.nil)))) (.cons (.fo (.cons (.nm 4) (.cons (.nm 5) (.nil))) (.iSeq (.var 0)) (.cons (.set 2 (.bin .Add (.var 2) (.bin .Mult (.bin .Sub (.var 3) (.bin .Mult (.bin .FloorDiv (.var 3) (.var 4)) (.var 4))) (.var 5)))) (.cons (.set 3 (.bin .FloorDiv (.var 3) (.var 4))) (.nil)))) (.cons (.ret (.var 2)) (.nil)))
/-! _law_told_right -/
def N__law_told_right : List Str := ["_law_pen", "_law_one", "_law_other", "_law_sizes", "_law_last", "_law_picks", "_law_first", "_law_second", "_law_told", "_law_index", "_law_again"]
def ir__law_told_right : IR := .cons (.par [(6, false), (7, false), (8, false)] (.cons (.cal 5 (.cons (.var 1) (.nil))) (.cons (.cal 5 (.cons (.var 2) (.nil))) (.cons (.cal 21 (.cons (.var 1) (.cons (.var 2) (.nil)))) (.nil))))) (.cons (.set 3 (.lst (.cons (.cal 10 (.cons (.var 6) (.nil))) (.cons (.cal 10 (.cons (.var 7) (.nil))) (.nil))))) (.cons (.ifs (.cmp .NotEq (.cmp .Is (.var 8) (.lit .none)) (.cmp .Eq (.cal 23 (.cons (.var 6) (.nil))) (.cal 23 (.cons (.var 7) (.nil))))) (.cons (.ret (.lit (.bool false))) (.nil)) (.nil)) (.cons (.ifs (.nt (.cal 22 (.cons (.cal 21 (.cons (.var 2) (.cons (.var 1) (.nil)))) (.cons (.var 8) (.nil))))) (.cons (.ret (.lit (.bool false))) (.nil)) (.nil)) (.cons (.set 4 (.ife (.cmp .Is (.var 8) (.lit .none)) (.blt .min1 (.cons (.var 3) (.nil))) (.var 8))) (.cons (.ifs (.bop .And (.cons (.cmp .IsNot (.var 8) (.lit .none)) (.cons (.nt (.cal 24 (.cons (.var 8) (.cons (.lit (.int 0)) (.cons (.bin .Sub (.blt .max1 (.cons (.var 3) (.nil))) (.lit (.int 1))) (.nil)))))) (.nil)))) (.cons (.ret (.lit (.bool false))) (.nil)) (.nil)) (.cons (.ifs (.bop .And (.cons (.cmp .IsNot (.var 8) (.lit .none)) (.cons (.cmp .Lt (.var 8) (.blt .min1 (.cons (.var 3) (.nil)))) (.cons (.cmp .Eq (.cal 25 (.cons (.var 6) (.cons (.var 8) (.nil)))) (.cal 25 (.cons (.var 7) (.cons (.var 8) (.nil))))) (.nil))))) (.cons (.ret (.lit (.bool false))) (.nil)) (.nil)) (.cons (.ifs (.bop .Or (.cons (.bop .And (.cons (.cmp .IsNot (.var 8) (.lit .none)) (.cons (.cmp .Gt (.var 8) (.blt .min1 (.cons (.var 3) (.nil)))) (.nil)))) (.cons (.bop .And (.cons (.cmp .Is (.var 8) (.lit .none)) (.cons (.cmp .NotEq (.idx (.var 3) (.lit (.int 0))) (.idx (.var 3) (.lit (.int 1)))) (.nil)))) (.nil)))) (.cons (.ret (.lit (.bool false))) (.nil)) (.nil)) (.cons (.set 5 (.lrg (.blt .min2 (.cons (.var 4) (.cons (.lit (.int 40)) (.nil)))))) (.cons (.ifs (.cmp .Gt (.var 4) (.lit (.int 40))) (.cons (.set 5 (.bin .Add (.lc [("_law_again", 10)] (.nm 10) (.iRng (.cons (.lit (.int 8)) (.nil))) (.nil) (.cal 2 (.cons (.lend 0) (.cons (.var 4) (.nil))))) (.lst (.cons (.bin .Sub (.var 4) (.lit (.int 1))) (.cons (.bin .FloorDiv (.var 4) (.lit (.int 2))) (.nil)))))) (.nil)) (.nil)) (.cons (.ret (.cmp .Eq (.lc [("_law_index", 9)] (.nm 9) (.iSeq (.var 5)) (.cmp .NotEq (.cal 25 (.cons (.var 6) (.cons (.var 9) (.nil)))) (.cal 25 (.cons (.var 7) (.cons (.var 9) (.nil))))) (.var 9)) (.lst (.nil)))) (.nil)))))))))))
/-! law -/
def N_law : List Str := ["_law_script", "_law_pen", "_law_axes", "_law_text", "_law_others", "_law_other", "_law_again"]
def ir_law : IR := .cons (.setO 1 (.cal 0 (.cons (.var 0) (.nil)))) (.cons (.fo (.nm 2) (.iSeq (.lst (.cons (.cal 7 (.cons (.lend 1) (.cons (.lit (.int 4)) (.cons (.lit (.int 40)) (.nil))))) (.cons (.cal 8 (.cons (.lend 1) (.cons (.lit (.int 4)) (.nil)))) (.cons (.cal 8 (.cons (.lend 1) (.cons (.lit (.int 8)) (.nil)))) (.nil)))))) (.cons (.set 3 (.blt .repr1 (.cons (.var 2) (.nil)))) (.cons (.set 4 (.lst (.cons (.var 2) (.cons (.cal 9 (.cons (.lend 1) (.cons (.var 2) (.nil)))) (.cons (.cal 7 (.cons (.lend 1) (.cons (.lit (.int 3)) (.cons (.lit (.int 40)) (.nil))))) (.nil)))))) (.cons (.fo (.nm 5) (.iSeq (.bin .Add (.var 4) (.lc [("_law_again", 6)] (.nm 6) (.iRng (.cons (.lit (.int 4)) (.nil))) (.nil) (.cal 11 (.cons (.lend 1) (.cons (.var 2) (.nil))))))) (.cons (.ifs (.bop .Or (.cons (.nt (.cal 26 (.cons (.lend 1) (.cons (.var 2) (.cons (.var 5) (.nil)))))) (.cons (.cmp .NotEq (.blt .repr1 (.cons (.var 2) (.nil))) (.var 3)) (.nil)))) (.cons (.ret (.lit (.bool false))) (.nil)) (.nil)) (.nil))) (.nil))))) (.cons (.ret (.lit (.bool true))) (.nil)))
-- places: [('_law_open', 20, 1, 4, False, ['_law_script']), ('_law_spread', 21, 2, 6, False, ['_law_cell', '_law_at']), ('_law_take', 22, 2, 5, False, ['_law_pen', '_law_amount']), ('_law_one_of', 24, 2, 2, False, ['_law_pen', '_law_some']), ('_law_draw_size', 30, 2, 2, False, ['_law_pen', '_law_room']), ('_law_flat', 26, 1, 3, False, ['_law_axes']), ('_law_draw_stride', 31, 3, 5, False, ['_law_pen', '_law_modes', '_law_unit']), ('_law_draw_axes', 32, 3, 11, False, ['_law_pen', '_law_lists', '_law_room']), ('_law_draw_great', 33, 2, 11, False, ['_law_pen', '_law_lists']), ('_law_parted', 34, 2, 11, False, ['_law_pen', '_law_axes']), ('_law_many', 27, 1, 3, False, ['_law_modes']), ('_law_changed', 35, 2, 10, False, ['_law_pen', '_law_axes']), ('modes_of', 10, 1, 3, False, ['axes']), ('raw_size', 11, 1, 4, False, ['axes']), ('is_integer', 8, 3, 3, False, ['thing', 'least', 'most']), ('is_mode', 9, 1, 1, False, ['thing']), ('is_axes', 12, 1, 4, False, ['thing']), ('need_axes', 13, 1, 1, False, ['axes']), ('apart_at', 17, 2, 7, False, ['one', 'other']), ('short_axis', 15, 1, 4, False, ['modes']), ('raw_joined', 16, 1, 1, False, ['axes']), ('apart', 18, 2, 2, False, ['one', 'other']), ('_law_same', 23, 2, 4, True, ['_law_found', '_law_due']), ('_law_short', 29, 1, 6, False, ['_law_modes']), ('_law_is_int', 25, 3, 3, False, ['_law_value', '_law_least', '_law_greatest']), ('_law_worth', 28, 2, 6, False, ['_law_modes', '_law_index']), ('_law_told_right', 36, 3, 11, False, ['_law_pen', '_law_one', '_law_other']), ('law', 37, 1, 7, False, ['_law_script'])]
abbrev defs : List Str := ("_law_open" : Str) :: ("_law_spread" : Str) :: ("_law_take" : Str) :: ("_law_one_of" : Str) :: ("_law_draw_size" : Str) :: ("_law_flat" : Str) :: ("_law_draw_stride" : Str) :: ("_law_draw_axes" : Str) :: ("_law_draw_great" : Str) :: ("_law_parted" : Str) :: ("_law_many" : Str) :: ("_law_changed" : Str) :: ("modes_of" : Str) :: ("raw_size" : Str) :: ("is_integer" : Str) :: ("is_mode" : Str) :: ("is_axes" : Str) :: ("need_axes" : Str) :: ("apart_at" : Str) :: ("short_axis" : Str) :: ("raw_joined" : Str) :: ("apart" : Str) :: ("_law_same" : Str) :: ("_law_short" : Str) :: ("_law_is_int" : Str) :: ("_law_worth" : Str) :: ("_law_told_right" : Str) :: ("law" : Str) :: []
def fn : List He.DefD := [dfn "_law_open" (top 20), dfn "_law_spread" (top 21), dfn "_law_take" (top 22), dfn "_law_one_of" (top 24), dfn "_law_draw_size" (top 30), dfn "_law_flat" (top 26), dfn "_law_draw_stride" (top 31), dfn "_law_draw_axes" (top 32), dfn "_law_draw_great" (top 33), dfn "_law_parted" (top 34), dfn "_law_many" (top 27), dfn "_law_changed" (top 35), dfn "modes_of" (top 10), dfn "raw_size" (top 11), dfn "is_integer" (top 8), dfn "is_mode" (top 9), dfn "is_axes" (top 12), dfn "need_axes" (top 13), dfn "apart_at" (top 17), dfn "short_axis" (top 15), dfn "raw_joined" (top 16), dfn "apart" (top 18), dfn "_law_same" (top 23), dfn "_law_short" (top 29), dfn "_law_is_int" (top 25), dfn "_law_worth" (top 28), dfn "_law_told_right" (top 36), dfn "law" (top 37)]
noncomputable abbrev cs0 : List Ce := []
noncomputable abbrev c0 : Ce := ⟨"_law_open", 1, semOf ⟨cs0, con, exc, sub⟩ ir__law_open 4⟩
noncomputable abbrev cs1 : List Ce := cs0 ++ [c0]
noncomputable abbrev c1 : Ce := ⟨"_law_spread", 2, semOf ⟨cs1, con, exc, sub⟩ ir__law_spread 6⟩
noncomputable abbrev cs2 : List Ce := cs1 ++ [c1]
noncomputable abbrev c2 : Ce := ⟨"_law_take", 2, semOf ⟨cs2, con, exc, sub⟩ ir__law_take 5⟩
noncomputable abbrev cs3 : List Ce := cs2 ++ [c2]
noncomputable abbrev c3 : Ce := ⟨"_law_one_of", 2, semOf ⟨cs3, con, exc, sub⟩ ir__law_one_of 2⟩
noncomputable abbrev cs4 : List Ce := cs3 ++ [c3]
noncomputable abbrev c4 : Ce := ⟨"_law_draw_size", 2, semOf ⟨cs4, con, exc, sub⟩ ir__law_draw_size 2⟩
noncomputable abbrev cs5 : List Ce := cs4 ++ [c4]
noncomputable abbrev c5 : Ce := ⟨"_law_flat", 1, semOf ⟨cs5, con, exc, sub⟩ ir__law_flat 3⟩
noncomputable abbrev cs6 : List Ce := cs5 ++ [c5]
noncomputable abbrev c6 : Ce := ⟨"_law_draw_stride", 3, semOf ⟨cs6, con, exc, sub⟩ ir__law_draw_stride 5⟩
noncomputable abbrev cs7 : List Ce := cs6 ++ [c6]
noncomputable abbrev c7 : Ce := ⟨"_law_draw_axes", 3, semOf ⟨cs7, con, exc, sub⟩ ir__law_draw_axes 11⟩
noncomputable abbrev cs8 : List Ce := cs7 ++ [c7]
noncomputable abbrev c8 : Ce := ⟨"_law_draw_great", 2, semOf ⟨cs8, con, exc, sub⟩ ir__law_draw_great 11⟩
noncomputable abbrev cs9 : List Ce := cs8 ++ [c8]
noncomputable abbrev c9 : Ce := ⟨"_law_parted", 2, semOf ⟨cs9, con, exc, sub⟩ ir__law_parted 11⟩
noncomputable abbrev cs10 : List Ce := cs9 ++ [c9]
noncomputable abbrev c10 : Ce := ⟨"_law_many", 1, semOf ⟨cs10, con, exc, sub⟩ ir__law_many 3⟩
noncomputable abbrev cs11 : List Ce := cs10 ++ [c10]
noncomputable abbrev c11 : Ce := ⟨"_law_changed", 2, semOf ⟨cs11, con, exc, sub⟩ ir__law_changed 10⟩
noncomputable abbrev cs12 : List Ce := cs11 ++ [c11]
noncomputable abbrev c12 : Ce := ⟨"modes_of", 1, semOf ⟨cs12, con, exc, sub⟩ ir_modes_of 3⟩
noncomputable abbrev cs13 : List Ce := cs12 ++ [c12]
noncomputable abbrev c13 : Ce := ⟨"raw_size", 1, semOf ⟨cs13, con, exc, sub⟩ ir_raw_size 4⟩
noncomputable abbrev cs14 : List Ce := cs13 ++ [c13]
noncomputable abbrev c14 : Ce := ⟨"is_integer", 3, semOf ⟨cs14, con, exc, sub⟩ ir_is_integer 3⟩
noncomputable abbrev cs15 : List Ce := cs14 ++ [c14]
noncomputable abbrev c15 : Ce := ⟨"is_mode", 1, semOf ⟨cs15, con, exc, sub⟩ ir_is_mode 1⟩
noncomputable abbrev cs16 : List Ce := cs15 ++ [c15]
noncomputable abbrev c16 : Ce := ⟨"is_axes", 1, semOf ⟨cs16, con, exc, sub⟩ ir_is_axes 4⟩
noncomputable abbrev cs17 : List Ce := cs16 ++ [c16]
noncomputable abbrev c17 : Ce := ⟨"need_axes", 1, semOf ⟨cs17, con, exc, sub⟩ ir_need_axes 1⟩
noncomputable abbrev cs18 : List Ce := cs17 ++ [c17]
noncomputable abbrev c18 : Ce := ⟨"apart_at", 2, semOf ⟨cs18, con, exc, sub⟩ ir_apart_at 7⟩
noncomputable abbrev cs19 : List Ce := cs18 ++ [c18]
noncomputable abbrev c19 : Ce := ⟨"short_axis", 1, semOf ⟨cs19, con, exc, sub⟩ ir_short_axis 4⟩
noncomputable abbrev cs20 : List Ce := cs19 ++ [c19]
noncomputable abbrev c20 : Ce := ⟨"raw_joined", 1, semOf ⟨cs20, con, exc, sub⟩ ir_raw_joined 1⟩
noncomputable abbrev cs21 : List Ce := cs20 ++ [c20]
noncomputable abbrev c21 : Ce := ⟨"apart", 2, semOf ⟨cs21, con, exc, sub⟩ ir_apart 2⟩
noncomputable abbrev cs22 : List Ce := cs21 ++ [c21]
noncomputable abbrev c22 : Ce := ⟨"_law_same", 2, recF cs22 con exc sub "_law_same" 2 ir__law_same 4 4⟩
noncomputable abbrev cs23 : List Ce := cs22 ++ [c22]
noncomputable abbrev c23 : Ce := ⟨"_law_short", 1, semOf ⟨cs23, con, exc, sub⟩ ir__law_short 6⟩
noncomputable abbrev cs24 : List Ce := cs23 ++ [c23]
noncomputable abbrev c24 : Ce := ⟨"_law_is_int", 3, semOf ⟨cs24, con, exc, sub⟩ ir__law_is_int 3⟩
noncomputable abbrev cs25 : List Ce := cs24 ++ [c24]
noncomputable abbrev c25 : Ce := ⟨"_law_worth", 2, semOf ⟨cs25, con, exc, sub⟩ ir__law_worth 6⟩
noncomputable abbrev cs26 : List Ce := cs25 ++ [c25]
noncomputable abbrev c26 : Ce := ⟨"_law_told_right", 3, semOf ⟨cs26, con, exc, sub⟩ ir__law_told_right 11⟩
noncomputable abbrev cs27 : List Ce := cs26 ++ [c26]
theorem sc__law_open : C8.scC N__law_open ["_law_script"] (defScope (top 20)) = true := by decide +kernel
theorem mt__law_open : (mt ⟨cs0, con, exc, sub⟩ N__law_open ir__law_open).ss (defScope (top 20)) (defBody (top 20)) = true := by kernel_rfl
theorem sc__law_spread : C8.scC N__law_spread ["_law_cell", "_law_at"] (defScope (top 21)) = true := by decide +kernel
theorem mt__law_spread : (mt ⟨cs1, con, exc, sub⟩ N__law_spread ir__law_spread).ss (defScope (top 21)) (defBody (top 21)) = true := by kernel_rfl
theorem sc__law_take : C8.scC N__law_take ["_law_pen", "_law_amount"] (defScope (top 22)) = true := by decide +kernel
theorem mt__law_take : (mt ⟨cs2, con, exc, sub⟩ N__law_take ir__law_take).ss (defScope (top 22)) (defBody (top 22)) = true := by kernel_rfl
theorem sc__law_one_of : C8.scC N__law_one_of ["_law_pen", "_law_some"] (defScope (top 24)) = true := by decide +kernel
theorem mt__law_one_of : (mt ⟨cs3, con, exc, sub⟩ N__law_one_of ir__law_one_of).ss (defScope (top 24)) (defBody (top 24)) = true := by kernel_rfl
theorem sc__law_draw_size : C8.scC N__law_draw_size ["_law_pen", "_law_room"] (defScope (top 30)) = true := by decide +kernel
theorem mt__law_draw_size : (mt ⟨cs4, con, exc, sub⟩ N__law_draw_size ir__law_draw_size).ss (defScope (top 30)) (defBody (top 30)) = true := by kernel_rfl
theorem sc__law_flat : C8.scC N__law_flat ["_law_axes"] (defScope (top 26)) = true := by decide +kernel
theorem mt__law_flat : (mt ⟨cs5, con, exc, sub⟩ N__law_flat ir__law_flat).ss (defScope (top 26)) (defBody (top 26)) = true := by kernel_rfl
theorem sc__law_draw_stride : C8.scC N__law_draw_stride ["_law_pen", "_law_modes", "_law_unit"] (defScope (top 31)) = true := by decide +kernel
theorem mt__law_draw_stride : (mt ⟨cs6, con, exc, sub⟩ N__law_draw_stride ir__law_draw_stride).ss (defScope (top 31)) (defBody (top 31)) = true := by kernel_rfl
theorem sc__law_draw_axes : C8.scC N__law_draw_axes ["_law_pen", "_law_lists", "_law_room"] (defScope (top 32)) = true := by decide +kernel
theorem mt__law_draw_axes : (mt ⟨cs7, con, exc, sub⟩ N__law_draw_axes ir__law_draw_axes).ss (defScope (top 32)) (defBody (top 32)) = true := by kernel_rfl
theorem sc__law_draw_great : C8.scC N__law_draw_great ["_law_pen", "_law_lists"] (defScope (top 33)) = true := by decide +kernel
theorem mt__law_draw_great : (mt ⟨cs8, con, exc, sub⟩ N__law_draw_great ir__law_draw_great).ss (defScope (top 33)) (defBody (top 33)) = true := by kernel_rfl
theorem sc__law_parted : C8.scC N__law_parted ["_law_pen", "_law_axes"] (defScope (top 34)) = true := by decide +kernel
theorem mt__law_parted : (mt ⟨cs9, con, exc, sub⟩ N__law_parted ir__law_parted).ss (defScope (top 34)) (defBody (top 34)) = true := by kernel_rfl
theorem sc__law_many : C8.scC N__law_many ["_law_modes"] (defScope (top 27)) = true := by decide +kernel
theorem mt__law_many : (mt ⟨cs10, con, exc, sub⟩ N__law_many ir__law_many).ss (defScope (top 27)) (defBody (top 27)) = true := by kernel_rfl
theorem sc__law_changed : C8.scC N__law_changed ["_law_pen", "_law_axes"] (defScope (top 35)) = true := by decide +kernel
theorem mt__law_changed : (mt ⟨cs11, con, exc, sub⟩ N__law_changed ir__law_changed).ss (defScope (top 35)) (defBody (top 35)) = true := by kernel_rfl
theorem sc_modes_of : C8.scC N_modes_of ["axes"] (defScope (top 10)) = true := by decide +kernel
theorem mt_modes_of : (mt ⟨cs12, con, exc, sub⟩ N_modes_of ir_modes_of).ss (defScope (top 10)) (defBody (top 10)) = true := by kernel_rfl
theorem sc_raw_size : C8.scC N_raw_size ["axes"] (defScope (top 11)) = true := by decide +kernel
theorem mt_raw_size : (mt ⟨cs13, con, exc, sub⟩ N_raw_size ir_raw_size).ss (defScope (top 11)) (defBody (top 11)) = true := by kernel_rfl
theorem sc_is_integer : C8.scC N_is_integer ["thing", "least", "most"] (defScope (top 8)) = true := by decide +kernel
theorem mt_is_integer : (mt ⟨cs14, con, exc, sub⟩ N_is_integer ir_is_integer).ss (defScope (top 8)) (defBody (top 8)) = true := by kernel_rfl
theorem sc_is_mode : C8.scC N_is_mode ["thing"] (defScope (top 9)) = true := by decide +kernel
theorem mt_is_mode : (mt ⟨cs15, con, exc, sub⟩ N_is_mode ir_is_mode).ss (defScope (top 9)) (defBody (top 9)) = true := by kernel_rfl
theorem sc_is_axes : C8.scC N_is_axes ["thing"] (defScope (top 12)) = true := by decide +kernel
theorem mt_is_axes : (mt ⟨cs16, con, exc, sub⟩ N_is_axes ir_is_axes).ss (defScope (top 12)) (defBody (top 12)) = true := by kernel_rfl
theorem sc_need_axes : C8.scC N_need_axes ["axes"] (defScope (top 13)) = true := by decide +kernel
theorem mt_need_axes : (mt ⟨cs17, con, exc, sub⟩ N_need_axes ir_need_axes).ss (defScope (top 13)) (defBody (top 13)) = true := by kernel_rfl
theorem sc_apart_at : C8.scC N_apart_at ["one", "other"] (defScope (top 17)) = true := by decide +kernel
theorem mt_apart_at : (mt ⟨cs18, con, exc, sub⟩ N_apart_at ir_apart_at).ss (defScope (top 17)) (defBody (top 17)) = true := by kernel_rfl
theorem sc_short_axis : C8.scC N_short_axis ["modes"] (defScope (top 15)) = true := by decide +kernel
theorem mt_short_axis : (mt ⟨cs19, con, exc, sub⟩ N_short_axis ir_short_axis).ss (defScope (top 15)) (defBody (top 15)) = true := by kernel_rfl
theorem sc_raw_joined : C8.scC N_raw_joined ["axes"] (defScope (top 16)) = true := by decide +kernel
theorem mt_raw_joined : (mt ⟨cs20, con, exc, sub⟩ N_raw_joined ir_raw_joined).ss (defScope (top 16)) (defBody (top 16)) = true := by kernel_rfl
theorem sc_apart : C8.scC N_apart ["one", "other"] (defScope (top 18)) = true := by decide +kernel
theorem mt_apart : (mt ⟨cs21, con, exc, sub⟩ N_apart ir_apart).ss (defScope (top 18)) (defBody (top 18)) = true := by kernel_rfl
theorem sc__law_same : C8.scC N__law_same ["_law_found", "_law_due"] (defScope (top 23)) = true := by decide +kernel
theorem mt__law_same : ∀ f : Fn, (mt ⟨cs22 ++ [⟨"_law_same", 2, f⟩], con, exc, sub⟩ N__law_same ir__law_same).ss (defScope (top 23)) (defBody (top 23)) = true := fun _ => by kernel_rfl
theorem sc__law_short : C8.scC N__law_short ["_law_modes"] (defScope (top 29)) = true := by decide +kernel
theorem mt__law_short : (mt ⟨cs23, con, exc, sub⟩ N__law_short ir__law_short).ss (defScope (top 29)) (defBody (top 29)) = true := by kernel_rfl
theorem sc__law_is_int : C8.scC N__law_is_int ["_law_value", "_law_least", "_law_greatest"] (defScope (top 25)) = true := by decide +kernel
theorem mt__law_is_int : (mt ⟨cs24, con, exc, sub⟩ N__law_is_int ir__law_is_int).ss (defScope (top 25)) (defBody (top 25)) = true := by kernel_rfl
theorem sc__law_worth : C8.scC N__law_worth ["_law_modes", "_law_index"] (defScope (top 28)) = true := by decide +kernel
theorem mt__law_worth : (mt ⟨cs25, con, exc, sub⟩ N__law_worth ir__law_worth).ss (defScope (top 28)) (defBody (top 28)) = true := by kernel_rfl
theorem sc__law_told_right : C8.scC N__law_told_right ["_law_pen", "_law_one", "_law_other"] (defScope (top 36)) = true := by decide +kernel
theorem mt__law_told_right : (mt ⟨cs26, con, exc, sub⟩ N__law_told_right ir__law_told_right).ss (defScope (top 36)) (defBody (top 36)) = true := by kernel_rfl
theorem sc_law : C8.scC N_law ["_law_script"] (defScope (top 37)) = true := by decide +kernel
theorem mt_law : (mt ⟨cs27, con, exc, sub⟩ N_law ir_law).ss (defScope (top 37)) (defBody (top 37)) = true := by kernel_rfl
section
variable {P : Program} {w : World} {K : PySem.W.Frag} {mg : Str → Option Value} {h base : Heap}
theorem cals0 : CalsM 0 P w K mg base cs0 := CalsM.nil
theorem cals1 (s : Says defs con exc sub fn K h mg) : CalsM (0 + 1) P w K mg base cs1 := (cals0).cons (Says.step s (cals0) (st := top 20) (N := N__law_open) (ps := ["_law_script"]) (by simp [fn]) (by simp) (fun _ _ _ _ _ _ us hl => match us, hl with | [_], _ => rfl) sc__law_open mt__law_open rfl rfl)
theorem cals2 (s : Says defs con exc sub fn K h mg) : CalsM (1 + 1) P w K mg base cs2 := (cals1 s).cons (Says.step s (cals1 s) (st := top 21) (N := N__law_spread) (ps := ["_law_cell", "_law_at"]) (by simp [fn]) (by simp) (fun _ _ _ _ _ _ us hl => match us, hl with | [_, _], _ => rfl) sc__law_spread mt__law_spread rfl rfl)
theorem cals3 (s : Says defs con exc sub fn K h mg) : CalsM (2 + 1) P w K mg base cs3 := (cals2 s).cons (Says.step s (cals2 s) (st := top 22) (N := N__law_take) (ps := ["_law_pen", "_law_amount"]) (by simp [fn]) (by simp) (fun _ _ _ _ _ _ us hl => match us, hl with | [_, _], _ => rfl) sc__law_take mt__law_take rfl rfl)
theorem cals4 (s : Says defs con exc sub fn K h mg) : CalsM (3 + 1) P w K mg base cs4 := (cals3 s).cons (Says.step s (cals3 s) (st := top 24) (N := N__law_one_of) (ps := ["_law_pen", "_law_some"]) (by simp [fn]) (by simp) (fun _ _ _ _ _ _ us hl => match us, hl with | [_, _], _ => rfl) sc__law_one_of mt__law_one_of rfl rfl)
theorem cals5 (s : Says defs con exc sub fn K h mg) : CalsM (4 + 1) P w K mg base cs5 := (cals4 s).cons (Says.step s (cals4 s) (st := top 30) (N := N__law_draw_size) (ps := ["_law_pen", "_law_room"]) (by simp [fn]) (by simp) (fun _ _ _ _ _ _ us hl => match us, hl with | [_, _], _ => rfl) sc__law_draw_size mt__law_draw_size rfl rfl)
theorem cals6 (s : Says defs con exc sub fn K h mg) : CalsM (5 + 1) P w K mg base cs6 := (cals5 s).cons (Says.step s (cals5 s) (st := top 26) (N := N__law_flat) (ps := ["_law_axes"]) (by simp [fn]) (by simp) (fun _ _ _ _ _ _ us hl => match us, hl with | [_], _ => rfl) sc__law_flat mt__law_flat rfl rfl)
theorem cals7 (s : Says defs con exc sub fn K h mg) : CalsM (6 + 1) P w K mg base cs7 := (cals6 s).cons (Says.step s (cals6 s) (st := top 31) (N := N__law_draw_stride) (ps := ["_law_pen", "_law_modes", "_law_unit"]) (by simp [fn]) (by simp) (fun _ _ _ _ _ _ us hl => match us, hl with | [_, _, _], _ => rfl) sc__law_draw_stride mt__law_draw_stride rfl rfl)
theorem cals8 (s : Says defs con exc sub fn K h mg) : CalsM (7 + 1) P w K mg base cs8 := (cals7 s).cons (Says.step s (cals7 s) (st := top 32) (N := N__law_draw_axes) (ps := ["_law_pen", "_law_lists", "_law_room"]) (by simp [fn]) (by simp) (fun _ _ _ _ _ _ us hl => match us, hl with | [_, _, _], _ => rfl) sc__law_draw_axes mt__law_draw_axes rfl rfl)
theorem cals9 (s : Says defs con exc sub fn K h mg) : CalsM (8 + 1) P w K mg base cs9 := (cals8 s).cons (Says.step s (cals8 s) (st := top 33) (N := N__law_draw_great) (ps := ["_law_pen", "_law_lists"]) (by simp [fn]) (by simp) (fun _ _ _ _ _ _ us hl => match us, hl with | [_, _], _ => rfl) sc__law_draw_great mt__law_draw_great rfl rfl)
theorem cals10 (s : Says defs con exc sub fn K h mg) : CalsM (9 + 1) P w K mg base cs10 := (cals9 s).cons (Says.step s (cals9 s) (st := top 34) (N := N__law_parted) (ps := ["_law_pen", "_law_axes"]) (by simp [fn]) (by simp) (fun _ _ _ _ _ _ us hl => match us, hl with | [_, _], _ => rfl) sc__law_parted mt__law_parted rfl rfl)
theorem cals11 (s : Says defs con exc sub fn K h mg) : CalsM (10 + 1) P w K mg base cs11 := (cals10 s).cons (Says.step s (cals10 s) (st := top 27) (N := N__law_many) (ps := ["_law_modes"]) (by simp [fn]) (by simp) (fun _ _ _ _ _ _ us hl => match us, hl with | [_], _ => rfl) sc__law_many mt__law_many rfl rfl)
theorem cals12 (s : Says defs con exc sub fn K h mg) : CalsM (11 + 1) P w K mg base cs12 := (cals11 s).cons (Says.step s (cals11 s) (st := top 35) (N := N__law_changed) (ps := ["_law_pen", "_law_axes"]) (by simp [fn]) (by simp) (fun _ _ _ _ _ _ us hl => match us, hl with | [_, _], _ => rfl) sc__law_changed mt__law_changed rfl rfl)
theorem cals13 (s : Says defs con exc sub fn K h mg) : CalsM (12 + 1) P w K mg base cs13 := (cals12 s).cons (Says.step s (cals12 s) (st := top 10) (N := N_modes_of) (ps := ["axes"]) (by simp [fn]) (by simp) (fun _ _ _ _ _ _ us hl => match us, hl with | [_], _ => rfl) sc_modes_of mt_modes_of rfl rfl)
theorem cals14 (s : Says defs con exc sub fn K h mg) : CalsM (13 + 1) P w K mg base cs14 := (cals13 s).cons (Says.step s (cals13 s) (st := top 11) (N := N_raw_size) (ps := ["axes"]) (by simp [fn]) (by simp) (fun _ _ _ _ _ _ us hl => match us, hl with | [_], _ => rfl) sc_raw_size mt_raw_size rfl rfl)
theorem cals15 (s : Says defs con exc sub fn K h mg) : CalsM (14 + 1) P w K mg base cs15 := (cals14 s).cons (Says.step s (cals14 s) (st := top 8) (N := N_is_integer) (ps := ["thing", "least", "most"]) (by simp [fn]) (by simp) (fun _ _ _ _ _ _ us hl => match us, hl with | [_, _, _], _ => rfl) sc_is_integer mt_is_integer rfl rfl)
theorem cals16 (s : Says defs con exc sub fn K h mg) : CalsM (15 + 1) P w K mg base cs16 := (cals15 s).cons (Says.step s (cals15 s) (st := top 9) (N := N_is_mode) (ps := ["thing"]) (by simp [fn]) (by simp) (fun _ _ _ _ _ _ us hl => match us, hl with | [_], _ => rfl) sc_is_mode mt_is_mode rfl rfl)
theorem cals17 (s : Says defs con exc sub fn K h mg) : CalsM (16 + 1) P w K mg base cs17 := (cals16 s).cons (Says.step s (cals16 s) (st := top 12) (N := N_is_axes) (ps := ["thing"]) (by simp [fn]) (by simp) (fun _ _ _ _ _ _ us hl => match us, hl with | [_], _ => rfl) sc_is_axes mt_is_axes rfl rfl)
theorem cals18 (s : Says defs con exc sub fn K h mg) : CalsM (17 + 1) P w K mg base cs18 := (cals17 s).cons (Says.step s (cals17 s) (st := top 13) (N := N_need_axes) (ps := ["axes"]) (by simp [fn]) (by simp) (fun _ _ _ _ _ _ us hl => match us, hl with | [_], _ => rfl) sc_need_axes mt_need_axes rfl rfl)
theorem cals19 (s : Says defs con exc sub fn K h mg) : CalsM (18 + 1) P w K mg base cs19 := (cals18 s).cons (Says.step s (cals18 s) (st := top 17) (N := N_apart_at) (ps := ["one", "other"]) (by simp [fn]) (by simp) (fun _ _ _ _ _ _ us hl => match us, hl with | [_, _], _ => rfl) sc_apart_at mt_apart_at rfl rfl)
theorem cals20 (s : Says defs con exc sub fn K h mg) : CalsM (19 + 1) P w K mg base cs20 := (cals19 s).cons (Says.step s (cals19 s) (st := top 15) (N := N_short_axis) (ps := ["modes"]) (by simp [fn]) (by simp) (fun _ _ _ _ _ _ us hl => match us, hl with | [_], _ => rfl) sc_short_axis mt_short_axis rfl rfl)
theorem cals21 (s : Says defs con exc sub fn K h mg) : CalsM (20 + 1) P w K mg base cs21 := (cals20 s).cons (Says.step s (cals20 s) (st := top 16) (N := N_raw_joined) (ps := ["axes"]) (by simp [fn]) (by simp) (fun _ _ _ _ _ _ us hl => match us, hl with | [_], _ => rfl) sc_raw_joined mt_raw_joined rfl rfl)
theorem cals22 (s : Says defs con exc sub fn K h mg) : CalsM (21 + 1) P w K mg base cs22 := (cals21 s).cons (Says.step s (cals21 s) (st := top 18) (N := N_apart) (ps := ["one", "other"]) (by simp [fn]) (by simp) (fun _ _ _ _ _ _ us hl => match us, hl with | [_, _], _ => rfl) sc_apart mt_apart rfl rfl)
theorem cals23 (s : Says defs con exc sub fn K h mg) : CalsM (22 + 4) P w K mg base cs23 := (cals22 s).consR (Says.stepR s (cals22 s) (st := top 23) (N := N__law_same) (ps := ["_law_found", "_law_due"]) (by simp [fn]) (by simp) (fun _ _ _ _ _ _ us hl => match us, hl with | [_, _], _ => rfl) sc__law_same mt__law_same rfl rfl 4)
theorem cals24 (s : Says defs con exc sub fn K h mg) : CalsM (26 + 1) P w K mg base cs24 := (cals23 s).cons (Says.step s (cals23 s) (st := top 29) (N := N__law_short) (ps := ["_law_modes"]) (by simp [fn]) (by simp) (fun _ _ _ _ _ _ us hl => match us, hl with | [_], _ => rfl) sc__law_short mt__law_short rfl rfl)
theorem cals25 (s : Says defs con exc sub fn K h mg) : CalsM (27 + 1) P w K mg base cs25 := (cals24 s).cons (Says.step s (cals24 s) (st := top 25) (N := N__law_is_int) (ps := ["_law_value", "_law_least", "_law_greatest"]) (by simp [fn]) (by simp) (fun _ _ _ _ _ _ us hl => match us, hl with | [_, _, _], _ => rfl) sc__law_is_int mt__law_is_int rfl rfl)
theorem cals26 (s : Says defs con exc sub fn K h mg) : CalsM (28 + 1) P w K mg base cs26 := (cals25 s).cons (Says.step s (cals25 s) (st := top 28) (N := N__law_worth) (ps := ["_law_modes", "_law_index"]) (by simp [fn]) (by simp) (fun _ _ _ _ _ _ us hl => match us, hl with | [_, _], _ => rfl) sc__law_worth mt__law_worth rfl rfl)
theorem cals27 (s : Says defs con exc sub fn K h mg) : CalsM (29 + 1) P w K mg base cs27 := (cals26 s).cons (Says.step s (cals26 s) (st := top 36) (N := N__law_told_right) (ps := ["_law_pen", "_law_one", "_law_other"]) (by simp [fn]) (by simp) (fun _ _ _ _ _ _ us hl => match us, hl with | [_, _, _], _ => rfl) sc__law_told_right mt__law_told_right rfl rfl)
noncomputable abbrev lawF : Fn := semOf ⟨cs27, con, exc, sub⟩ ir_law 7
theorem lawG (s : Says defs con exc sub fn K h mg) : ∀ fa : Addr, mg ("law" : Str) = some (.ref fa) → ∃ fd : FuncData, (∀ (s : Shared) (u : Value), BindsTo s fd ⟨[u], []⟩ [(("_law_script" : Str), u)]) ∧ ∀ base : Heap, GFn P w K mg base (30 + 1) fa fd ["_law_script"] (spOf mg lawF) :=
  Says.lawG s (fun base => cals27 s) (st := top 37) (N := N_law) (by simp [fn]) (by simp) (fun _ _ _ _ _ _ _ => rfl) sc_law mt_law rfl
end
-- level 31
end K04

set_option maxHeartbeats 1000000
namespace K04
open DL
open PySem PySem.Spec PyProof.Rows L2
/-! ### numbers -/
theorem log2_lt {n a : Nat} (h : n < 2 ^ a) (ha : 0 < a) : n.log2 < a := by
  by_cases z : n = 0
  · subst z
    simpa using ha
  · exact (Nat.log2_lt z).mpr h
theorem okMul_of {i j : Int} {a b : Nat} (h1 : i.natAbs < 2 ^ a) (h2 : j.natAbs < 2 ^ b) (ha : 0 < a) (hb : 0 < b) (h : a + b < 1000000) : okMul i j = true := by
  have q1 := log2_lt h1 ha
  have q2 := log2_lt h2 hb
  exact decide_eq_true (by omega)
theorem okDiv_of {j : Int} {b : Nat} (h0 : 0 < j) (h : j.natAbs < 2 ^ b) (hb : 0 < b) (hb2 : b ≤ 9000) : okDiv j = true := by
  have q := log2_lt h hb
  exact Bool.and_eq_true_iff.mpr ⟨decide_eq_true h0, decide_eq_true (by omega)⟩
abbrev dI (l : List Int) : D := .list (l.map PyData.int)
/-! ### the pen -/
theorem ix_nn {n : Nat} {i : Int} (h0 : 0 ≤ i) (h1 : i < n) : ixN n i = some i.toNat := by
  unfold ixN
  rw [if_pos h0, if_pos h1]
theorem at_int {l : List Int} {i : Int} (h0 : 0 ≤ i) (h1 : i < l.length) : ∃ p, p ∈ l ∧ idxD (dI l) (.int i) = some (.int p) := by
  have hl : i.toNat < l.length := by omega
  refine ⟨l[i.toNat], List.getElem_mem hl, ?_⟩
  show atI (l.map PyData.int) i = _
  unfold atI
  rw [ix_nn h0 (by rw [List.length_map]; exact h1)]
  show (l.map PyData.int)[i.toNat]? = _
  rw [List.getElem?_map, List.getElem?_eq_getElem hl]
  rfl
def primes : List Int := [2147483629, 2147483587, 2147483579, 2147483563, 2147483549, 2147483543, 2147483497, 2147483489, 2147483477, 2147483423, 2147483399, 2147483353, 2147483323]
theorem prime_at (k : Int) : ∃ p : Int, 0 < p ∧ p < 2147483648 ∧ idxD (dI primes) (.int (k % 13)) = some (.int p) := by
  obtain ⟨p, hp, e⟩ := at_int (l := primes) (i := k % 13) (Int.emod_nonneg _ (by decide)) (Int.emod_lt_of_pos _ (by decide))
  have all : ∀ q ∈ primes, 0 < q ∧ q < 2147483648 := by decide
  exact ⟨p, (all p hp).1, (all p hp).2, e⟩
theorem okPow_of {i : Int} {n : Int} (h : i.natAbs < 2 ^ 64) (h0 : 0 ≤ n) (h1 : n ≤ 1000000) : okPow i n = true := by
  simp [okPow, h, h0, h1]
theorem mod_b (x : Int) {p : Int} (h : 0 < p) : 0 ≤ x % p ∧ x % p < p := ⟨Int.emod_nonneg _ (by omega), Int.emod_lt_of_pos _ h⟩
theorem mul_b {x y a b : Int} (h1 : 0 ≤ x) (h2 : x ≤ a) (h3 : 0 ≤ y) (h4 : y ≤ b) : 0 ≤ x * y ∧ x * y ≤ a * b := ⟨Int.mul_nonneg h1 h3, Int.mul_le_mul h2 h4 h3 (Int.le_trans h1 h2)⟩
theorem abs_lt {x b : Int} {k : Nat} (h0 : 0 ≤ x) (h : x ≤ b) (hb : b.toNat < 2 ^ k) : x.natAbs < 2 ^ k := by omega
theorem pr_cat : bin2 .Add (.list [.int 2147483629, .int 2147483587, .int 2147483579, .int 2147483563, .int 2147483549, .int 2147483543, .int 2147483497, .int 2147483489]) (.list [.int 2147483477, .int 2147483423, .int 2147483399, .int 2147483353, .int 2147483323]) = some (.fre (primes.map PyData.int)) := bi_cat (size7 (by decide))
theorem spread_sem {cell at_ : Int} (h0 : 0 ≤ at_) (h1 : at_ ≤ 1000000000) : ∃ r : Int, 0 ≤ r ∧ c1.sem [.dat (.int cell), .dat (.int at_)] = some (.ret (.dat (.int r)) []) := by
  have p18 : okPow 10 18 = true := by decide
  by_cases big : (10 : Int) ^ (18 : Int).toNat ≤ cell
  · refine ⟨cell, Int.le_trans (by decide) big, ?_⟩
    show outOf 0 ((den _ ir__law_spread).s [some (.dat (.int cell)), some (.dat (.int at_)), none, none, none, none] []) = _
    unfold ir__law_spread
    simp only [b_ok, b_exc, st_ok, st_exc, sq_nx, sq_rt, sq_bk, sq_ct, sq_exc, of_some, nox_ok, lk_dat, lk_fre, kp_dat, kp_fre, asB_b, asI_i, dB_, tR, s_nil, s_cons, s_pass, s_ret, s_xpr, s_set, s_setO, s_unp, s_sti, s_ifs, s_fo, s_rai, e_var, e_lit, e_dct, e_glb, e_bin, e_neg, e_nt, e_cmp, e_chn, e_bop, c_one, c_and, c_or, e_ife, e_tup, e_lst, e_idx, e_sli, e_blt, e_isi, k_nil, k_cons, bl_nil, bl_cons, a_nil, a_cons, o_nil, o_var, o_lit, intO_i, av_dat, av_fre, av_own, av_var, av_lit, av_glb, av_bin, av_idx, av_lst, av_tup, av_cal, av_blt, av_lend, i_seq, i_rng, sl_0, sl_s, lks_nil, s_par, pn_nil, pn_f, pn_t, st_nil, st_cons, s_app2, ow_0, ow_s, cm_eqi, cm_nei, cm_nes, cm_eqs, cm_neb, rv_dat, rv_fre, lk_0, lk_1, lk_2, i3_0, i3_1, i3_2, t3_1, t3_2, ka_dat, ka_fre, ka_own, tn_fre, tg_nm, bi_add, bi_sub, cm_lt, cm_le, cm_gt, cm_ge, cm_is, bt_len, bt_lenT, bt_int, bt_list, bt_tuple, bt_min, List.set_cons_zero, List.set_cons_succ, cond_true, cond_false, tg_2, tn_own, pn_o, t2_0, t2_1, av_neg, av_nt, av_cmp, av_ife, av_sli, av_lc, av_dct, av_bop, o_bin, o_neg, lk_0a, lk_1a, lk_2a, tn_fd, tn_ff, tn_fo, tn_fn, pn_ff, pn_fo, bi_pow p18, decide_eq_true big]
    rfl
  · obtain ⟨a0, a1⟩ := mod_b cell (p := 1000000007) (by decide)
    obtain ⟨b0, b1⟩ := mod_b cell (p := 65537) (by decide)
    -- u
    have m1 := mul_b a0 (Int.le_of_lt a1) (y := 2 * at_ + 69069) (b := 2000069069) (by omega) (by omega)
    have u0 : 0 ≤ cell % 1000000007 * (2 * at_ + 69069) + at_ * 40503 + 977 := by omega
    have u1 : cell % 1000000007 * (2 * at_ + 69069) + at_ * 40503 + 977 ≤ 4000000000000000000 := by omega
    generalize hu : cell % 1000000007 * (2 * at_ + 69069) + at_ * 40503 + 977 = u at u0 u1
    obtain ⟨p, hp0, hp1, ep⟩ := prime_at at_
    obtain ⟨q, hq0, hq1, eq⟩ := prime_at (at_ + 5)
    obtain ⟨r, hr0, hr1, er⟩ := prime_at (at_ + 7)
    obtain ⟨x0, x1⟩ := mod_b (u ^ (3 : Int).toNat) hp0
    generalize hx : u ^ (3 : Int).toNat % p = x at x0 x1
    have m2 := mul_b x0 (Int.le_of_lt (Int.lt_trans x1 hp1)) (y := at_ + 3) (b := 1000000003) (by omega) (by omega)
    have v0 : 0 ≤ x * (at_ + 3) + cell % 65537 + 5 := by omega
    have v1 : x * (at_ + 3) + cell % 65537 + 5 ≤ 4000000000000000000 := by omega
    generalize hv : x * (at_ + 3) + cell % 65537 + 5 = v at v0 v1
    obtain ⟨y0, y1⟩ := mod_b (v ^ (5 : Int).toNat) hq0
    generalize hy : v ^ (5 : Int).toNat % q = y at y0 y1
    obtain ⟨c0, c1'⟩ := mod_b x (p := 1009) (by decide)
    have w0 : 0 ≤ y + x % 1009 + at_ := by omega
    have w1 : y + x % 1009 + at_ ≤ 4000000000000000000 := by omega
    generalize hw : y + x % 1009 + at_ = w at w0 w1
    obtain ⟨z0, z1⟩ := mod_b (w ^ (3 : Int).toNat) hr0
    generalize hz : w ^ (3 : Int).toNat % r = z at z0 z1
    have t0 := mul_b x0 (Int.le_of_lt (Int.lt_trans x1 hp1)) (y := 2147483647) (b := 2147483647) (by decide) (by decide)
    have t1 : 0 ≤ x * 2147483647 + y := by omega
    have t2 : x * 2147483647 + y ≤ 2147483648 * 2147483648 := by omega
    have s0 := mul_b t1 t2 (y := 2147483647) (b := 2147483647) (by decide) (by decide)
    refine ⟨(x * 2147483647 + y) * 2147483647 + z, by omega, ?_⟩
    have k1 : okMul 2 at_ = true := okMul_of (a := 64) (b := 64) (by decide) (by omega) (by decide) (by decide) (by decide)
    have k2 : okMul (cell % 1000000007) (2 * at_ + 69069) = true := okMul_of (a := 64) (b := 64) (by omega) (by omega) (by decide) (by decide) (by decide)
    have k3 : okMul at_ 40503 = true := okMul_of (a := 64) (b := 64) (by omega) (by decide) (by decide) (by decide) (by decide)
    have k4 : okPow u 3 = true := okPow_of (by omega) (by decide) (by decide)
    have k5 : okMul x (at_ + 3) = true := okMul_of (a := 64) (b := 64) (by omega) (by omega) (by decide) (by decide) (by decide)
    have k6 : okPow v 5 = true := okPow_of (by omega) (by decide) (by decide)
    have k7 : okPow w 3 = true := okPow_of (by omega) (by decide) (by decide)
    have k8 : okMul x 2147483647 = true := okMul_of (a := 64) (b := 64) (by omega) (by decide) (by decide) (by decide) (by decide)
    have k9 : okMul (x * 2147483647 + y) 2147483647 = true := okMul_of (a := 70) (b := 64) (by omega) (by decide) (by decide) (by decide) (by decide)
    have big' : decide ((10 : Int) ^ (18 : Int).toNat ≤ cell) = false := decide_eq_false big
    have d1 : (0 : Int) < 1000000007 := by decide
    have d2 : (0 : Int) < 13 := by decide
    have d3 : (0 : Int) < 65537 := by decide
    have d4 : (0 : Int) < 1009 := by decide
    show outOf 0 ((den _ ir__law_spread).s [some (.dat (.int cell)), some (.dat (.int at_)), none, none, none, none] []) = _
    unfold ir__law_spread
    simp only [b_ok, b_exc, st_ok, st_exc, sq_nx, sq_rt, sq_bk, sq_ct, sq_exc, of_some, nox_ok, lk_dat, lk_fre, kp_dat, kp_fre, asB_b, asI_i, dB_, tR, s_nil, s_cons, s_pass, s_ret, s_xpr, s_set, s_setO, s_unp, s_sti, s_ifs, s_fo, s_rai, e_var, e_lit, e_dct, e_glb, e_bin, e_neg, e_nt, e_cmp, e_chn, e_bop, c_one, c_and, c_or, e_ife, e_tup, e_lst, e_idx, e_sli, e_blt, e_isi, k_nil, k_cons, bl_nil, bl_cons, a_nil, a_cons, o_nil, o_var, o_lit, intO_i, av_dat, av_fre, av_own, av_var, av_lit, av_glb, av_bin, av_idx, av_lst, av_tup, av_cal, av_blt, av_lend, i_seq, i_rng, sl_0, sl_s, lks_nil, s_par, pn_nil, pn_f, pn_t, st_nil, st_cons, s_app2, ow_0, ow_s, cm_eqi, cm_nei, cm_nes, cm_eqs, cm_neb, rv_dat, rv_fre, lk_0, lk_1, lk_2, i3_0, i3_1, i3_2, t3_1, t3_2, ka_dat, ka_fre, ka_own, tn_fre, tg_nm, bi_add, bi_sub, cm_lt, cm_le, cm_gt, cm_ge, cm_is, bt_len, bt_lenT, bt_int, bt_list, bt_tuple, bt_min, List.set_cons_zero, List.set_cons_succ, cond_true, cond_false, tg_2, tn_own, pn_o, t2_0, t2_1, av_neg, av_nt, av_cmp, av_ife, av_sli, av_lc, av_dct, av_bop, o_bin, o_neg, lk_0a, lk_1a, lk_2a, tn_fd, tn_ff, tn_fo, tn_fn, pn_ff, pn_fo, bi_pow p18, big', pr_cat, lks_dat lks_nil, bi_mod d1, bi_mod d2, bi_mod d3, bi_mod d4, bi_mul k1, bi_mul k2, bi_mul k3, hu, bi_pow k4, ep, bi_mod hp0, hx, bi_mul k5, hv, bi_pow k6, eq, bi_mod hq0, hy, hw, bi_pow k7, er, bi_mod hr0, hz, bi_mul k8, bi_mul k9]
    rfl
/-- the pen: its cells, its place, what is left -/
structure Pen (n : Nat) (ds : List D) : Prop where
  ex : ∃ (cells : List Int) (at_ v : Int), ds = [dI cells, .int at_, .int v] ∧ 0 ≤ at_ ∧ at_ ≤ n ∧ 0 ≤ v
/-- the end of a draw -/
theorem take_end {G : Ge} {cells : List Int} {at_ v m : Int} {a b c : Option SV} (hv : 0 ≤ v) (h0 : 0 < m) (h1 : m.natAbs < 2 ^ 8000) :
    outOf 1 ((den G (.cons (.set 2 (.bin .Mod (.blt .int1 (.cons (.idx (.var 0) (.lit (.int 2))) (.nil))) (.var 1))) (.cons (.sti 0 (.lit (.int 2)) (.bin .FloorDiv (.idx (.var 0) (.lit (.int 2))) (.var 1))) (.cons (.ret (.var 2)) (.nil))))).s [some (.own 0), some (.dat (.int m)), a, b, c] [⟨.arg, [dI cells, .int at_, .int v]⟩]) =
      some (.ret (.dat (.int (v % m))) [[dI cells, .int at_, .int (v / m)]]) := by
  have hd : okDiv m = true := okDiv_of h0 h1 (by decide) (by decide)
  simp only [b_ok, b_exc, st_ok, st_exc, sq_nx, sq_rt, sq_bk, sq_ct, sq_exc, of_some, nox_ok, lk_dat, lk_fre, kp_dat, kp_fre, asB_b, asI_i, dB_, tR, s_nil, s_cons, s_pass, s_ret, s_xpr, s_set, s_setO, s_unp, s_sti, s_ifs, s_fo, s_rai, e_var, e_lit, e_dct, e_glb, e_bin, e_neg, e_nt, e_cmp, e_chn, e_bop, c_one, c_and, c_or, e_ife, e_tup, e_lst, e_idx, e_sli, e_blt, e_isi, k_nil, k_cons, bl_nil, bl_cons, a_nil, a_cons, o_nil, o_var, o_lit, intO_i, av_dat, av_fre, av_own, av_var, av_lit, av_glb, av_bin, av_idx, av_lst, av_tup, av_cal, av_blt, av_lend, i_seq, i_rng, sl_0, sl_s, lks_nil, s_par, pn_nil, pn_f, pn_t, st_nil, st_cons, s_app2, ow_0, ow_s, cm_eqi, cm_nei, cm_nes, cm_eqs, cm_neb, rv_dat, rv_fre, lk_0, lk_1, lk_2, i3_0, i3_1, i3_2, t3_1, t3_2, ka_dat, ka_fre, ka_own, tn_fre, tg_nm, bi_add, bi_sub, cm_lt, cm_le, cm_gt, cm_ge, cm_is, bt_len, bt_lenT, bt_int, bt_list, bt_tuple, bt_min, List.set_cons_zero, List.set_cons_succ, cond_true, cond_false, tg_2, tn_own, pn_o, t2_0, t2_1, av_neg, av_nt, av_cmp, av_ife, av_sli, av_lc, av_dct, av_bop, o_bin, o_neg, lk_0a, lk_1a, lk_2a, tn_fd, tn_ff, tn_fo, tn_fn, pn_ff, pn_fo, bi_mod h0, bi_div hd, lks_dat lks_nil]
  rfl
theorem take_sem {n : Nat} {ds : List D} {m : Int} (p : Pen n ds) (hn : n ≤ 1000000000) (h0 : 0 < m) (h1 : m.natAbs < 2 ^ 8000) :
    ∃ (r : Int) (ds' : List D), 0 ≤ r ∧ r < m ∧ Pen (n + 1) ds' ∧ c2.sem [.own ds, .dat (.int m)] = some (.ret (.dat (.int r)) [ds']) := by
  obtain ⟨cells, at_, v, rfl, q0, q1, q2⟩ := p.ex
  have fin : ∀ (at' v' : Int), 0 ≤ at' → at' ≤ n + 1 → 0 ≤ v' → 0 ≤ v' % m ∧ v' % m < m ∧ Pen (n + 1) [dI cells, .int at', .int (v' / m)] := fun at' v' g0 g1 g2 =>
    ⟨(mod_b v' h0).1, (mod_b v' h0).2, cells, at', v' / m, rfl, g0, g1, Int.ediv_nonneg g2 (by omega)⟩
  by_cases hlt : v < m
  · have call : ∀ cell : Int, ∃ r : Int, 0 ≤ r ∧ ∀ μ : List Cell, callR c1 [.dat (.int cell), .dat (.int at_)] μ = .ok (.dat (.int r)) μ := fun cell => by
      obtain ⟨r, hr, e⟩ := spread_sem (cell := cell) q0 (by omega)
      exact ⟨r, hr, fun μ => call_dat rfl rfl rfl e (.inr rfl)⟩
    have g1 : (⟨cs2, con, exc, sub⟩ : Ge).ces[1]? = some c1 := rfl
    have hlt' : decide (v < m) = true := decide_eq_true hlt
    by_cases ha : at_ < (cells.length : Int)
    · obtain ⟨cell, _, ec⟩ := at_int (l := cells) q0 ha
      obtain ⟨r, hr, ecall⟩ := call cell
      obtain ⟨z1, z2, z3⟩ := fin (at_ + 1) r (by omega) (by omega) hr
      refine ⟨r % m, _, z1, z2, z3, ?_⟩
      have ha' : decide (at_ < ((cells.map PyData.int).length : Int)) = true := decide_eq_true (by rw [List.length_map]; exact ha)
      show outOf 1 ((den ⟨cs2, con, exc, sub⟩ ir__law_take).s [some (.own 0), some (.dat (.int m)), none, none, none] [⟨.arg, [dI cells, .int at_, .int v]⟩]) = _
      rw [← take_end (G := ⟨cs2, con, exc, sub⟩) (a := none) (b := some (.dat (.int at_))) (c := some (.dat (.int cell))) hr h0 h1]
      unfold ir__law_take
      rw [s_cons]
      refine congrArg (outOf 1) ?_
      simp only [s_ifs, tR, b_ok, b_exc, st_ok, st_exc, sq_nx, sq_rt, sq_bk, sq_ct, sq_exc, of_some, nox_ok, lk_dat, lk_fre, kp_dat, kp_fre, asB_b, asI_i, dB_, tR, s_nil, s_cons, s_pass, s_ret, s_xpr, s_set, s_setO, s_unp, s_sti, s_ifs, s_fo, s_rai, e_var, e_lit, e_dct, e_glb, e_bin, e_neg, e_nt, e_cmp, e_chn, e_bop, c_one, c_and, c_or, e_ife, e_tup, e_lst, e_idx, e_sli, e_blt, e_isi, k_nil, k_cons, bl_nil, bl_cons, a_nil, a_cons, o_nil, o_var, o_lit, intO_i, av_dat, av_fre, av_own, av_var, av_lit, av_glb, av_bin, av_idx, av_lst, av_tup, av_cal, av_blt, av_lend, i_seq, i_rng, sl_0, sl_s, lks_nil, s_par, pn_nil, pn_f, pn_t, st_nil, st_cons, s_app2, ow_0, ow_s, cm_eqi, cm_nei, cm_nes, cm_eqs, cm_neb, rv_dat, rv_fre, lk_0, lk_1, lk_2, i3_0, i3_1, i3_2, t3_1, t3_2, ka_dat, ka_fre, ka_own, tn_fre, tg_nm, bi_add, bi_sub, cm_lt, cm_le, cm_gt, cm_ge, cm_is, bt_len, bt_lenT, bt_int, bt_list, bt_tuple, bt_min, List.set_cons_zero, List.set_cons_succ, cond_true, cond_false, tg_2, tn_own, pn_o, t2_0, t2_1, av_neg, av_nt, av_cmp, av_ife, av_sli, av_lc, av_dct, av_bop, o_bin, o_neg, lk_0a, lk_1a, lk_2a, tn_fd, tn_ff, tn_fo, tn_fn, pn_ff, pn_fo, hlt', ha', lks_dat lks_nil, ec, e_cal g1, ecall]
    · have ha' : decide (at_ < ((cells.map PyData.int).length : Int)) = false := decide_eq_false (by rw [List.length_map]; exact ha)
      have tail : ∀ (cell : Int) (b c : Option SV), ∃ (r : Int) (ds' : List D), 0 ≤ r ∧ r < m ∧ Pen (n + 1) ds' ∧ ∀ {G : Ge}, G.ces[1]? = some c1 → outOf 1 (((den G (.cons (.sti 0 (.lit (.int 1)) (.bin .Add (.var 3) (.lit (.int 1)))) (.cons (.sti 0 (.lit (.int 2)) (.cal 1 (.cons (.var 4) (.cons (.var 3) (.nil))))) (.nil)))).s [some (.own 0), some (.dat (.int m)), none, some (.dat (.int at_)), some (.dat (.int cell))] [⟨.arg, [dI cells, .int at_, .int v]⟩]).seq
          (den G (.cons (.set 2 (.bin .Mod (.blt .int1 (.cons (.idx (.var 0) (.lit (.int 2))) (.nil))) (.var 1))) (.cons (.sti 0 (.lit (.int 2)) (.bin .FloorDiv (.idx (.var 0) (.lit (.int 2))) (.var 1))) (.cons (.ret (.var 2)) (.nil))))).s) = some (.ret (.dat (.int r)) [ds']) := fun cell b c => by
        obtain ⟨r, hr, ecall⟩ := call cell
        obtain ⟨z1, z2, z3⟩ := fin (at_ + 1) r (by omega) (by omega) hr
        refine ⟨r % m, _, z1, z2, z3, fun {G} g => ?_⟩
        rw [← take_end (G := G) (a := none) (b := some (.dat (.int at_))) (c := some (.dat (.int cell))) hr h0 h1]
        refine congrArg (outOf 1) ?_
        simp only [b_ok, b_exc, st_ok, st_exc, sq_nx, sq_rt, sq_bk, sq_ct, sq_exc, of_some, nox_ok, lk_dat, lk_fre, kp_dat, kp_fre, asB_b, asI_i, dB_, tR, s_nil, s_cons, s_pass, s_ret, s_xpr, s_set, s_setO, s_unp, s_sti, s_ifs, s_fo, s_rai, e_var, e_lit, e_dct, e_glb, e_bin, e_neg, e_nt, e_cmp, e_chn, e_bop, c_one, c_and, c_or, e_ife, e_tup, e_lst, e_idx, e_sli, e_blt, e_isi, k_nil, k_cons, bl_nil, bl_cons, a_nil, a_cons, o_nil, o_var, o_lit, intO_i, av_dat, av_fre, av_own, av_var, av_lit, av_glb, av_bin, av_idx, av_lst, av_tup, av_cal, av_blt, av_lend, i_seq, i_rng, sl_0, sl_s, lks_nil, s_par, pn_nil, pn_f, pn_t, st_nil, st_cons, s_app2, ow_0, ow_s, cm_eqi, cm_nei, cm_nes, cm_eqs, cm_neb, rv_dat, rv_fre, lk_0, lk_1, lk_2, i3_0, i3_1, i3_2, t3_1, t3_2, ka_dat, ka_fre, ka_own, tn_fre, tg_nm, bi_add, bi_sub, cm_lt, cm_le, cm_gt, cm_ge, cm_is, bt_len, bt_lenT, bt_int, bt_list, bt_tuple, bt_min, List.set_cons_zero, List.set_cons_succ, cond_true, cond_false, tg_2, tn_own, pn_o, t2_0, t2_1, av_neg, av_nt, av_cmp, av_ife, av_sli, av_lc, av_dct, av_bop, o_bin, o_neg, lk_0a, lk_1a, lk_2a, tn_fd, tn_ff, tn_fo, tn_fn, pn_ff, pn_fo, e_cal g, ecall]
      cases cells with
      | nil =>
        obtain ⟨r, ds', z1, z2, z3, e⟩ := tail 0 none none
        refine ⟨r, ds', z1, z2, z3, ?_⟩
        show outOf 1 ((den ⟨cs2, con, exc, sub⟩ ir__law_take).s [some (.own 0), some (.dat (.int m)), none, none, none] [⟨.arg, [dI [], .int at_, .int v]⟩]) = _
        rw [← e g1]
        unfold ir__law_take
        rw [s_cons]
        refine congrArg (outOf 1) ?_
        have hz : decide ((0 : Int) < ((([] : List Int).map PyData.int).length : Int)) = false := rfl
        simp only [s_ifs, tR, b_ok, b_exc, st_ok, st_exc, sq_nx, sq_rt, sq_bk, sq_ct, sq_exc, of_some, nox_ok, lk_dat, lk_fre, kp_dat, kp_fre, asB_b, asI_i, dB_, tR, s_nil, s_cons, s_pass, s_ret, s_xpr, s_set, s_setO, s_unp, s_sti, s_ifs, s_fo, s_rai, e_var, e_lit, e_dct, e_glb, e_bin, e_neg, e_nt, e_cmp, e_chn, e_bop, c_one, c_and, c_or, e_ife, e_tup, e_lst, e_idx, e_sli, e_blt, e_isi, k_nil, k_cons, bl_nil, bl_cons, a_nil, a_cons, o_nil, o_var, o_lit, intO_i, av_dat, av_fre, av_own, av_var, av_lit, av_glb, av_bin, av_idx, av_lst, av_tup, av_cal, av_blt, av_lend, i_seq, i_rng, sl_0, sl_s, lks_nil, s_par, pn_nil, pn_f, pn_t, st_nil, st_cons, s_app2, ow_0, ow_s, cm_eqi, cm_nei, cm_nes, cm_eqs, cm_neb, rv_dat, rv_fre, lk_0, lk_1, lk_2, i3_0, i3_1, i3_2, t3_1, t3_2, ka_dat, ka_fre, ka_own, tn_fre, tg_nm, bi_add, bi_sub, cm_lt, cm_le, cm_gt, cm_ge, cm_is, bt_len, bt_lenT, bt_int, bt_list, bt_tuple, bt_min, List.set_cons_zero, List.set_cons_succ, cond_true, cond_false, tg_2, tn_own, pn_o, t2_0, t2_1, av_neg, av_nt, av_cmp, av_ife, av_sli, av_lc, av_dct, av_bop, o_bin, o_neg, lk_0a, lk_1a, lk_2a, tn_fd, tn_ff, tn_fo, tn_fn, pn_ff, pn_fo, hlt', ha', hz, lks_dat lks_nil]
      | cons c0 cells =>
        have hl : (0 : Int) < (((c0 :: cells).map PyData.int).length : Int) := by simp
        obtain ⟨m0, m1⟩ := mod_b (at_ * 5 + 3) hl
        obtain ⟨x, _, ex⟩ := at_int (l := c0 :: cells) m0 (by rw [List.length_map] at m1; rw [List.length_map]; exact m1)
        obtain ⟨r, ds', z1, z2, z3, e⟩ := tail (x % (10 ^ (17 : Int).toNat + at_)) none none
        refine ⟨r, ds', z1, z2, z3, ?_⟩
        show outOf 1 ((den ⟨cs2, con, exc, sub⟩ ir__law_take).s [some (.own 0), some (.dat (.int m)), none, none, none] [⟨.arg, [dI (c0 :: cells), .int at_, .int v]⟩]) = _
        rw [← e g1]
        unfold ir__law_take
        rw [s_cons]
        refine congrArg (outOf 1) ?_
        have k1 : okMul at_ 5 = true := okMul_of (a := 64) (b := 64) (by omega) (by decide) (by decide) (by decide) (by decide)
        have k2 : okPow 10 17 = true := by decide
        have k3 : (0 : Int) < 10 ^ (17 : Int).toNat + at_ := by
          have : (0 : Int) < 10 ^ (17 : Int).toNat := by decide
          omega
        simp only [s_ifs, tR, b_ok, b_exc, st_ok, st_exc, sq_nx, sq_rt, sq_bk, sq_ct, sq_exc, of_some, nox_ok, lk_dat, lk_fre, kp_dat, kp_fre, asB_b, asI_i, dB_, tR, s_nil, s_cons, s_pass, s_ret, s_xpr, s_set, s_setO, s_unp, s_sti, s_ifs, s_fo, s_rai, e_var, e_lit, e_dct, e_glb, e_bin, e_neg, e_nt, e_cmp, e_chn, e_bop, c_one, c_and, c_or, e_ife, e_tup, e_lst, e_idx, e_sli, e_blt, e_isi, k_nil, k_cons, bl_nil, bl_cons, a_nil, a_cons, o_nil, o_var, o_lit, intO_i, av_dat, av_fre, av_own, av_var, av_lit, av_glb, av_bin, av_idx, av_lst, av_tup, av_cal, av_blt, av_lend, i_seq, i_rng, sl_0, sl_s, lks_nil, s_par, pn_nil, pn_f, pn_t, st_nil, st_cons, s_app2, ow_0, ow_s, cm_eqi, cm_nei, cm_nes, cm_eqs, cm_neb, rv_dat, rv_fre, lk_0, lk_1, lk_2, i3_0, i3_1, i3_2, t3_1, t3_2, ka_dat, ka_fre, ka_own, tn_fre, tg_nm, bi_add, bi_sub, cm_lt, cm_le, cm_gt, cm_ge, cm_is, bt_len, bt_lenT, bt_int, bt_list, bt_tuple, bt_min, List.set_cons_zero, List.set_cons_succ, cond_true, cond_false, tg_2, tn_own, pn_o, t2_0, t2_1, av_neg, av_nt, av_cmp, av_ife, av_sli, av_lc, av_dct, av_bop, o_bin, o_neg, lk_0a, lk_1a, lk_2a, tn_fd, tn_ff, tn_fo, tn_fn, pn_ff, pn_fo, hlt', ha', decide_eq_true hl, lks_dat lks_nil, bi_mul k1, bi_mod hl, ex, bi_pow k2, bi_mod k3]
  · obtain ⟨z1, z2, z3⟩ := fin at_ v q0 (by omega) q2
    refine ⟨v % m, _, z1, z2, z3, ?_⟩
    show outOf 1 ((den ⟨cs2, con, exc, sub⟩ ir__law_take).s [some (.own 0), some (.dat (.int m)), none, none, none] [⟨.arg, [dI cells, .int at_, .int v]⟩]) = _
    have hlt' : decide (v < m) = false := decide_eq_false hlt
    rw [← take_end (G := ⟨cs2, con, exc, sub⟩) (a := none) (b := none) (c := none) q2 h0 h1]
    unfold ir__law_take
    rw [s_cons]
    refine congrArg (outOf 1) ?_
    simp only [s_ifs, tR, e_cmp, e_idx, e_var, e_lit, sl_0, sl_s, b_ok, lk_0, lk_0a, lk_dat, i3_2, of_some, cm_lt, hlt', dB_, asB_b, st_ok, cond_false, s_nil, sq_nx]
/-! ### the pen is opened -/
theorem open_loop {G : Ge} {v : Option SV} : ∀ (rest : List Int) (j : Nat) (cs : List Int) (z1 z2 : Option SV), cs.length = 12 →
    ∃ (cs' : List Int) (z1' z2' : Option SV), forR (Tg.cons (.nm 2) (.cons (.nm 3) .nil)).f.one (den G (.cons (.sti 1 (.bin .Mod (.blt .int1 (.cons (.var 2) (.nil))) (.lit (.int 12))) (.bin .Add (.idx (.var 1) (.bin .Mod (.blt .int1 (.cons (.var 2) (.nil))) (.lit (.int 12)))) (.var 3))) .nil)).s (enuD j (rest.map PyData.int)) [v, some (.own 0), z1, z2] [⟨.live, cs.map PyData.int⟩] =
      .nx [v, some (.own 0), z1', z2'] [⟨.live, cs'.map PyData.int⟩]
  | [], j, cs, z1, z2, _ => ⟨cs, z1, z2, rfl⟩
  | x :: rest, j, cs, z1, z2, h => by
    have h12 : (0 : Int) < 12 := by decide
    obtain ⟨m0, m1⟩ := mod_b ((j : Nat) : Int) h12
    obtain ⟨y, _, ey⟩ := at_int (l := cs) m0 (by rw [h]; exact m1)
    have hi : ixN (cs.map PyData.int).length ((j : Int) % 12) = some ((j : Int) % 12).toNat := ix_nn m0 (by rw [List.length_map, h]; exact m1)
    obtain ⟨cs', w1, w2, e⟩ := open_loop (G := G) (v := v) rest (j + 1) (cs.set ((j : Int) % 12).toNat (y + x)) (some (.dat (.int j))) (some (.dat (.int x))) (by rw [List.length_set]; exact h)
    refine ⟨cs', w1, w2, ?_⟩
    rw [← e]
    refine for_nx (ρ1 := [v, some (.own 0), some (.dat (.int j)), some (.dat (.int x))]) rfl ?_
    have hs : stiV ((j : Int) % 12) (.int (y + x)) (.own 0) [⟨.live, cs.map PyData.int⟩] = .ok ([⟨CS.live, cs.map PyData.int⟩].set 0 ⟨.live, (cs.map PyData.int).set ((j : Int) % 12).toNat (.int (y + x))⟩) [⟨.live, cs.map PyData.int⟩] := sti_of (c := ⟨.live, cs.map PyData.int⟩) rfl (fun z => nomatch z) hi
    simp only [b_ok, b_exc, st_ok, st_exc, sq_nx, sq_rt, sq_bk, sq_ct, sq_exc, of_some, nox_ok, lk_dat, lk_fre, kp_dat, kp_fre, asB_b, asI_i, dB_, tR, s_nil, s_cons, s_pass, s_ret, s_xpr, s_set, s_setO, s_unp, s_sti, s_ifs, s_fo, s_rai, e_var, e_lit, e_dct, e_glb, e_bin, e_neg, e_nt, e_cmp, e_chn, e_bop, c_one, c_and, c_or, e_ife, e_tup, e_lst, e_idx, e_sli, e_blt, e_isi, k_nil, k_cons, bl_nil, bl_cons, a_nil, a_cons, o_nil, o_var, o_lit, intO_i, av_dat, av_fre, av_own, av_var, av_lit, av_glb, av_bin, av_idx, av_lst, av_tup, av_cal, av_blt, av_lend, i_seq, i_rng, sl_0, sl_s, lks_nil, s_par, pn_nil, pn_f, pn_t, st_nil, st_cons, s_app2, ow_0, ow_s, cm_eqi, cm_nei, cm_nes, cm_eqs, cm_neb, rv_dat, rv_fre, lk_0, lk_1, lk_2, i3_0, i3_1, i3_2, t3_1, t3_2, ka_dat, ka_fre, ka_own, tn_fre, tg_nm, bi_add, bi_sub, cm_lt, cm_le, cm_gt, cm_ge, cm_is, bt_len, bt_lenT, bt_int, bt_list, bt_tuple, bt_min, List.set_cons_zero, List.set_cons_succ, cond_true, cond_false, tg_2, tn_own, pn_o, t2_0, t2_1, av_neg, av_nt, av_cmp, av_ife, av_sli, av_lc, av_dct, av_bop, o_bin, o_neg, lk_0a, lk_1a, lk_2a, tn_fd, tn_ff, tn_fo, tn_fn, pn_ff, pn_fo, lks_dat lks_nil, bi_mod h12, ey, hs, List.map_set]
theorem open_sem (ns : List Int) : ∃ ds, Pen 0 ds ∧ c0.sem [.dat (dI ns)] = some (.ret (.fre ds) []) := by
  have e1 : cutD (dI ns) none (some 12) = some (.fre ((ns.take 12).map PyData.int)) := by
    show some (SV.fre (((ns.map PyData.int).drop 0).take (HT.sIx (ns.map PyData.int).length (ns.map PyData.int).length (some ((12 : Nat) : Int)) - 0))) = _
    rw [HT.sIx_nat, List.drop_zero, Nat.sub_zero, List.map_take, List.length_map]
    congr 2
    by_cases h : 12 ≤ ns.length
    · rw [Nat.min_eq_left h]
    · rw [Nat.min_eq_right (by omega), List.take_of_length_le (by simp), List.take_of_length_le (by simp; omega)]
  obtain ⟨rest, e2, h2⟩ : ∃ rest : List Int, cutD (dI ns) (some 12) (some 63) = some (.fre (rest.map PyData.int)) ∧ (rest = [] ∨ (ns.take 12).length = 12) := by
    refine ⟨(ns.drop (min 12 ns.length)).take (min 63 ns.length - min 12 ns.length), ?_, ?_⟩
    · show some (SV.fre (((ns.map PyData.int).drop (HT.sIx (ns.map PyData.int).length 0 (some ((12 : Nat) : Int)))).take (HT.sIx (ns.map PyData.int).length (ns.map PyData.int).length (some ((63 : Nat) : Int)) - HT.sIx (ns.map PyData.int).length 0 (some ((12 : Nat) : Int))))) = _
      rw [HT.sIx_nat, HT.sIx_nat, List.map_take, List.map_drop, List.length_map]
    · by_cases h : 12 ≤ ns.length
      · exact .inr (by rw [List.length_take]; omega)
      · refine .inl ?_
        rw [List.drop_eq_nil_of_le (by omega)]
        simp
  have key : ∃ (cs' : List Int) (z1' z2' : Option SV), forR (Tg.cons (.nm 2) (.cons (.nm 3) .nil)).f.one (den ⟨cs0, con, exc, sub⟩ (.cons (.sti 1 (.bin .Mod (.blt .int1 (.cons (.var 2) (.nil))) (.lit (.int 12))) (.bin .Add (.idx (.var 1) (.bin .Mod (.blt .int1 (.cons (.var 2) (.nil))) (.lit (.int 12)))) (.var 3))) .nil)).s (enuD 0 (rest.map PyData.int)) [some (.dat (dI ns)), some (.own 0), none, none] [⟨.live, (ns.take 12).map PyData.int⟩] =
      .nx [some (.dat (dI ns)), some (.own 0), z1', z2'] [⟨.live, cs'.map PyData.int⟩] := by
    rcases h2 with h2 | h2
    · subst h2
      exact ⟨_, _, _, rfl⟩
    · exact open_loop rest 0 (ns.take 12) none none h2
  obtain ⟨cs', z1, z2, e3⟩ := key
  refine ⟨[dI cs', .int 0, .int 0], ⟨cs', 0, 0, rfl, by decide, by decide, by decide⟩, ?_⟩
  show outOf 0 ((den ⟨cs0, con, exc, sub⟩ ir__law_open).s [some (.dat (dI ns)), none, none, none] []) = _
  unfold ir__law_open
  have e4 : (den ⟨cs0, con, exc, sub⟩ (.iEnu (.sli (.var 0) (.lit (.int 12)) (.lit (.int 63))))).i [some (.dat (dI ns)), some (.own 0), none, none] [⟨.live, (ns.take 12).map PyData.int⟩] = .ok (enuD 0 (rest.map PyData.int)) [⟨.live, (ns.take 12).map PyData.int⟩] := by
    refine i_enu (v := .fre (rest.map PyData.int)) ?_ rfl
    simp only [b_ok, b_exc, st_ok, st_exc, sq_nx, sq_rt, sq_bk, sq_ct, sq_exc, of_some, nox_ok, lk_dat, lk_fre, kp_dat, kp_fre, asB_b, asI_i, dB_, tR, s_nil, s_cons, s_pass, s_ret, s_xpr, s_set, s_setO, s_unp, s_sti, s_ifs, s_fo, s_rai, e_var, e_lit, e_dct, e_glb, e_bin, e_neg, e_nt, e_cmp, e_chn, e_bop, c_one, c_and, c_or, e_ife, e_tup, e_lst, e_idx, e_sli, e_blt, e_isi, k_nil, k_cons, bl_nil, bl_cons, a_nil, a_cons, o_nil, o_var, o_lit, intO_i, av_dat, av_fre, av_own, av_var, av_lit, av_glb, av_bin, av_idx, av_lst, av_tup, av_cal, av_blt, av_lend, i_seq, i_rng, sl_0, sl_s, lks_nil, s_par, pn_nil, pn_f, pn_t, st_nil, st_cons, s_app2, ow_0, ow_s, cm_eqi, cm_nei, cm_nes, cm_eqs, cm_neb, rv_dat, rv_fre, lk_0, lk_1, lk_2, i3_0, i3_1, i3_2, t3_1, t3_2, ka_dat, ka_fre, ka_own, tn_fre, tg_nm, bi_add, bi_sub, cm_lt, cm_le, cm_gt, cm_ge, cm_is, bt_len, bt_lenT, bt_int, bt_list, bt_tuple, bt_min, List.set_cons_zero, List.set_cons_succ, cond_true, cond_false, tg_2, tn_own, pn_o, t2_0, t2_1, av_neg, av_nt, av_cmp, av_ife, av_sli, av_lc, av_dct, av_bop, o_bin, o_neg, lk_0a, lk_1a, lk_2a, tn_fd, tn_ff, tn_fo, tn_fn, pn_ff, pn_fo, e2]
  simp only [b_ok, b_exc, st_ok, st_exc, sq_nx, sq_rt, sq_bk, sq_ct, sq_exc, of_some, nox_ok, lk_dat, lk_fre, kp_dat, kp_fre, asB_b, asI_i, dB_, tR, s_nil, s_cons, s_pass, s_ret, s_xpr, s_set, s_setO, s_unp, s_sti, s_ifs, s_fo, s_rai, e_var, e_lit, e_dct, e_glb, e_bin, e_neg, e_nt, e_cmp, e_chn, e_bop, c_one, c_and, c_or, e_ife, e_tup, e_lst, e_idx, e_sli, e_blt, e_isi, k_nil, k_cons, bl_nil, bl_cons, a_nil, a_cons, o_nil, o_var, o_lit, intO_i, av_dat, av_fre, av_own, av_var, av_lit, av_glb, av_bin, av_idx, av_lst, av_tup, av_cal, av_blt, av_lend, i_seq, i_rng, sl_0, sl_s, lks_nil, s_par, pn_nil, pn_f, pn_t, st_nil, st_cons, s_app2, ow_0, ow_s, cm_eqi, cm_nei, cm_nes, cm_eqs, cm_neb, rv_dat, rv_fre, lk_0, lk_1, lk_2, i3_0, i3_1, i3_2, t3_1, t3_2, ka_dat, ka_fre, ka_own, tn_fre, tg_nm, bi_add, bi_sub, cm_lt, cm_le, cm_gt, cm_ge, cm_is, bt_len, bt_lenT, bt_int, bt_list, bt_tuple, bt_min, List.set_cons_zero, List.set_cons_succ, cond_true, cond_false, tg_2, tn_own, pn_o, t2_0, t2_1, av_neg, av_nt, av_cmp, av_ife, av_sli, av_lc, av_dct, av_bop, o_bin, o_neg, lk_0a, lk_1a, lk_2a, tn_fd, tn_ff, tn_fo, tn_fn, pn_ff, pn_fo, e1, lks_fre lks_nil, List.length_nil, List.nil_append]
  rw [e4]
  simp only [b_ok, b_exc, st_ok, st_exc, sq_nx, sq_rt, sq_bk, sq_ct, sq_exc, of_some, nox_ok, lk_dat, lk_fre, kp_dat, kp_fre, asB_b, asI_i, dB_, tR, s_nil, s_cons, s_pass, s_ret, s_xpr, s_set, s_setO, s_unp, s_sti, s_ifs, s_fo, s_rai, e_var, e_lit, e_dct, e_glb, e_bin, e_neg, e_nt, e_cmp, e_chn, e_bop, c_one, c_and, c_or, e_ife, e_tup, e_lst, e_idx, e_sli, e_blt, e_isi, k_nil, k_cons, bl_nil, bl_cons, a_nil, a_cons, o_nil, o_var, o_lit, intO_i, av_dat, av_fre, av_own, av_var, av_lit, av_glb, av_bin, av_idx, av_lst, av_tup, av_cal, av_blt, av_lend, i_seq, i_rng, sl_0, sl_s, lks_nil, s_par, pn_nil, pn_f, pn_t, st_nil, st_cons, s_app2, ow_0, ow_s, cm_eqi, cm_nei, cm_nes, cm_eqs, cm_neb, rv_dat, rv_fre, lk_0, lk_1, lk_2, i3_0, i3_1, i3_2, t3_1, t3_2, ka_dat, ka_fre, ka_own, tn_fre, tg_nm, bi_add, bi_sub, cm_lt, cm_le, cm_gt, cm_ge, cm_is, bt_len, bt_lenT, bt_int, bt_list, bt_tuple, bt_min, List.set_cons_zero, List.set_cons_succ, cond_true, cond_false, tg_2, tn_own, pn_o, t2_0, t2_1, av_neg, av_nt, av_cmp, av_ife, av_sli, av_lc, av_dct, av_bop, o_bin, o_neg, lk_0a, lk_1a, lk_2a, tn_fd, tn_ff, tn_fo, tn_fn, pn_ff, pn_fo, e3]
  rfl
/-! ### one of -/
theorem one_sem {n : Nat} {ds L : List D} (p : Pen n ds) (hn : n ≤ 1000000000) (h0 : 0 < L.length) (h1 : L.length < 1000) : ∃ (d : D) (ds' : List D), d ∈ L ∧ Pen (n + 1) ds' ∧ c3.sem [.own ds, .dat (.list L)] = some (.ret (.dat d) [ds']) := by
  obtain ⟨r, ds', z1, z2, z3, e⟩ := take_sem p hn (m := (L.length : Int)) (by omega) (by omega)
  have hr : r.toNat < L.length := by omega
  refine ⟨L[r.toNat], ds', List.getElem_mem hr, z3, ?_⟩
  show outOf 1 ((den ⟨cs3, con, exc, sub⟩ ir__law_one_of).s [some (.own 0), some (.dat (.list L))] [⟨.arg, ds⟩]) = _
  have g2 : (⟨cs3, con, exc, sub⟩ : Ge).ces[2]? = some c2 := rfl
  have e2 : callR c2 [.own 0, .dat (.int (L.length : Int))] [⟨.arg, ds⟩] = .ok (.dat (.int r)) [⟨.arg, ds'⟩] := call_own (k := 0) (cl := ⟨.arg, ds⟩) rfl rfl rfl rfl e rfl
  have ei : idxD (.list L) (.int r) = some L[r.toNat] := by
    show atI L r = _
    unfold atI
    rw [ix_nn z1 z2]
    show L[r.toNat]? = _
    rw [List.getElem?_eq_getElem hr]
  unfold ir__law_one_of
  simp only [b_ok, b_exc, st_ok, st_exc, sq_nx, sq_rt, sq_bk, sq_ct, sq_exc, of_some, nox_ok, lk_dat, lk_fre, kp_dat, kp_fre, asB_b, asI_i, dB_, tR, s_nil, s_cons, s_pass, s_ret, s_xpr, s_set, s_setO, s_unp, s_sti, s_ifs, s_fo, s_rai, e_var, e_lit, e_dct, e_glb, e_bin, e_neg, e_nt, e_cmp, e_chn, e_bop, c_one, c_and, c_or, e_ife, e_tup, e_lst, e_idx, e_sli, e_blt, e_isi, k_nil, k_cons, bl_nil, bl_cons, a_nil, a_cons, o_nil, o_var, o_lit, intO_i, av_dat, av_fre, av_own, av_var, av_lit, av_glb, av_bin, av_idx, av_lst, av_tup, av_cal, av_blt, av_lend, i_seq, i_rng, sl_0, sl_s, lks_nil, s_par, pn_nil, pn_f, pn_t, st_nil, st_cons, s_app2, ow_0, ow_s, cm_eqi, cm_nei, cm_nes, cm_eqs, cm_neb, rv_dat, rv_fre, lk_0, lk_1, lk_2, i3_0, i3_1, i3_2, t3_1, t3_2, ka_dat, ka_fre, ka_own, tn_fre, tg_nm, bi_add, bi_sub, cm_lt, cm_le, cm_gt, cm_ge, cm_is, bt_len, bt_lenT, bt_int, bt_list, bt_tuple, bt_min, List.set_cons_zero, List.set_cons_succ, cond_true, cond_false, tg_2, tn_own, pn_o, t2_0, t2_1, av_neg, av_nt, av_cmp, av_ife, av_sli, av_lc, av_dct, av_bop, o_bin, o_neg, lk_0a, lk_1a, lk_2a, tn_fd, tn_ff, tn_fo, tn_fn, pn_ff, pn_fo, lks_dat lks_nil, e_cal g2, e2, ei]
  rfl
end K04

set_option maxHeartbeats 1000000
namespace K04
open DL
open PySem PySem.Spec PyProof.Rows L2
/-! ### integers, modes -/
def isint : D → Int → Int → Bool
  | .int i, lo, hi => decide (lo ≤ i) && decide (i ≤ hi)
  | _, _, _ => false
theorem isint_sem (d : D) (lo hi : Int) : c14.sem [.dat d, .dat (.int lo), .dat (.int hi)] = some (.ret (.dat (.bool (isint d lo hi))) []) := by
  show outOf 0 ((den _ ir_is_integer).s [some (.dat d), some (.dat (.int lo)), some (.dat (.int hi))] []) = _
  unfold ir_is_integer
  cases d with
  | int i =>
    simp only [b_ok, b_exc, st_ok, st_exc, sq_nx, sq_rt, sq_bk, sq_ct, sq_exc, of_some, nox_ok, lk_dat, lk_fre, kp_dat, kp_fre, asB_b, asI_i, dB_, tR, s_nil, s_cons, s_pass, s_ret, s_xpr, s_set, s_setO, s_unp, s_sti, s_ifs, s_fo, s_rai, e_var, e_lit, e_dct, e_glb, e_bin, e_neg, e_nt, e_cmp, e_chn, e_bop, c_one, c_and, c_or, e_ife, e_tup, e_lst, e_idx, e_sli, e_blt, e_isi, k_nil, k_cons, bl_nil, bl_cons, a_nil, a_cons, o_nil, o_var, o_lit, intO_i, av_dat, av_fre, av_own, av_var, av_lit, av_glb, av_bin, av_idx, av_lst, av_tup, av_cal, av_blt, av_lend, i_seq, i_rng, sl_0, sl_s, lks_nil, s_par, pn_nil, pn_f, pn_t, st_nil, st_cons, s_app2, ow_0, ow_s, cm_eqi, cm_nei, cm_nes, cm_eqs, cm_neb, rv_dat, rv_fre, lk_0, lk_1, lk_2, i3_0, i3_1, i3_2, t3_1, t3_2, ka_dat, ka_fre, ka_own, tn_fre, tg_nm, bi_add, bi_sub, cm_lt, cm_le, cm_gt, cm_ge, cm_is, bt_len, bt_lenT, bt_int, bt_list, bt_tuple, bt_min, List.set_cons_zero, List.set_cons_succ, cond_true, cond_false, tg_2, tn_own, pn_o, t2_0, t2_1, av_neg, av_nt, av_cmp, av_ife, av_sli, av_lc, av_dct, av_bop, o_bin, o_neg, lk_0a, lk_1a, lk_2a, tn_fd, tn_ff, tn_fo, tn_fn, pn_ff, pn_fo, List.any_cons, List.any_nil, isTy, Bool.or_false, Bool.not_false, Bool.not_true, isint]
    by_cases h : lo ≤ i <;> by_cases g : i ≤ hi <;> (simp only [h, g, decide_true, decide_false, b_ok, b_exc, st_ok, st_exc, sq_nx, sq_rt, sq_bk, sq_ct, sq_exc, of_some, nox_ok, lk_dat, lk_fre, kp_dat, kp_fre, asB_b, asI_i, dB_, tR, s_nil, s_cons, s_pass, s_ret, s_xpr, s_set, s_setO, s_unp, s_sti, s_ifs, s_fo, s_rai, e_var, e_lit, e_dct, e_glb, e_bin, e_neg, e_nt, e_cmp, e_chn, e_bop, c_one, c_and, c_or, e_ife, e_tup, e_lst, e_idx, e_sli, e_blt, e_isi, k_nil, k_cons, bl_nil, bl_cons, a_nil, a_cons, o_nil, o_var, o_lit, intO_i, av_dat, av_fre, av_own, av_var, av_lit, av_glb, av_bin, av_idx, av_lst, av_tup, av_cal, av_blt, av_lend, i_seq, i_rng, sl_0, sl_s, lks_nil, s_par, pn_nil, pn_f, pn_t, st_nil, st_cons, s_app2, ow_0, ow_s, cm_eqi, cm_nei, cm_nes, cm_eqs, cm_neb, rv_dat, rv_fre, lk_0, lk_1, lk_2, i3_0, i3_1, i3_2, t3_1, t3_2, ka_dat, ka_fre, ka_own, tn_fre, tg_nm, bi_add, bi_sub, cm_lt, cm_le, cm_gt, cm_ge, cm_is, bt_len, bt_lenT, bt_int, bt_list, bt_tuple, bt_min, List.set_cons_zero, List.set_cons_succ, cond_true, cond_false, tg_2, tn_own, pn_o, t2_0, t2_1, av_neg, av_nt, av_cmp, av_ife, av_sli, av_lc, av_dct, av_bop, o_bin, o_neg, lk_0a, lk_1a, lk_2a, tn_fd, tn_ff, tn_fo, tn_fn, pn_ff, pn_fo]; rfl)
  | bool b =>
    simp only [b_ok, b_exc, st_ok, st_exc, sq_nx, sq_rt, sq_bk, sq_ct, sq_exc, of_some, nox_ok, lk_dat, lk_fre, kp_dat, kp_fre, asB_b, asI_i, dB_, tR, s_nil, s_cons, s_pass, s_ret, s_xpr, s_set, s_setO, s_unp, s_sti, s_ifs, s_fo, s_rai, e_var, e_lit, e_dct, e_glb, e_bin, e_neg, e_nt, e_cmp, e_chn, e_bop, c_one, c_and, c_or, e_ife, e_tup, e_lst, e_idx, e_sli, e_blt, e_isi, k_nil, k_cons, bl_nil, bl_cons, a_nil, a_cons, o_nil, o_var, o_lit, intO_i, av_dat, av_fre, av_own, av_var, av_lit, av_glb, av_bin, av_idx, av_lst, av_tup, av_cal, av_blt, av_lend, i_seq, i_rng, sl_0, sl_s, lks_nil, s_par, pn_nil, pn_f, pn_t, st_nil, st_cons, s_app2, ow_0, ow_s, cm_eqi, cm_nei, cm_nes, cm_eqs, cm_neb, rv_dat, rv_fre, lk_0, lk_1, lk_2, i3_0, i3_1, i3_2, t3_1, t3_2, ka_dat, ka_fre, ka_own, tn_fre, tg_nm, bi_add, bi_sub, cm_lt, cm_le, cm_gt, cm_ge, cm_is, bt_len, bt_lenT, bt_int, bt_list, bt_tuple, bt_min, List.set_cons_zero, List.set_cons_succ, cond_true, cond_false, tg_2, tn_own, pn_o, t2_0, t2_1, av_neg, av_nt, av_cmp, av_ife, av_sli, av_lc, av_dct, av_bop, o_bin, o_neg, lk_0a, lk_1a, lk_2a, tn_fd, tn_ff, tn_fo, tn_fn, pn_ff, pn_fo, List.any_cons, List.any_nil, isTy, Bool.or_false, Bool.not_false, Bool.not_true, isint]
    rfl
  | _ =>
    simp only [b_ok, b_exc, st_ok, st_exc, sq_nx, sq_rt, sq_bk, sq_ct, sq_exc, of_some, nox_ok, lk_dat, lk_fre, kp_dat, kp_fre, asB_b, asI_i, dB_, tR, s_nil, s_cons, s_pass, s_ret, s_xpr, s_set, s_setO, s_unp, s_sti, s_ifs, s_fo, s_rai, e_var, e_lit, e_dct, e_glb, e_bin, e_neg, e_nt, e_cmp, e_chn, e_bop, c_one, c_and, c_or, e_ife, e_tup, e_lst, e_idx, e_sli, e_blt, e_isi, k_nil, k_cons, bl_nil, bl_cons, a_nil, a_cons, o_nil, o_var, o_lit, intO_i, av_dat, av_fre, av_own, av_var, av_lit, av_glb, av_bin, av_idx, av_lst, av_tup, av_cal, av_blt, av_lend, i_seq, i_rng, sl_0, sl_s, lks_nil, s_par, pn_nil, pn_f, pn_t, st_nil, st_cons, s_app2, ow_0, ow_s, cm_eqi, cm_nei, cm_nes, cm_eqs, cm_neb, rv_dat, rv_fre, lk_0, lk_1, lk_2, i3_0, i3_1, i3_2, t3_1, t3_2, ka_dat, ka_fre, ka_own, tn_fre, tg_nm, bi_add, bi_sub, cm_lt, cm_le, cm_gt, cm_ge, cm_is, bt_len, bt_lenT, bt_int, bt_list, bt_tuple, bt_min, List.set_cons_zero, List.set_cons_succ, cond_true, cond_false, tg_2, tn_own, pn_o, t2_0, t2_1, av_neg, av_nt, av_cmp, av_ife, av_sli, av_lc, av_dct, av_bop, o_bin, o_neg, lk_0a, lk_1a, lk_2a, tn_fd, tn_ff, tn_fo, tn_fn, pn_ff, pn_fo, List.any_cons, List.any_nil, isTy, Bool.or_false, Bool.not_false, Bool.not_true, isint]
    rfl
theorem mode_sem {m : Md} (g : GoodM m) : c15.sem [.dat (md m)] = some (.ret (.dat (.bool true)) []) := by
  show outOf 0 ((den ⟨cs15, con, exc, sub⟩ ir_is_mode).s [some (.dat (md m))] []) = _
  have gi : (⟨cs15, con, exc, sub⟩ : Ge).ces[14]? = some c14 := rfl
  have e1 : callR c14 [.dat (.int m.1), .dat (.int 1), .dat (.int 10000000000000000000000000000000000000000)] [] = .ok (.dat (.bool true)) [] := by
    have := isint_sem (.int m.1) 1 10000000000000000000000000000000000000000
    rw [show isint (.int m.1) 1 10000000000000000000000000000000000000000 = true from by simp [isint, g.s0, g.s1]] at this
    exact call_dat (r := .dat (.bool true)) rfl rfl rfl this (.inr rfl)
  have e2 : callR c14 [.dat (.int m.2), .dat (.int (-1000000000000000000000000000000000000000000000000000000000000)), .dat (.int 1000000000000000000000000000000000000000000000000000000000000)] [] = .ok (.dat (.bool true)) [] := by
    have := isint_sem (.int m.2) (-1000000000000000000000000000000000000000000000000000000000000) 1000000000000000000000000000000000000000000000000000000000000
    rw [show isint (.int m.2) (-1000000000000000000000000000000000000000000000000000000000000) 1000000000000000000000000000000000000000000000000000000000000 = true from by simp [isint, g.t0, g.t1]] at this
    exact call_dat (r := .dat (.bool true)) rfl rfl rfl this (.inr rfl)
  have h2 : decide (((([PyData.int m.1, .int m.2] : List D).length : Nat) : Int) = 2) = true := rfl
  unfold ir_is_mode
  simp only [b_ok, b_exc, st_ok, st_exc, sq_nx, sq_rt, sq_bk, sq_ct, sq_exc, of_some, nox_ok, lk_dat, lk_fre, kp_dat, kp_fre, asB_b, asI_i, dB_, tR, s_nil, s_cons, s_pass, s_ret, s_xpr, s_set, s_setO, s_unp, s_sti, s_ifs, s_fo, s_rai, e_var, e_lit, e_dct, e_glb, e_bin, e_neg, e_nt, e_cmp, e_chn, e_bop, c_one, c_and, c_or, e_ife, e_tup, e_lst, e_idx, e_sli, e_blt, e_isi, k_nil, k_cons, bl_nil, bl_cons, a_nil, a_cons, o_nil, o_var, o_lit, intO_i, av_dat, av_fre, av_own, av_var, av_lit, av_glb, av_bin, av_idx, av_lst, av_tup, av_cal, av_blt, av_lend, i_seq, i_rng, sl_0, sl_s, lks_nil, s_par, pn_nil, pn_f, pn_t, st_nil, st_cons, s_app2, ow_0, ow_s, cm_eqi, cm_nei, cm_nes, cm_eqs, cm_neb, rv_dat, rv_fre, lk_0, lk_1, lk_2, i3_0, i3_1, i3_2, t3_1, t3_2, ka_dat, ka_fre, ka_own, tn_fre, tg_nm, bi_add, bi_sub, cm_lt, cm_le, cm_gt, cm_ge, cm_is, bt_len, bt_lenT, bt_int, bt_list, bt_tuple, bt_min, List.set_cons_zero, List.set_cons_succ, cond_true, cond_false, tg_2, tn_own, pn_o, t2_0, t2_1, av_neg, av_nt, av_cmp, av_ife, av_sli, av_lc, av_dct, av_bop, o_bin, o_neg, lk_0a, lk_1a, lk_2a, tn_fd, tn_ff, tn_fo, tn_fn, pn_ff, pn_fo, List.any_cons, List.any_nil, isTy, Bool.or_false, Bool.not_true, lks_dat lks_nil, h2, e_cal gi, e1, e2]
  rfl
/-! ### all modes -/
theorem flat_map (xs : List (List Md)) : (xs.map ax).flatMap (fun d => (itemsD d).getD []) = xs.flatten.map md := by
  induction xs with
  | nil => rfl
  | cons ms xs ih =>
    rw [List.map_cons, List.flatMap_cons, ih, List.flatten_cons, List.map_append]
    rfl
theorem modes_sem {xs : List (List Md)} (h : xs.flatten.length ≤ 10000) : c12.sem [.dat (axs xs)] = some (.ret (.fre (xs.flatten.map md)) []) := by
  show outOf 0 ((den ⟨cs12, con, exc, sub⟩ ir_modes_of).s [some (.dat (axs xs)), none, none] []) = _
  have e1 : ∀ G : Ge, (den G (.iSeq (.var 0))).i [some (.dat (axs xs)), none, none] [] = .ok (xs.map ax) [] := fun G => by simp only [b_ok, b_exc, st_ok, st_exc, sq_nx, sq_rt, sq_bk, sq_ct, sq_exc, of_some, nox_ok, lk_dat, lk_fre, kp_dat, kp_fre, asB_b, asI_i, dB_, tR, s_nil, s_cons, s_pass, s_ret, s_xpr, s_set, s_setO, s_unp, s_sti, s_ifs, s_fo, s_rai, e_var, e_lit, e_dct, e_glb, e_bin, e_neg, e_nt, e_cmp, e_chn, e_bop, c_one, c_and, c_or, e_ife, e_tup, e_lst, e_idx, e_sli, e_blt, e_isi, k_nil, k_cons, bl_nil, bl_cons, a_nil, a_cons, o_nil, o_var, o_lit, intO_i, av_dat, av_fre, av_own, av_var, av_lit, av_glb, av_bin, av_idx, av_lst, av_tup, av_cal, av_blt, av_lend, i_seq, i_rng, sl_0, sl_s, lks_nil, s_par, pn_nil, pn_f, pn_t, st_nil, st_cons, s_app2, ow_0, ow_s, cm_eqi, cm_nei, cm_nes, cm_eqs, cm_neb, rv_dat, rv_fre, lk_0, lk_1, lk_2, i3_0, i3_1, i3_2, t3_1, t3_2, ka_dat, ka_fre, ka_own, tn_fre, tg_nm, bi_add, bi_sub, cm_lt, cm_le, cm_gt, cm_ge, cm_is, bt_len, bt_lenT, bt_int, bt_list, bt_tuple, bt_min, List.set_cons_zero, List.set_cons_succ, cond_true, cond_false, tg_2, tn_own, pn_o, t2_0, t2_1, av_neg, av_nt, av_cmp, av_ife, av_sli, av_lc, av_dct, av_bop, o_bin, o_neg, lk_0a, lk_1a, lk_2a, tn_fd, tn_ff, tn_fo, tn_fn, pn_ff, pn_fo, itemsD]
  have lc : ∀ G : Ge, (den G (.lc2 [("axis", 1), ("mode", 2)] [2] (.nm 1) (.iSeq (.var 0)) (.nm 2) (.iSeq (.var 1)) (.var 2))).e [some (.dat (axs xs)), none, none] [] = .ok (.fre (xs.flatten.map md)) [] := fun G => by
    refine lc2_ok (e1 G) ?_ (by rw [List.length_map]; omega)
    rw [← flat_map xs]
    refine lcR_flat fun d hd => ?_
    obtain ⟨ms, _, rfl⟩ := List.mem_map.mp hd
    refine ⟨[some (.dat (axs xs)), some (.dat (ax ms)), none], rfl, ?_⟩
    have e0 : (den G (.iSeq (.var 1))).i [some (.dat (axs xs)), some (.dat (ax ms)), none] [] = .ok (ms.map md) [] := by simp only [b_ok, b_exc, st_ok, st_exc, sq_nx, sq_rt, sq_bk, sq_ct, sq_exc, of_some, nox_ok, lk_dat, lk_fre, kp_dat, kp_fre, asB_b, asI_i, dB_, tR, s_nil, s_cons, s_pass, s_ret, s_xpr, s_set, s_setO, s_unp, s_sti, s_ifs, s_fo, s_rai, e_var, e_lit, e_dct, e_glb, e_bin, e_neg, e_nt, e_cmp, e_chn, e_bop, c_one, c_and, c_or, e_ife, e_tup, e_lst, e_idx, e_sli, e_blt, e_isi, k_nil, k_cons, bl_nil, bl_cons, a_nil, a_cons, o_nil, o_var, o_lit, intO_i, av_dat, av_fre, av_own, av_var, av_lit, av_glb, av_bin, av_idx, av_lst, av_tup, av_cal, av_blt, av_lend, i_seq, i_rng, sl_0, sl_s, lks_nil, s_par, pn_nil, pn_f, pn_t, st_nil, st_cons, s_app2, ow_0, ow_s, cm_eqi, cm_nei, cm_nes, cm_eqs, cm_neb, rv_dat, rv_fre, lk_0, lk_1, lk_2, i3_0, i3_1, i3_2, t3_1, t3_2, ka_dat, ka_fre, ka_own, tn_fre, tg_nm, bi_add, bi_sub, cm_lt, cm_le, cm_gt, cm_ge, cm_is, bt_len, bt_lenT, bt_int, bt_list, bt_tuple, bt_min, List.set_cons_zero, List.set_cons_succ, cond_true, cond_false, tg_2, tn_own, pn_o, t2_0, t2_1, av_neg, av_nt, av_cmp, av_ife, av_sli, av_lc, av_dct, av_bop, o_bin, o_neg, lk_0a, lk_1a, lk_2a, tn_fd, tn_ff, tn_fo, tn_fn, pn_ff, pn_fo, itemsD]
    rw [e0]
    exact lcR_id (ρ := [some (.dat (axs xs)), some (.dat (ax ms)), none]) fun d _ => ⟨[some (.dat (axs xs)), some (.dat (ax ms)), some (.dat d)], rfl, te_ok (v := .dat d) rfl rfl⟩
  unfold ir_modes_of
  simp only [b_ok, b_exc, st_ok, st_exc, sq_nx, sq_rt, sq_bk, sq_ct, sq_exc, of_some, nox_ok, lk_dat, lk_fre, kp_dat, kp_fre, asB_b, asI_i, dB_, tR, s_nil, s_cons, s_pass, s_ret, s_xpr, s_set, s_setO, s_unp, s_sti, s_ifs, s_fo, s_rai, e_var, e_lit, e_dct, e_glb, e_bin, e_neg, e_nt, e_cmp, e_chn, e_bop, c_one, c_and, c_or, e_ife, e_tup, e_lst, e_idx, e_sli, e_blt, e_isi, k_nil, k_cons, bl_nil, bl_cons, a_nil, a_cons, o_nil, o_var, o_lit, intO_i, av_dat, av_fre, av_own, av_var, av_lit, av_glb, av_bin, av_idx, av_lst, av_tup, av_cal, av_blt, av_lend, i_seq, i_rng, sl_0, sl_s, lks_nil, s_par, pn_nil, pn_f, pn_t, st_nil, st_cons, s_app2, ow_0, ow_s, cm_eqi, cm_nei, cm_nes, cm_eqs, cm_neb, rv_dat, rv_fre, lk_0, lk_1, lk_2, i3_0, i3_1, i3_2, t3_1, t3_2, ka_dat, ka_fre, ka_own, tn_fre, tg_nm, bi_add, bi_sub, cm_lt, cm_le, cm_gt, cm_ge, cm_is, bt_len, bt_lenT, bt_int, bt_list, bt_tuple, bt_min, List.set_cons_zero, List.set_cons_succ, cond_true, cond_false, tg_2, tn_own, pn_o, t2_0, t2_1, av_neg, av_nt, av_cmp, av_ife, av_sli, av_lc, av_dct, av_bop, o_bin, o_neg, lk_0a, lk_1a, lk_2a, tn_fd, tn_ff, tn_fo, tn_fn, pn_ff, pn_fo, lc]
  rfl
theorem call_modes {xs : List (List Md)} {μ : List Cell} (h : xs.flatten.length ≤ 10000) : callR c12 [.dat (axs xs)] μ = .ok (.fre (xs.flatten.map md)) μ := call_dat (r := .fre (xs.flatten.map md)) rfl rfl rfl (modes_sem h) (.inr rfl)
theorem size_loop {G : Ge} {b : IR} {tg : Tg} {v : Option SV} {μ : List Cell} (step : ∀ (m : Md) (acc : Int) (zs : Rho), okMul acc m.1 = true → zs.length = n → ∃ zs' : Rho, zs'.length = n ∧ ∃ ρ1, tg.f.one (md m) (v :: some (.dat (.int acc)) :: zs) = some ρ1 ∧ (den G b).s ρ1 μ = .nx (v :: some (.dat (.int (acc * m.1))) :: zs') μ) :
    ∀ (ms : List Md) (acc : Int) (zs : Rho) (k : Nat), (∀ x ∈ ms, x.1.natAbs < 2 ^ 133) → acc.natAbs < 2 ^ (133 * k) → 0 < k → 133 * (k + ms.length) < 400000 → zs.length = n →
    ∃ zs', zs'.length = n ∧ forR tg.f.one (den G b).s (ms.map md) (v :: some (.dat (.int acc)) :: zs) μ = .nx (v :: some (.dat (.int (acc * size ms))) :: zs') μ
  | [], acc, zs, k, _, _, _, _, hz => ⟨zs, hz, by rw [size, Int.mul_one]; rfl⟩
  | m :: ms, acc, zs, k, h1, h2, h3, h4, hz => by
    have hx := h1 m (List.mem_cons_self ..)
    have hm : okMul acc m.1 = true := okMul_of h2 hx (Nat.mul_pos (by decide) h3) (by decide) (by
      simp only [List.length_cons] at h4
      omega)
    obtain ⟨zs1, hz1, ρ1, e1, e2⟩ := step m acc zs hm hz
    have hn : (acc * m.1).natAbs < 2 ^ (133 * (k + 1)) := by
      rw [Int.natAbs_mul, Nat.mul_add, Nat.mul_one, Nat.pow_add]
      exact Nat.mul_lt_mul'' h2 hx
    obtain ⟨zs', hz', e⟩ := size_loop step ms (acc * m.1) zs1 (k + 1) (fun y hy => h1 y (List.mem_cons_of_mem _ hy)) hn (by omega) (by simp only [List.length_cons] at h4; omega) hz1
    refine ⟨zs', hz', ?_⟩
    rw [show acc * size (m :: ms) = acc * m.1 * size ms from by rw [Int.mul_assoc]; rfl, ← e]
    exact for_nx e1 e2
theorem len1 {zs : Rho} (h : zs.length = 1) : ∃ a, zs = [a] := by
  match zs, h with
  | [a], _ => exact ⟨a, rfl⟩
theorem len2 {zs : Rho} (h : zs.length = 2) : ∃ a b, zs = [a, b] := by
  match zs, h with
  | [a, b], _ => exact ⟨a, b, rfl⟩
theorem size_sem {xs : List (List Md)} (g : Sz xs.flatten) : c13.sem [.dat (axs xs)] = some (.ret (.dat (.int (size xs.flatten))) []) := by
  show outOf 0 ((den ⟨cs13, con, exc, sub⟩ ir_raw_size).s [some (.dat (axs xs)), none, none, none] []) = _
  have gi : (⟨cs13, con, exc, sub⟩ : Ge).ces[12]? = some c12 := rfl
  have hl := g.len
  obtain ⟨zs, hz, e⟩ := size_loop (G := ⟨cs13, con, exc, sub⟩) (b := .cons (.set 1 (.bin .Mult (.var 1) (.var 2))) .nil) (tg := .cons (.nm 2) (.cons (.nm 3) .nil)) (v := some (.dat (axs xs))) (μ := []) (n := 2) (fun m acc zs hm hz => by
    obtain ⟨a, b, rfl⟩ := len2 hz
    refine ⟨[some (.dat (.int m.1)), some (.dat (.int m.2))], rfl, _, rfl, ?_⟩
    simp only [b_ok, b_exc, st_ok, st_exc, sq_nx, sq_rt, sq_bk, sq_ct, sq_exc, of_some, nox_ok, lk_dat, lk_fre, kp_dat, kp_fre, asB_b, asI_i, dB_, tR, s_nil, s_cons, s_pass, s_ret, s_xpr, s_set, s_setO, s_unp, s_sti, s_ifs, s_fo, s_rai, e_var, e_lit, e_dct, e_glb, e_bin, e_neg, e_nt, e_cmp, e_chn, e_bop, c_one, c_and, c_or, e_ife, e_tup, e_lst, e_idx, e_sli, e_blt, e_isi, k_nil, k_cons, bl_nil, bl_cons, a_nil, a_cons, o_nil, o_var, o_lit, intO_i, av_dat, av_fre, av_own, av_var, av_lit, av_glb, av_bin, av_idx, av_lst, av_tup, av_cal, av_blt, av_lend, i_seq, i_rng, sl_0, sl_s, lks_nil, s_par, pn_nil, pn_f, pn_t, st_nil, st_cons, s_app2, ow_0, ow_s, cm_eqi, cm_nei, cm_nes, cm_eqs, cm_neb, rv_dat, rv_fre, lk_0, lk_1, lk_2, i3_0, i3_1, i3_2, t3_1, t3_2, ka_dat, ka_fre, ka_own, tn_fre, tg_nm, bi_add, bi_sub, cm_lt, cm_le, cm_gt, cm_ge, cm_is, bt_len, bt_lenT, bt_int, bt_list, bt_tuple, bt_min, List.set_cons_zero, List.set_cons_succ, cond_true, cond_false, tg_2, tn_own, pn_o, t2_0, t2_1, av_neg, av_nt, av_cmp, av_ife, av_sli, av_lc, av_dct, av_bop, o_bin, o_neg, lk_0a, lk_1a, lk_2a, tn_fd, tn_ff, tn_fo, tn_fn, pn_ff, pn_fo, bi_mul hm]) xs.flatten 1 [none, none] 1 g.b (by decide) (by decide) (by omega) rfl
  rw [Int.one_mul] at e
  unfold ir_raw_size
  simp only [b_ok, b_exc, st_ok, st_exc, sq_nx, sq_rt, sq_bk, sq_ct, sq_exc, of_some, nox_ok, lk_dat, lk_fre, kp_dat, kp_fre, asB_b, asI_i, dB_, tR, s_nil, s_cons, s_pass, s_ret, s_xpr, s_set, s_setO, s_unp, s_sti, s_ifs, s_fo, s_rai, e_var, e_lit, e_dct, e_glb, e_bin, e_neg, e_nt, e_cmp, e_chn, e_bop, c_one, c_and, c_or, e_ife, e_tup, e_lst, e_idx, e_sli, e_blt, e_isi, k_nil, k_cons, bl_nil, bl_cons, a_nil, a_cons, o_nil, o_var, o_lit, intO_i, av_dat, av_fre, av_own, av_var, av_lit, av_glb, av_bin, av_idx, av_lst, av_tup, av_cal, av_blt, av_lend, i_seq, i_rng, sl_0, sl_s, lks_nil, s_par, pn_nil, pn_f, pn_t, st_nil, st_cons, s_app2, ow_0, ow_s, cm_eqi, cm_nei, cm_nes, cm_eqs, cm_neb, rv_dat, rv_fre, lk_0, lk_1, lk_2, i3_0, i3_1, i3_2, t3_1, t3_2, ka_dat, ka_fre, ka_own, tn_fre, tg_nm, bi_add, bi_sub, cm_lt, cm_le, cm_gt, cm_ge, cm_is, bt_len, bt_lenT, bt_int, bt_list, bt_tuple, bt_min, List.set_cons_zero, List.set_cons_succ, cond_true, cond_false, tg_2, tn_own, pn_o, t2_0, t2_1, av_neg, av_nt, av_cmp, av_ife, av_sli, av_lc, av_dct, av_bop, o_bin, o_neg, lk_0a, lk_1a, lk_2a, tn_fd, tn_ff, tn_fo, tn_fn, pn_ff, pn_fo, e_cal gi, call_modes (show xs.flatten.length ≤ 10000 by omega), itemsD, e]
  rfl
theorem call_size {xs : List (List Md)} {μ : List Cell} (g : Sz xs.flatten) : callR c13 [.dat (axs xs)] μ = .ok (.dat (.int (size xs.flatten))) μ := call_dat (r := .dat (.int (size xs.flatten))) rfl rfl rfl (size_sem g) (.inr rfl)
/-! ### axes -/
theorem all_true {α : Type} {l : List α} {f : α → Bool} (h : ∀ x ∈ l, f x = true) : l.all f = true := List.all_eq_true.mpr h
theorem axes_sem {xs : List (List Md)} (v : Vld xs) : c16.sem [.dat (axs xs)] = some (.ret (.dat (.bool true)) []) := by
  show outOf 0 ((den ⟨cs16, con, exc, sub⟩ ir_is_axes).s [some (.dat (axs xs)), none, none, none] []) = _
  have gm : (⟨cs16, con, exc, sub⟩ : Ge).ces[12]? = some c12 := rfl
  have gs : (⟨cs16, con, exc, sub⟩ : Ge).ces[13]? = some c13 := rfl
  have gi : (⟨cs16, con, exc, sub⟩ : Ge).ces[15]? = some c15 := rfl
  have h8 : decide ((8 : Int) < ((xs.map ax).length : Int)) = false := decide_eq_false (by have := v.len; rw [List.length_map]; omega)
  have hm : xs.flatten.length ≤ 10000 := Nat.le_trans v.many (by decide)
  have h200 : decide ((200 : Int) < ((xs.flatten.map md).length : Int)) = false := decide_eq_false (by have := v.many; rw [List.length_map]; omega)
  have hsz : decide (size xs.flatten ≤ 10000000000000000000000000000000000000000) = true := decide_eq_true v.sz
  have q1 : (xs.map ax).length ≤ 10000000 := by have := v.len; rw [List.length_map]; omega
  have q2 : (xs.flatten.map md).length ≤ 10000000 := by rw [List.length_map]; omega
  have l1 : (den ⟨cs16, con, exc, sub⟩ (.lc [("axis", 2)] (.nm 2) (.iSeq (.var 0)) (.nil) (.isi (.var 2) [.list]))).e [some (.dat (axs xs)), none, none, none] [] = .ok (.fre ((xs.map ax).map fun d => .bool ([Ty.list].any (isTy d)))) [] :=
    lc_ok (ds := xs.map ax) (by simp only [b_ok, b_exc, st_ok, st_exc, sq_nx, sq_rt, sq_bk, sq_ct, sq_exc, of_some, nox_ok, lk_dat, lk_fre, kp_dat, kp_fre, asB_b, asI_i, dB_, tR, s_nil, s_cons, s_pass, s_ret, s_xpr, s_set, s_setO, s_unp, s_sti, s_ifs, s_fo, s_rai, e_var, e_lit, e_dct, e_glb, e_bin, e_neg, e_nt, e_cmp, e_chn, e_bop, c_one, c_and, c_or, e_ife, e_tup, e_lst, e_idx, e_sli, e_blt, e_isi, k_nil, k_cons, bl_nil, bl_cons, a_nil, a_cons, o_nil, o_var, o_lit, intO_i, av_dat, av_fre, av_own, av_var, av_lit, av_glb, av_bin, av_idx, av_lst, av_tup, av_cal, av_blt, av_lend, i_seq, i_rng, sl_0, sl_s, lks_nil, s_par, pn_nil, pn_f, pn_t, st_nil, st_cons, s_app2, ow_0, ow_s, cm_eqi, cm_nei, cm_nes, cm_eqs, cm_neb, rv_dat, rv_fre, lk_0, lk_1, lk_2, i3_0, i3_1, i3_2, t3_1, t3_2, ka_dat, ka_fre, ka_own, tn_fre, tg_nm, bi_add, bi_sub, cm_lt, cm_le, cm_gt, cm_ge, cm_is, bt_len, bt_lenT, bt_int, bt_list, bt_tuple, bt_min, List.set_cons_zero, List.set_cons_succ, cond_true, cond_false, tg_2, tn_own, pn_o, t2_0, t2_1, av_neg, av_nt, av_cmp, av_ife, av_sli, av_lc, av_dct, av_bop, o_bin, o_neg, lk_0a, lk_1a, lk_2a, tn_fd, tn_ff, tn_fo, tn_fn, pn_ff, pn_fo, itemsD]) (lcR_map fun d _ => ⟨[some (.dat (axs xs)), none, some (.dat d), none], rfl, te_ok (v := .dat _) (by simp only [b_ok, b_exc, st_ok, st_exc, sq_nx, sq_rt, sq_bk, sq_ct, sq_exc, of_some, nox_ok, lk_dat, lk_fre, kp_dat, kp_fre, asB_b, asI_i, dB_, tR, s_nil, s_cons, s_pass, s_ret, s_xpr, s_set, s_setO, s_unp, s_sti, s_ifs, s_fo, s_rai, e_var, e_lit, e_dct, e_glb, e_bin, e_neg, e_nt, e_cmp, e_chn, e_bop, c_one, c_and, c_or, e_ife, e_tup, e_lst, e_idx, e_sli, e_blt, e_isi, k_nil, k_cons, bl_nil, bl_cons, a_nil, a_cons, o_nil, o_var, o_lit, intO_i, av_dat, av_fre, av_own, av_var, av_lit, av_glb, av_bin, av_idx, av_lst, av_tup, av_cal, av_blt, av_lend, i_seq, i_rng, sl_0, sl_s, lks_nil, s_par, pn_nil, pn_f, pn_t, st_nil, st_cons, s_app2, ow_0, ow_s, cm_eqi, cm_nei, cm_nes, cm_eqs, cm_neb, rv_dat, rv_fre, lk_0, lk_1, lk_2, i3_0, i3_1, i3_2, t3_1, t3_2, ka_dat, ka_fre, ka_own, tn_fre, tg_nm, bi_add, bi_sub, cm_lt, cm_le, cm_gt, cm_ge, cm_is, bt_len, bt_lenT, bt_int, bt_list, bt_tuple, bt_min, List.set_cons_zero, List.set_cons_succ, cond_true, cond_false, tg_2, tn_own, pn_o, t2_0, t2_1, av_neg, av_nt, av_cmp, av_ife, av_sli, av_lc, av_dct, av_bop, o_bin, o_neg, lk_0a, lk_1a, lk_2a, tn_fd, tn_ff, tn_fo, tn_fn, pn_ff, pn_fo]) rfl⟩) q1
  have a1 : ((xs.map ax).all fun d => [Ty.list].any (isTy d)) = true := all_true fun d hd => by
    obtain ⟨ms, _, rfl⟩ := List.mem_map.mp hd
    rfl
  have l2 : (den ⟨cs16, con, exc, sub⟩ (.lc [("mode", 3)] (.nm 3) (.iSeq (.var 1)) (.nil) (.cal 15 (.cons (.var 3) (.nil))))).e [some (.dat (axs xs)), some (.dat (.list (xs.flatten.map md))), none, none] [] = .ok (.fre ((xs.flatten.map md).map fun d => .bool ((fun _ => true) d))) [] :=
    lc_ok (ds := xs.flatten.map md) (by simp only [b_ok, b_exc, st_ok, st_exc, sq_nx, sq_rt, sq_bk, sq_ct, sq_exc, of_some, nox_ok, lk_dat, lk_fre, kp_dat, kp_fre, asB_b, asI_i, dB_, tR, s_nil, s_cons, s_pass, s_ret, s_xpr, s_set, s_setO, s_unp, s_sti, s_ifs, s_fo, s_rai, e_var, e_lit, e_dct, e_glb, e_bin, e_neg, e_nt, e_cmp, e_chn, e_bop, c_one, c_and, c_or, e_ife, e_tup, e_lst, e_idx, e_sli, e_blt, e_isi, k_nil, k_cons, bl_nil, bl_cons, a_nil, a_cons, o_nil, o_var, o_lit, intO_i, av_dat, av_fre, av_own, av_var, av_lit, av_glb, av_bin, av_idx, av_lst, av_tup, av_cal, av_blt, av_lend, i_seq, i_rng, sl_0, sl_s, lks_nil, s_par, pn_nil, pn_f, pn_t, st_nil, st_cons, s_app2, ow_0, ow_s, cm_eqi, cm_nei, cm_nes, cm_eqs, cm_neb, rv_dat, rv_fre, lk_0, lk_1, lk_2, i3_0, i3_1, i3_2, t3_1, t3_2, ka_dat, ka_fre, ka_own, tn_fre, tg_nm, bi_add, bi_sub, cm_lt, cm_le, cm_gt, cm_ge, cm_is, bt_len, bt_lenT, bt_int, bt_list, bt_tuple, bt_min, List.set_cons_zero, List.set_cons_succ, cond_true, cond_false, tg_2, tn_own, pn_o, t2_0, t2_1, av_neg, av_nt, av_cmp, av_ife, av_sli, av_lc, av_dct, av_bop, o_bin, o_neg, lk_0a, lk_1a, lk_2a, tn_fd, tn_ff, tn_fo, tn_fn, pn_ff, pn_fo, itemsD]) (lcR_map fun d hd => ⟨[some (.dat (axs xs)), some (.dat (.list (xs.flatten.map md))), none, some (.dat d)], rfl, te_ok (v := .dat (.bool true)) (by
      obtain ⟨m, hm, rfl⟩ := List.mem_map.mp hd
      have e : callR c15 [.dat (md m)] [] = .ok (.dat (.bool true)) [] := call_dat (r := .dat (.bool true)) rfl rfl rfl (mode_sem (v.good m hm)) (.inr rfl)
      simp only [b_ok, b_exc, st_ok, st_exc, sq_nx, sq_rt, sq_bk, sq_ct, sq_exc, of_some, nox_ok, lk_dat, lk_fre, kp_dat, kp_fre, asB_b, asI_i, dB_, tR, s_nil, s_cons, s_pass, s_ret, s_xpr, s_set, s_setO, s_unp, s_sti, s_ifs, s_fo, s_rai, e_var, e_lit, e_dct, e_glb, e_bin, e_neg, e_nt, e_cmp, e_chn, e_bop, c_one, c_and, c_or, e_ife, e_tup, e_lst, e_idx, e_sli, e_blt, e_isi, k_nil, k_cons, bl_nil, bl_cons, a_nil, a_cons, o_nil, o_var, o_lit, intO_i, av_dat, av_fre, av_own, av_var, av_lit, av_glb, av_bin, av_idx, av_lst, av_tup, av_cal, av_blt, av_lend, i_seq, i_rng, sl_0, sl_s, lks_nil, s_par, pn_nil, pn_f, pn_t, st_nil, st_cons, s_app2, ow_0, ow_s, cm_eqi, cm_nei, cm_nes, cm_eqs, cm_neb, rv_dat, rv_fre, lk_0, lk_1, lk_2, i3_0, i3_1, i3_2, t3_1, t3_2, ka_dat, ka_fre, ka_own, tn_fre, tg_nm, bi_add, bi_sub, cm_lt, cm_le, cm_gt, cm_ge, cm_is, bt_len, bt_lenT, bt_int, bt_list, bt_tuple, bt_min, List.set_cons_zero, List.set_cons_succ, cond_true, cond_false, tg_2, tn_own, pn_o, t2_0, t2_1, av_neg, av_nt, av_cmp, av_ife, av_sli, av_lc, av_dct, av_bop, o_bin, o_neg, lk_0a, lk_1a, lk_2a, tn_fd, tn_ff, tn_fo, tn_fn, pn_ff, pn_fo, e_cal gi, e]) rfl⟩) q2
  have a2 : ((xs.flatten.map md).all fun _ => true) = true := all_true fun _ _ => rfl
  have t1 : ([Ty.list].any (isTy (axs xs))) = true := rfl
  have b1 : bltD .all1 [.list ((xs.map ax).map fun d => .bool ([Ty.list].any (isTy d)))] = some (.dat (.bool true)) := by rw [bt_all, a1]
  have b2 : bltD .all1 [.list ((xs.flatten.map md).map fun d => .bool ((fun _ => true) d))] = some (.dat (.bool true)) := by rw [bt_all, a2]
  unfold ir_is_axes
  simp only [b_ok, b_exc, st_ok, st_exc, sq_nx, sq_rt, sq_bk, sq_ct, sq_exc, of_some, nox_ok, lk_dat, lk_fre, kp_dat, kp_fre, asB_b, asI_i, dB_, tR, s_nil, s_cons, s_pass, s_ret, s_xpr, s_set, s_setO, s_unp, s_sti, s_ifs, s_fo, s_rai, e_var, e_lit, e_dct, e_glb, e_bin, e_neg, e_nt, e_cmp, e_chn, e_bop, c_one, c_and, c_or, e_ife, e_tup, e_lst, e_idx, e_sli, e_isi, k_nil, k_cons, bl_nil, bl_cons, a_nil, a_cons, o_nil, o_var, o_lit, intO_i, av_dat, av_fre, av_own, av_var, av_lit, av_glb, av_bin, av_idx, av_lst, av_tup, av_cal, av_blt, av_lend, i_seq, i_rng, sl_0, sl_s, lks_nil, s_par, pn_nil, pn_f, pn_t, st_nil, st_cons, s_app2, ow_0, ow_s, cm_eqi, cm_nei, cm_nes, cm_eqs, cm_neb, rv_dat, rv_fre, lk_0, lk_1, lk_2, i3_0, i3_1, i3_2, t3_1, t3_2, ka_dat, ka_fre, ka_own, tn_fre, tg_nm, bi_add, bi_sub, cm_lt, cm_le, cm_gt, cm_ge, cm_is, bt_len, bt_lenT, bt_int, bt_list, bt_tuple, bt_min, List.set_cons_zero, List.set_cons_succ, cond_true, cond_false, tg_2, tn_own, pn_o, t2_0, t2_1, av_neg, av_nt, av_cmp, av_ife, av_sli, av_lc, av_dct, av_bop, o_bin, o_neg, lk_0a, lk_1a, lk_2a, tn_fd, tn_ff, tn_fo, tn_fn, pn_ff, pn_fo, e_blt, t1, Bool.not_true, lks_dat lks_nil, h8, l1, l2, lks_fre lks_nil, b1, b2, e_cal gm, call_modes hm, h200, e_cal gs, call_size v.s, hsz]
  rfl
theorem need_sem {xs : List (List Md)} (v : Vld xs) : c17.sem [.dat (axs xs)] = some (.ret (.dat .none) []) := by
  show outOf 0 ((den ⟨cs17, con, exc, sub⟩ ir_need_axes).s [some (.dat (axs xs))] []) = _
  have gi : (⟨cs17, con, exc, sub⟩ : Ge).ces[16]? = some c16 := rfl
  have e : callR c16 [.dat (axs xs)] [] = .ok (.dat (.bool true)) [] := call_dat (r := .dat (.bool true)) rfl rfl rfl (axes_sem v) (.inr rfl)
  unfold ir_need_axes
  simp only [b_ok, b_exc, st_ok, st_exc, sq_nx, sq_rt, sq_bk, sq_ct, sq_exc, of_some, nox_ok, lk_dat, lk_fre, kp_dat, kp_fre, asB_b, asI_i, dB_, tR, s_nil, s_cons, s_pass, s_ret, s_xpr, s_set, s_setO, s_unp, s_sti, s_ifs, s_fo, s_rai, e_var, e_lit, e_dct, e_glb, e_bin, e_neg, e_nt, e_cmp, e_chn, e_bop, c_one, c_and, c_or, e_ife, e_tup, e_lst, e_idx, e_sli, e_blt, e_isi, k_nil, k_cons, bl_nil, bl_cons, a_nil, a_cons, o_nil, o_var, o_lit, intO_i, av_dat, av_fre, av_own, av_var, av_lit, av_glb, av_bin, av_idx, av_lst, av_tup, av_cal, av_blt, av_lend, i_seq, i_rng, sl_0, sl_s, lks_nil, s_par, pn_nil, pn_f, pn_t, st_nil, st_cons, s_app2, ow_0, ow_s, cm_eqi, cm_nei, cm_nes, cm_eqs, cm_neb, rv_dat, rv_fre, lk_0, lk_1, lk_2, i3_0, i3_1, i3_2, t3_1, t3_2, ka_dat, ka_fre, ka_own, tn_fre, tg_nm, bi_add, bi_sub, cm_lt, cm_le, cm_gt, cm_ge, cm_is, bt_len, bt_lenT, bt_int, bt_list, bt_tuple, bt_min, List.set_cons_zero, List.set_cons_succ, cond_true, cond_false, tg_2, tn_own, pn_o, t2_0, t2_1, av_neg, av_nt, av_cmp, av_ife, av_sli, av_lc, av_dct, av_bop, o_bin, o_neg, lk_0a, lk_1a, lk_2a, tn_fd, tn_ff, tn_fo, tn_fn, pn_ff, pn_fo, e_cal gi, e, Bool.not_true]
  rfl
theorem call_need {xs : List (List Md)} {μ : List Cell} (v : Vld xs) : callR c17 [.dat (axs xs)] μ = .ok (.dat .none) μ := call_dat (r := .dat .none) rfl rfl rfl (need_sem v) (.inr rfl)
end K04

set_option maxHeartbeats 1000000
namespace K04
open DL
open PySem PySem.Spec PyProof.Rows L2
/-! ### all modes, their product, a value: the law's own -/
theorem flat_loop {G : Ge} {v : Option SV} : ∀ (xs : List (List Md)) (acc : List Md) (z : Option SV) (k : Nat) (μ : List Cell), μ[k]? = some ⟨.live, acc.map md⟩ → acc.length + xs.flatten.length ≤ 100000 →
    ∃ z' k' μ', forR (Tg.nm 2).f.one (den G (.cons (.setO 1 (.bin .Add (.var 1) (.blt .list1 (.cons (.var 2) (.nil))))) (.nil))).s (xs.map ax) [v, some (.own k), z] μ = .nx [v, some (.own k'), z'] μ' ∧ μ'[k']? = some ⟨.live, (acc ++ xs.flatten).map md⟩
  | [], acc, z, k, μ, hk, _ => ⟨z, k, μ, rfl, by rw [List.flatten_nil, List.append_nil]; exact hk⟩
  | ms :: xs, acc, z, k, μ, hk, h => by
    rw [List.flatten_cons, List.length_append] at h
    obtain ⟨z', k', μ', e, h'⟩ := flat_loop (G := G) (v := v) xs (acc ++ ms) (some (.dat (ax ms))) μ.length (μ ++ [⟨.live, (acc ++ ms).map md⟩]) (by simp) (by rw [List.length_append]; omega)
    refine ⟨z', k', μ', ?_, by rw [List.flatten_cons, ← List.append_assoc]; exact h'⟩
    rw [← e]
    refine for_nx (ρ1 := [v, some (.own k), some (.dat (ax ms))]) rfl ?_
    have hz : (acc.map md).length + (ms.map md).length ≤ sizeLine := size7 (by rw [List.length_map, List.length_map]; omega)
    rw [List.map_append]
    simp only [b_ok, b_exc, st_ok, st_exc, sq_nx, sq_rt, sq_bk, sq_ct, sq_exc, of_some, nox_ok, lk_dat, lk_fre, kp_dat, kp_fre, asB_b, asI_i, dB_, tR, s_nil, s_cons, s_pass, s_ret, s_xpr, s_set, s_setO, s_unp, s_sti, s_ifs, s_fo, s_rai, e_var, e_lit, e_dct, e_glb, e_bin, e_neg, e_nt, e_cmp, e_chn, e_bop, c_one, c_and, c_or, e_ife, e_tup, e_lst, e_idx, e_sli, e_blt, e_isi, k_nil, k_cons, bl_nil, bl_cons, a_nil, a_cons, o_nil, o_var, o_lit, intO_i, av_dat, av_fre, av_own, av_var, av_lit, av_glb, av_bin, av_idx, av_lst, av_tup, av_cal, av_blt, av_lend, i_seq, i_rng, sl_0, sl_s, lks_nil, s_par, pn_nil, pn_f, pn_t, st_nil, st_cons, s_app2, ow_0, ow_s, cm_eqi, cm_nei, cm_nes, cm_eqs, cm_neb, rv_dat, rv_fre, lk_0, lk_1, lk_2, i3_0, i3_1, i3_2, t3_1, t3_2, ka_dat, ka_fre, ka_own, tn_fre, tg_nm, bi_add, bi_sub, cm_lt, cm_le, cm_gt, cm_ge, cm_is, bt_len, bt_lenT, bt_int, bt_list, bt_tuple, bt_min, List.set_cons_zero, List.set_cons_succ, cond_true, cond_false, tg_2, tn_own, pn_o, t2_0, t2_1, av_neg, av_nt, av_cmp, av_ife, av_sli, av_lc, av_dct, av_bop, o_bin, o_neg, lk_0a, lk_1a, lk_2a, tn_fd, tn_ff, tn_fo, tn_fn, pn_ff, pn_fo, lk_own hk, lks_dat lks_nil, bi_cat hz]
theorem flat_sem {xs : List (List Md)} (h : xs.flatten.length ≤ 10000) : c5.sem [.dat (axs xs)] = some (.ret (.fre (xs.flatten.map md)) []) := by
  obtain ⟨z', k', μ', e, h'⟩ := flat_loop (G := ⟨cs5, con, exc, sub⟩) (v := some (.dat (axs xs))) xs [] none 0 [⟨.live, []⟩] rfl (by simp only [List.length_nil]; omega)
  show outOf 0 ((den ⟨cs5, con, exc, sub⟩ ir__law_flat).s [some (.dat (axs xs)), none, none] []) = _
  unfold ir__law_flat
  simp only [b_ok, b_exc, st_ok, st_exc, sq_nx, sq_rt, sq_bk, sq_ct, sq_exc, of_some, nox_ok, lk_dat, lk_fre, kp_dat, kp_fre, asB_b, asI_i, dB_, tR, s_nil, s_cons, s_pass, s_ret, s_xpr, s_set, s_setO, s_unp, s_sti, s_ifs, s_fo, s_rai, e_var, e_lit, e_dct, e_glb, e_bin, e_neg, e_nt, e_cmp, e_chn, e_bop, c_one, c_and, c_or, e_ife, e_tup, e_lst, e_idx, e_sli, e_blt, e_isi, k_nil, k_cons, bl_nil, bl_cons, a_nil, a_cons, o_nil, o_var, o_lit, intO_i, av_dat, av_fre, av_own, av_var, av_lit, av_glb, av_bin, av_idx, av_lst, av_tup, av_cal, av_blt, av_lend, i_seq, i_rng, sl_0, sl_s, lks_nil, s_par, pn_nil, pn_f, pn_t, st_nil, st_cons, s_app2, ow_0, ow_s, cm_eqi, cm_nei, cm_nes, cm_eqs, cm_neb, rv_dat, rv_fre, lk_0, lk_1, lk_2, i3_0, i3_1, i3_2, t3_1, t3_2, ka_dat, ka_fre, ka_own, tn_fre, tg_nm, bi_add, bi_sub, cm_lt, cm_le, cm_gt, cm_ge, cm_is, bt_len, bt_lenT, bt_int, bt_list, bt_tuple, bt_min, List.set_cons_zero, List.set_cons_succ, cond_true, cond_false, tg_2, tn_own, pn_o, t2_0, t2_1, av_neg, av_nt, av_cmp, av_ife, av_sli, av_lc, av_dct, av_bop, o_bin, o_neg, lk_0a, lk_1a, lk_2a, tn_fd, tn_ff, tn_fo, tn_fn, pn_ff, pn_fo, itemsD, List.length_nil, List.nil_append]
  rw [e]
  simp only [b_ok, b_exc, st_ok, st_exc, sq_nx, sq_rt, sq_bk, sq_ct, sq_exc, of_some, nox_ok, lk_dat, lk_fre, kp_dat, kp_fre, asB_b, asI_i, dB_, tR, s_nil, s_cons, s_pass, s_ret, s_xpr, s_set, s_setO, s_unp, s_sti, s_ifs, s_fo, s_rai, e_var, e_lit, e_dct, e_glb, e_bin, e_neg, e_nt, e_cmp, e_chn, e_bop, c_one, c_and, c_or, e_ife, e_tup, e_lst, e_idx, e_sli, e_blt, e_isi, k_nil, k_cons, bl_nil, bl_cons, a_nil, a_cons, o_nil, o_var, o_lit, intO_i, av_dat, av_fre, av_own, av_var, av_lit, av_glb, av_bin, av_idx, av_lst, av_tup, av_cal, av_blt, av_lend, i_seq, i_rng, sl_0, sl_s, lks_nil, s_par, pn_nil, pn_f, pn_t, st_nil, st_cons, s_app2, ow_0, ow_s, cm_eqi, cm_nei, cm_nes, cm_eqs, cm_neb, rv_dat, rv_fre, lk_0, lk_1, lk_2, i3_0, i3_1, i3_2, t3_1, t3_2, ka_dat, ka_fre, ka_own, tn_fre, tg_nm, bi_add, bi_sub, cm_lt, cm_le, cm_gt, cm_ge, cm_is, bt_len, bt_lenT, bt_int, bt_list, bt_tuple, bt_min, List.set_cons_zero, List.set_cons_succ, cond_true, cond_false, tg_2, tn_own, pn_o, t2_0, t2_1, av_neg, av_nt, av_cmp, av_ife, av_sli, av_lc, av_dct, av_bop, o_bin, o_neg, lk_0a, lk_1a, lk_2a, tn_fd, tn_ff, tn_fo, tn_fn, pn_ff, pn_fo]
  exact out_own (Nat.zero_le _) h' rfl
theorem call_flat {xs : List (List Md)} {μ : List Cell} (h : xs.flatten.length ≤ 10000) : callR c5 [.dat (axs xs)] μ = .ok (.fre (xs.flatten.map md)) μ := call_dat (r := .fre (xs.flatten.map md)) rfl rfl rfl (flat_sem h) (.inr rfl)
theorem many_sem {ms : List Md} (g : Sz ms) : c10.sem [.dat (ax ms)] = some (.ret (.dat (.int (size ms))) []) := by
  show outOf 0 ((den ⟨cs10, con, exc, sub⟩ ir__law_many).s [some (.dat (ax ms)), none, none] []) = _
  have hl := g.len
  obtain ⟨zs, hz, e⟩ := size_loop (G := ⟨cs10, con, exc, sub⟩) (b := .cons (.set 1 (.bin .Mult (.var 1) (.idx (.var 2) (.lit (.int 0))))) .nil) (tg := .nm 2) (v := some (.dat (ax ms))) (μ := []) (n := 1) (fun m acc zs hm hz => by
    obtain ⟨a, rfl⟩ := len1 hz
    refine ⟨[some (.dat (md m))], rfl, _, rfl, ?_⟩
    simp only [b_ok, b_exc, st_ok, st_exc, sq_nx, sq_rt, sq_bk, sq_ct, sq_exc, of_some, nox_ok, lk_dat, lk_fre, kp_dat, kp_fre, asB_b, asI_i, dB_, tR, s_nil, s_cons, s_pass, s_ret, s_xpr, s_set, s_setO, s_unp, s_sti, s_ifs, s_fo, s_rai, e_var, e_lit, e_dct, e_glb, e_bin, e_neg, e_nt, e_cmp, e_chn, e_bop, c_one, c_and, c_or, e_ife, e_tup, e_lst, e_idx, e_sli, e_blt, e_isi, k_nil, k_cons, bl_nil, bl_cons, a_nil, a_cons, o_nil, o_var, o_lit, intO_i, av_dat, av_fre, av_own, av_var, av_lit, av_glb, av_bin, av_idx, av_lst, av_tup, av_cal, av_blt, av_lend, i_seq, i_rng, sl_0, sl_s, lks_nil, s_par, pn_nil, pn_f, pn_t, st_nil, st_cons, s_app2, ow_0, ow_s, cm_eqi, cm_nei, cm_nes, cm_eqs, cm_neb, rv_dat, rv_fre, lk_0, lk_1, lk_2, i3_0, i3_1, i3_2, t3_1, t3_2, ka_dat, ka_fre, ka_own, tn_fre, tg_nm, bi_add, bi_sub, cm_lt, cm_le, cm_gt, cm_ge, cm_is, bt_len, bt_lenT, bt_int, bt_list, bt_tuple, bt_min, List.set_cons_zero, List.set_cons_succ, cond_true, cond_false, tg_2, tn_own, pn_o, t2_0, t2_1, av_neg, av_nt, av_cmp, av_ife, av_sli, av_lc, av_dct, av_bop, o_bin, o_neg, lk_0a, lk_1a, lk_2a, tn_fd, tn_ff, tn_fo, tn_fn, pn_ff, pn_fo, bi_mul hm]) ms 1 [none] 1 g.b (by decide) (by decide) (by omega) rfl
  rw [Int.one_mul] at e
  unfold ir__law_many
  simp only [b_ok, b_exc, st_ok, st_exc, sq_nx, sq_rt, sq_bk, sq_ct, sq_exc, of_some, nox_ok, lk_dat, lk_fre, kp_dat, kp_fre, asB_b, asI_i, dB_, tR, s_nil, s_cons, s_pass, s_ret, s_xpr, s_set, s_setO, s_unp, s_sti, s_ifs, s_fo, s_rai, e_var, e_lit, e_dct, e_glb, e_bin, e_neg, e_nt, e_cmp, e_chn, e_bop, c_one, c_and, c_or, e_ife, e_tup, e_lst, e_idx, e_sli, e_blt, e_isi, k_nil, k_cons, bl_nil, bl_cons, a_nil, a_cons, o_nil, o_var, o_lit, intO_i, av_dat, av_fre, av_own, av_var, av_lit, av_glb, av_bin, av_idx, av_lst, av_tup, av_cal, av_blt, av_lend, i_seq, i_rng, sl_0, sl_s, lks_nil, s_par, pn_nil, pn_f, pn_t, st_nil, st_cons, s_app2, ow_0, ow_s, cm_eqi, cm_nei, cm_nes, cm_eqs, cm_neb, rv_dat, rv_fre, lk_0, lk_1, lk_2, i3_0, i3_1, i3_2, t3_1, t3_2, ka_dat, ka_fre, ka_own, tn_fre, tg_nm, bi_add, bi_sub, cm_lt, cm_le, cm_gt, cm_ge, cm_is, bt_len, bt_lenT, bt_int, bt_list, bt_tuple, bt_min, List.set_cons_zero, List.set_cons_succ, cond_true, cond_false, tg_2, tn_own, pn_o, t2_0, t2_1, av_neg, av_nt, av_cmp, av_ife, av_sli, av_lc, av_dct, av_bop, o_bin, o_neg, lk_0a, lk_1a, lk_2a, tn_fd, tn_ff, tn_fo, tn_fn, pn_ff, pn_fo, itemsD, e]
  rfl
theorem call_many {ms : List Md} {μ : List Cell} (g : Sz ms) : callR c10 [.dat (ax ms)] μ = .ok (.dat (.int (size ms))) μ := call_dat (r := .dat (.int (size ms))) rfl rfl rfl (many_sem g) (.inr rfl)
theorem worth_loop {G : Ge} {v w : Option SV} : ∀ (ms : List Md) (found left : Int) (z1 z2 : Option SV), (∀ m ∈ ms, GoodM m) → 0 ≤ left → left.natAbs < 2 ^ 133 →
    ∃ z1' z2' left', forR (Tg.cons (.nm 4) (.cons (.nm 5) .nil)).f.one (den G (.cons (.set 2 (.bin .Add (.var 2) (.bin .Mult (.bin .Sub (.var 3) (.bin .Mult (.bin .FloorDiv (.var 3) (.var 4)) (.var 4))) (.var 5)))) (.cons (.set 3 (.bin .FloorDiv (.var 3) (.var 4))) (.nil)))).s (ms.map md) [v, w, some (.dat (.int found)), some (.dat (.int left)), z1, z2] [] =
      .nx [v, w, some (.dat (.int (found + worth ms left))), some (.dat (.int left')), z1', z2'] []
  | [], found, left, z1, z2, _, _, _ => ⟨z1, z2, left, by rw [worth, Int.add_zero]; rfl⟩
  | m :: ms, found, left, z1, z2, h, h0, h1 => by
    have g := h m (List.mem_cons_self ..)
    have s0 := g.s0
    have d0 : okDiv m.1 = true := okDiv_of (by omega) g.a1 (by decide) (by decide)
    have q0 : 0 ≤ left / m.1 := Int.ediv_nonneg h0 (by omega)
    have q1 : left / m.1 ≤ left := Int.ediv_le_self _ h0
    have qa : (left / m.1).natAbs < 2 ^ 133 := by omega
    have hm : okMul (left / m.1) m.1 = true := okMul_of qa g.a1 (by decide) (by decide) (by decide)
    have e0 : left - left / m.1 * m.1 = left % m.1 := by rw [Int.emod_def, Int.mul_comm]
    obtain ⟨r0, r1⟩ := mod_b left (p := m.1) (by omega)
    have ra : (left % m.1).natAbs < 2 ^ 133 := by have := g.a1; omega
    have hm2 : okMul (left % m.1) m.2 = true := okMul_of ra g.a2 (by decide) (by decide) (by decide)
    obtain ⟨z1', z2', left', e⟩ := worth_loop (G := G) (v := v) (w := w) ms (found + left % m.1 * m.2) (left / m.1) (some (.dat (.int m.1))) (some (.dat (.int m.2))) (fun y hy => h y (List.mem_cons_of_mem _ hy)) q0 qa
    refine ⟨z1', z2', left', ?_⟩
    rw [show found + worth (m :: ms) left = found + left % m.1 * m.2 + worth ms (left / m.1) from by rw [worth]; omega, ← e]
    refine for_nx (ρ1 := [v, w, some (.dat (.int found)), some (.dat (.int left)), some (.dat (.int m.1)), some (.dat (.int m.2))]) rfl ?_
    simp only [b_ok, b_exc, st_ok, st_exc, sq_nx, sq_rt, sq_bk, sq_ct, sq_exc, of_some, nox_ok, lk_dat, lk_fre, kp_dat, kp_fre, asB_b, asI_i, dB_, tR, s_nil, s_cons, s_pass, s_ret, s_xpr, s_set, s_setO, s_unp, s_sti, s_ifs, s_fo, s_rai, e_var, e_lit, e_dct, e_glb, e_bin, e_neg, e_nt, e_cmp, e_chn, e_bop, c_one, c_and, c_or, e_ife, e_tup, e_lst, e_idx, e_sli, e_blt, e_isi, k_nil, k_cons, bl_nil, bl_cons, a_nil, a_cons, o_nil, o_var, o_lit, intO_i, av_dat, av_fre, av_own, av_var, av_lit, av_glb, av_bin, av_idx, av_lst, av_tup, av_cal, av_blt, av_lend, i_seq, i_rng, sl_0, sl_s, lks_nil, s_par, pn_nil, pn_f, pn_t, st_nil, st_cons, s_app2, ow_0, ow_s, cm_eqi, cm_nei, cm_nes, cm_eqs, cm_neb, rv_dat, rv_fre, lk_0, lk_1, lk_2, i3_0, i3_1, i3_2, t3_1, t3_2, ka_dat, ka_fre, ka_own, tn_fre, tg_nm, bi_add, bi_sub, cm_lt, cm_le, cm_gt, cm_ge, cm_is, bt_len, bt_lenT, bt_int, bt_list, bt_tuple, bt_min, List.set_cons_zero, List.set_cons_succ, cond_true, cond_false, tg_2, tn_own, pn_o, t2_0, t2_1, av_neg, av_nt, av_cmp, av_ife, av_sli, av_lc, av_dct, av_bop, o_bin, o_neg, lk_0a, lk_1a, lk_2a, tn_fd, tn_ff, tn_fo, tn_fn, pn_ff, pn_fo, bi_div d0, bi_mul hm, e0, bi_mul hm2]
theorem worth_sem {ms : List Md} (g : ∀ m ∈ ms, GoodM m) {i : Int} (h0 : 0 ≤ i) (h1 : i.natAbs < 2 ^ 133) : c25.sem [.dat (ax ms), .dat (.int i)] = some (.ret (.dat (.int (worth ms i))) []) := by
  obtain ⟨z1, z2, l, e⟩ := worth_loop (G := ⟨cs25, con, exc, sub⟩) (v := some (.dat (ax ms))) (w := some (.dat (.int i))) ms 0 i none none g h0 h1
  rw [Int.zero_add] at e
  show outOf 0 ((den ⟨cs25, con, exc, sub⟩ ir__law_worth).s [some (.dat (ax ms)), some (.dat (.int i)), none, none, none, none] []) = _
  unfold ir__law_worth
  simp only [b_ok, b_exc, st_ok, st_exc, sq_nx, sq_rt, sq_bk, sq_ct, sq_exc, of_some, nox_ok, lk_dat, lk_fre, kp_dat, kp_fre, asB_b, asI_i, dB_, tR, s_nil, s_cons, s_pass, s_ret, s_xpr, s_set, s_setO, s_unp, s_sti, s_ifs, s_fo, s_rai, e_var, e_lit, e_dct, e_glb, e_bin, e_neg, e_nt, e_cmp, e_chn, e_bop, c_one, c_and, c_or, e_ife, e_tup, e_lst, e_idx, e_sli, e_blt, e_isi, k_nil, k_cons, bl_nil, bl_cons, a_nil, a_cons, o_nil, o_var, o_lit, intO_i, av_dat, av_fre, av_own, av_var, av_lit, av_glb, av_bin, av_idx, av_lst, av_tup, av_cal, av_blt, av_lend, i_seq, i_rng, sl_0, sl_s, lks_nil, s_par, pn_nil, pn_f, pn_t, st_nil, st_cons, s_app2, ow_0, ow_s, cm_eqi, cm_nei, cm_nes, cm_eqs, cm_neb, rv_dat, rv_fre, lk_0, lk_1, lk_2, i3_0, i3_1, i3_2, t3_1, t3_2, ka_dat, ka_fre, ka_own, tn_fre, tg_nm, bi_add, bi_sub, cm_lt, cm_le, cm_gt, cm_ge, cm_is, bt_len, bt_lenT, bt_int, bt_list, bt_tuple, bt_min, List.set_cons_zero, List.set_cons_succ, cond_true, cond_false, tg_2, tn_own, pn_o, t2_0, t2_1, av_neg, av_nt, av_cmp, av_ife, av_sli, av_lc, av_dct, av_bop, o_bin, o_neg, lk_0a, lk_1a, lk_2a, tn_fd, tn_ff, tn_fo, tn_fn, pn_ff, pn_fo, List.map_cons, List.map_nil, itemsD, e]
  rfl
theorem call_worth {ms : List Md} (g : ∀ m ∈ ms, GoodM m) {i : Int} (h0 : 0 ≤ i) (h1 : i.natAbs < 2 ^ 133) {μ : List Cell} : callR c25 [.dat (ax ms), .dat (.int i)] μ = .ok (.dat (.int (worth ms i))) μ := call_dat (r := .dat (.int (worth ms i))) rfl rfl rfl (worth_sem g h0 h1) (.inr rfl)
/-! ### the shortest form -/
abbrev irS : IR := .cons (.ifs (.cmp .Eq (.var 2) (.lit (.int 1))) (.cons (.ctn) (.nil)) (.nil)) (.cons (.ifs (.bop .And (.cons (.cmp .NotEq (.var 1) (.lst (.nil))) (.cons (.cmp .Eq (.var 3) (.bin .Mult (.idx (.idx (.var 1) (.neg (.lit (.int 1)))) (.lit (.int 0))) (.idx (.idx (.var 1) (.neg (.lit (.int 1)))) (.lit (.int 1))))) (.nil)))) (.cons (.sti 1 (.neg (.lit (.int 1))) (.tup (.cons (.bin .Mult (.idx (.idx (.var 1) (.neg (.lit (.int 1)))) (.lit (.int 0))) (.var 2)) (.cons (.idx (.idx (.var 1) (.neg (.lit (.int 1)))) (.lit (.int 1))) (.nil))))) (.nil)) (.cons (.app 1 (.tup (.cons (.var 2) (.cons (.var 3) (.nil))))) (.nil))) (.nil))
/-- the forms on the way are within the bounds -/
structure Way (acc ms : List Md) : Prop where
  good : ∀ m ∈ acc, GoodM m
  rest : ∀ m ∈ ms, GoodM m
  sz : size acc * size ms ≤ M40
  len : acc.length + ms.length ≤ 5000
theorem ne_mapE (a : List Md) (l : Md) : (!((a ++ [l]).map md).isEmpty) = true := by cases a <;> rfl
theorem push_good {acc ms : List Md} {m : Md} (w : Way acc (m :: ms)) : Way (push acc m) ms := by
  have gm := w.rest m (List.mem_cons_self ..)
  have gr : ∀ x ∈ ms, GoodM x := fun x hx => w.rest x (List.mem_cons_of_mem _ hx)
  have hl := w.len
  rw [List.length_cons] at hl
  have hs := w.sz
  rw [size, ← Int.mul_assoc] at hs
  by_cases e : m.1 = 1
  · rw [push_one e]
    rw [e, Int.mul_one] at hs
    exact ⟨w.good, gr, hs, by omega⟩
  · rcases end_cases acc with rfl | ⟨a, l, rfl⟩
    · rw [push_nil e]
      refine ⟨fun x hx => ?_, gr, by simpa [size] using hs, by simp; omega⟩
      rw [List.mem_singleton.mp hx]
      exact gm
    · have gl := w.good l (by simp)
      by_cases g : m.2 = l.1 * l.2
      · rw [push_mrg e g]
        have es : size (a ++ [(l.1 * m.1, l.2)]) = size (a ++ [l]) * m.1 := by rw [size_app, size_app]; simp [size, Int.mul_assoc]
        have pa : Pos (a ++ [l]) := fun x hx => (w.good x hx).s0
        have p1 := size_pos pa.left
        have p2 : 1 ≤ size ms := size_pos fun x hx => (gr x hx).s0
        have l1 := gl.s0
        have m1 := gm.s0
        have lm : 1 ≤ l.1 * m.1 := by
          have := Int.mul_le_mul l1 m1 (by decide) (by omega)
          omega
        have b1 : l.1 * m.1 ≤ size (a ++ [l]) * m.1 := by
          rw [size_app]
          simp only [size, Int.mul_one]
          rw [Int.mul_assoc]
          have := Int.mul_le_mul p1 (Int.le_refl (l.1 * m.1)) (by omega) (by omega)
          omega
        have b2 : size (a ++ [l]) * m.1 ≤ size (a ++ [l]) * m.1 * size ms := by
          have := Int.mul_le_mul (Int.le_refl (size (a ++ [l]) * m.1)) p2 (by decide) (by omega)
          omega
        refine ⟨fun x hx => ?_, gr, by rw [es]; exact hs, by simp at hl ⊢; omega⟩
        rcases List.mem_append.mp hx with q | q
        · exact w.good x (List.mem_append_left _ q)
        · rw [List.mem_singleton.mp q]
          exact ⟨lm, by show l.1 * m.1 ≤ _; omega, gl.t0, gl.t1⟩
      · rw [push_add e g]
        refine ⟨fun x hx => ?_, gr, by rw [size_app]; simpa [size] using hs, by simp at hl ⊢; omega⟩
        rcases List.mem_append.mp hx with q | q
        · exact w.good x q
        · rw [List.mem_singleton.mp q]
          exact gm
theorem short_loop {G : Ge} {v : Option SV} : ∀ (ms acc : List Md) (z1 z2 : Option SV), Way acc ms →
    ∃ z1' z2', forR (Tg.cons (.nm 2) (.cons (.nm 3) .nil)).f.one (den G irS).s (ms.map md) [v, some (.own 0), z1, z2] [⟨.live, acc.map md⟩] = .nx [v, some (.own 0), z1', z2'] [⟨.live, (shortA acc ms).map md⟩]
  | [], acc, z1, z2, _ => ⟨z1, z2, rfl⟩
  | m :: ms, acc, z1, z2, w => by
    obtain ⟨z1', z2', e⟩ := short_loop (G := G) (v := v) ms (push acc m) (some (.dat (.int m.1))) (some (.dat (.int m.2))) (push_good w)
    refine ⟨z1', z2', ?_⟩
    rw [show shortA acc (m :: ms) = shortA (push acc m) ms from rfl, ← e]
    have gm := w.rest m (List.mem_cons_self ..)
    have hl := w.len
    rw [List.length_cons] at hl
    by_cases h1 : m.1 = 1
    · rw [push_one h1]
      refine for_ct (ρ1 := [v, some (.own 0), some (.dat (.int m.1)), some (.dat (.int m.2))]) rfl ?_
      have h1' : decide (m.1 = 1) = true := decide_eq_true h1
      simp only [b_ok, b_exc, st_ok, st_exc, sq_nx, sq_rt, sq_bk, sq_ct, sq_exc, of_some, nox_ok, lk_dat, lk_fre, kp_dat, kp_fre, asB_b, asI_i, dB_, tR, s_nil, s_cons, s_pass, s_ret, s_xpr, s_set, s_setO, s_unp, s_sti, s_ifs, s_fo, s_rai, e_var, e_lit, e_dct, e_glb, e_bin, e_neg, e_nt, e_cmp, e_chn, e_bop, c_one, c_and, c_or, e_ife, e_tup, e_lst, e_idx, e_sli, e_blt, e_isi, k_nil, k_cons, bl_nil, bl_cons, a_nil, a_cons, o_nil, o_var, o_lit, intO_i, av_dat, av_fre, av_own, av_var, av_lit, av_glb, av_bin, av_idx, av_lst, av_tup, av_cal, av_blt, av_lend, i_seq, i_rng, sl_0, sl_s, lks_nil, s_par, pn_nil, pn_f, pn_t, st_nil, st_cons, s_app2, ow_0, ow_s, cm_eqi, cm_nei, cm_nes, cm_eqs, cm_neb, rv_dat, rv_fre, lk_0, lk_1, lk_2, i3_0, i3_1, i3_2, t3_1, t3_2, ka_dat, ka_fre, ka_own, tn_fre, tg_nm, bi_add, bi_sub, cm_lt, cm_le, cm_gt, cm_ge, cm_is, bt_len, bt_lenT, bt_int, bt_list, bt_tuple, bt_min, List.set_cons_zero, List.set_cons_succ, cond_true, cond_false, tg_2, tn_own, pn_o, t2_0, t2_1, av_neg, av_nt, av_cmp, av_ife, av_sli, av_lc, av_dct, av_bop, o_bin, o_neg, lk_0a, lk_1a, lk_2a, tn_fd, tn_ff, tn_fo, tn_fn, pn_ff, pn_fo, h1']
      rfl
    · refine for_nx (ρ1 := [v, some (.own 0), some (.dat (.int m.1)), some (.dat (.int m.2))]) rfl ?_
      have h1' : decide (m.1 = 1) = false := decide_eq_false h1
      rcases end_cases acc with rfl | ⟨a, l, rfl⟩
      · rw [push_nil h1]
        have cn : cmp2 .NotEq (.list (([] : List Md).map md)) (.list []) = some false := cm_neNil (m := []) sh_nil
        have ap : appR 0 (.tuple [.int m.1, .int m.2]) [⟨.live, ([] : List Md).map md⟩] = some [⟨.live, [m].map md⟩] := by
          rw [app_of (c := ⟨.live, []⟩) rfl (fun z => nomatch z) (by decide)]
          rfl
        simp only [b_ok, b_exc, st_ok, st_exc, sq_nx, sq_rt, sq_bk, sq_ct, sq_exc, of_some, nox_ok, lk_dat, lk_fre, kp_dat, kp_fre, asB_b, asI_i, dB_, tR, s_nil, s_cons, s_pass, s_ret, s_xpr, s_set, s_setO, s_unp, s_sti, s_ifs, s_fo, s_rai, e_var, e_lit, e_dct, e_glb, e_bin, e_neg, e_nt, e_cmp, e_chn, e_bop, c_one, c_and, c_or, e_ife, e_tup, e_lst, e_idx, e_sli, e_blt, e_isi, k_nil, k_cons, bl_nil, bl_cons, a_nil, a_cons, o_nil, o_var, o_lit, intO_i, av_dat, av_fre, av_own, av_var, av_lit, av_glb, av_bin, av_idx, av_lst, av_tup, av_cal, av_blt, av_lend, i_seq, i_rng, sl_0, sl_s, lks_nil, s_par, pn_nil, pn_f, pn_t, st_nil, st_cons, s_app2, ow_0, ow_s, cm_eqi, cm_nei, cm_nes, cm_eqs, cm_neb, rv_dat, rv_fre, lk_0, lk_1, lk_2, i3_0, i3_1, i3_2, t3_1, t3_2, ka_dat, ka_fre, ka_own, tn_fre, tg_nm, bi_add, bi_sub, cm_lt, cm_le, cm_gt, cm_ge, cm_is, bt_len, bt_lenT, bt_int, bt_list, bt_tuple, bt_min, List.set_cons_zero, List.set_cons_succ, cond_true, cond_false, tg_2, tn_own, pn_o, t2_0, t2_1, av_neg, av_nt, av_cmp, av_ife, av_sli, av_lc, av_dct, av_bop, o_bin, o_neg, lk_0a, lk_1a, lk_2a, tn_fd, tn_ff, tn_fo, tn_fn, pn_ff, pn_fo, h1', cn, ap]
      · have gl := w.good l (by simp)
        have cn : cmp2 .NotEq (.list ((a ++ [l]).map md)) (.list []) = some true := by
          rw [cm_neNil (sh_ax _), ne_mapE]
        have il : idxD (.list ((a ++ [l]).map md)) (.int (-1)) = some (.tuple [.int l.1, .int l.2]) := by
          rw [List.map_append]
          exact at_last
        have k1 : okMul l.1 l.2 = true := okMul_of gl.a1 gl.a2 (by decide) (by decide) (by decide)
        have k2 : okMul l.1 m.1 = true := okMul_of gl.a1 gm.a1 (by decide) (by decide) (by decide)
        by_cases g : m.2 = l.1 * l.2
        · rw [push_mrg h1 g]
          have g' : decide (m.2 = l.1 * l.2) = true := decide_eq_true g
          have st : stiV (-1) (.tuple [.int (l.1 * m.1), .int l.2]) (.own 0) [⟨.live, (a ++ [l]).map md⟩] = .ok [⟨.live, (a ++ [(l.1 * m.1, l.2)]).map md⟩] [⟨.live, (a ++ [l]).map md⟩] := by
            rw [sti_of (c := ⟨.live, (a ++ [l]).map md⟩) rfl (fun z => nomatch z) (ix_last (by simp))]
            simp
          simp only [b_ok, b_exc, st_ok, st_exc, sq_nx, sq_rt, sq_bk, sq_ct, sq_exc, of_some, nox_ok, lk_dat, lk_fre, kp_dat, kp_fre, asB_b, asI_i, dB_, tR, s_nil, s_cons, s_pass, s_ret, s_xpr, s_set, s_setO, s_unp, s_sti, s_ifs, s_fo, s_rai, e_var, e_lit, e_dct, e_glb, e_bin, e_neg, e_nt, e_cmp, e_chn, e_bop, c_one, c_and, c_or, e_ife, e_tup, e_lst, e_idx, e_sli, e_blt, e_isi, k_nil, k_cons, bl_nil, bl_cons, a_nil, a_cons, o_nil, o_var, o_lit, intO_i, av_dat, av_fre, av_own, av_var, av_lit, av_glb, av_bin, av_idx, av_lst, av_tup, av_cal, av_blt, av_lend, i_seq, i_rng, sl_0, sl_s, lks_nil, s_par, pn_nil, pn_f, pn_t, st_nil, st_cons, s_app2, ow_0, ow_s, cm_eqi, cm_nei, cm_nes, cm_eqs, cm_neb, rv_dat, rv_fre, lk_0, lk_1, lk_2, i3_0, i3_1, i3_2, t3_1, t3_2, ka_dat, ka_fre, ka_own, tn_fre, tg_nm, bi_add, bi_sub, cm_lt, cm_le, cm_gt, cm_ge, cm_is, bt_len, bt_lenT, bt_int, bt_list, bt_tuple, bt_min, List.set_cons_zero, List.set_cons_succ, cond_true, cond_false, tg_2, tn_own, pn_o, t2_0, t2_1, av_neg, av_nt, av_cmp, av_ife, av_sli, av_lc, av_dct, av_bop, o_bin, o_neg, lk_0a, lk_1a, lk_2a, tn_fd, tn_ff, tn_fo, tn_fn, pn_ff, pn_fo, h1', cn, il, bi_mul k1, g', bi_mul k2, st, Int.reduceNeg]
        · rw [push_add h1 g]
          have g' : decide (m.2 = l.1 * l.2) = false := decide_eq_false g
          have ap : appR 0 (.tuple [.int m.1, .int m.2]) [⟨.live, (a ++ [l]).map md⟩] = some [⟨.live, (a ++ [l] ++ [m]).map md⟩] := by
            rw [app_of (c := ⟨.live, (a ++ [l]).map md⟩) rfl (fun z => nomatch z) (by simp at hl ⊢; omega)]
            simp
          simp only [b_ok, b_exc, st_ok, st_exc, sq_nx, sq_rt, sq_bk, sq_ct, sq_exc, of_some, nox_ok, lk_dat, lk_fre, kp_dat, kp_fre, asB_b, asI_i, dB_, tR, s_nil, s_cons, s_pass, s_ret, s_xpr, s_set, s_setO, s_unp, s_sti, s_ifs, s_fo, s_rai, e_var, e_lit, e_dct, e_glb, e_bin, e_neg, e_nt, e_cmp, e_chn, e_bop, c_one, c_and, c_or, e_ife, e_tup, e_lst, e_idx, e_sli, e_blt, e_isi, k_nil, k_cons, bl_nil, bl_cons, a_nil, a_cons, o_nil, o_var, o_lit, intO_i, av_dat, av_fre, av_own, av_var, av_lit, av_glb, av_bin, av_idx, av_lst, av_tup, av_cal, av_blt, av_lend, i_seq, i_rng, sl_0, sl_s, lks_nil, s_par, pn_nil, pn_f, pn_t, st_nil, st_cons, s_app2, ow_0, ow_s, cm_eqi, cm_nei, cm_nes, cm_eqs, cm_neb, rv_dat, rv_fre, lk_0, lk_1, lk_2, i3_0, i3_1, i3_2, t3_1, t3_2, ka_dat, ka_fre, ka_own, tn_fre, tg_nm, bi_add, bi_sub, cm_lt, cm_le, cm_gt, cm_ge, cm_is, bt_len, bt_lenT, bt_int, bt_list, bt_tuple, bt_min, List.set_cons_zero, List.set_cons_succ, cond_true, cond_false, tg_2, tn_own, pn_o, t2_0, t2_1, av_neg, av_nt, av_cmp, av_ife, av_sli, av_lc, av_dct, av_bop, o_bin, o_neg, lk_0a, lk_1a, lk_2a, tn_fd, tn_ff, tn_fo, tn_fn, pn_ff, pn_fo, h1', cn, il, bi_mul k1, g', ap, Int.reduceNeg]
theorem short_sem {ms : List Md} (g : ∀ m ∈ ms, GoodM m) (hs : size ms ≤ M40) (hl : ms.length ≤ 2000) : c19.sem [.dat (ax ms)] = some (.ret (.fre ((short ms).map md)) []) := by
  obtain ⟨z1, z2, e⟩ := short_loop (G := ⟨cs19, con, exc, sub⟩) (v := some (.dat (ax ms))) ms [] none none ⟨(fun _ h => nomatch h), g, by rw [size, Int.one_mul]; exact hs, by simp; omega⟩
  show outOf 0 ((den ⟨cs19, con, exc, sub⟩ ir_short_axis).s [some (.dat (ax ms)), none, none, none] []) = _
  unfold ir_short_axis
  simp only [b_ok, b_exc, st_ok, st_exc, sq_nx, sq_rt, sq_bk, sq_ct, sq_exc, of_some, nox_ok, lk_dat, lk_fre, kp_dat, kp_fre, asB_b, asI_i, dB_, tR, s_nil, s_cons, s_pass, s_ret, s_xpr, s_set, s_setO, s_unp, s_sti, s_ifs, s_fo, s_rai, e_var, e_lit, e_dct, e_glb, e_bin, e_neg, e_nt, e_cmp, e_chn, e_bop, c_one, c_and, c_or, e_ife, e_tup, e_lst, e_idx, e_sli, e_blt, e_isi, k_nil, k_cons, bl_nil, bl_cons, a_nil, a_cons, o_nil, o_var, o_lit, intO_i, av_dat, av_fre, av_own, av_var, av_lit, av_glb, av_bin, av_idx, av_lst, av_tup, av_cal, av_blt, av_lend, i_seq, i_rng, sl_0, sl_s, lks_nil, s_par, pn_nil, pn_f, pn_t, st_nil, st_cons, s_app2, ow_0, ow_s, cm_eqi, cm_nei, cm_nes, cm_eqs, cm_neb, rv_dat, rv_fre, lk_0, lk_1, lk_2, i3_0, i3_1, i3_2, t3_1, t3_2, ka_dat, ka_fre, ka_own, tn_fre, tg_nm, bi_add, bi_sub, cm_lt, cm_le, cm_gt, cm_ge, cm_is, bt_len, bt_lenT, bt_int, bt_list, bt_tuple, bt_min, List.set_cons_zero, List.set_cons_succ, cond_true, cond_false, tg_2, tn_own, pn_o, t2_0, t2_1, av_neg, av_nt, av_cmp, av_ife, av_sli, av_lc, av_dct, av_bop, o_bin, o_neg, lk_0a, lk_1a, lk_2a, tn_fd, tn_ff, tn_fo, tn_fn, pn_ff, pn_fo, List.length_nil, List.nil_append, itemsD]
  rw [show ([⟨CS.live, []⟩] : List Cell) = [⟨.live, ([] : List Md).map md⟩] from rfl]
  rw [show forR _ _ _ _ _ = _ from e]
  simp only [b_ok, b_exc, st_ok, st_exc, sq_nx, sq_rt, sq_bk, sq_ct, sq_exc, of_some, nox_ok, lk_dat, lk_fre, kp_dat, kp_fre, asB_b, asI_i, dB_, tR, s_nil, s_cons, s_pass, s_ret, s_xpr, s_set, s_setO, s_unp, s_sti, s_ifs, s_fo, s_rai, e_var, e_lit, e_dct, e_glb, e_bin, e_neg, e_nt, e_cmp, e_chn, e_bop, c_one, c_and, c_or, e_ife, e_tup, e_lst, e_idx, e_sli, e_blt, e_isi, k_nil, k_cons, bl_nil, bl_cons, a_nil, a_cons, o_nil, o_var, o_lit, intO_i, av_dat, av_fre, av_own, av_var, av_lit, av_glb, av_bin, av_idx, av_lst, av_tup, av_cal, av_blt, av_lend, i_seq, i_rng, sl_0, sl_s, lks_nil, s_par, pn_nil, pn_f, pn_t, st_nil, st_cons, s_app2, ow_0, ow_s, cm_eqi, cm_nei, cm_nes, cm_eqs, cm_neb, rv_dat, rv_fre, lk_0, lk_1, lk_2, i3_0, i3_1, i3_2, t3_1, t3_2, ka_dat, ka_fre, ka_own, tn_fre, tg_nm, bi_add, bi_sub, cm_lt, cm_le, cm_gt, cm_ge, cm_is, bt_len, bt_lenT, bt_int, bt_list, bt_tuple, bt_min, List.set_cons_zero, List.set_cons_succ, cond_true, cond_false, tg_2, tn_own, pn_o, t2_0, t2_1, av_neg, av_nt, av_cmp, av_ife, av_sli, av_lc, av_dct, av_bop, o_bin, o_neg, lk_0a, lk_1a, lk_2a, tn_fd, tn_ff, tn_fo, tn_fn, pn_ff, pn_fo]
  rfl
theorem call_short {ms : List Md} (g : ∀ m ∈ ms, GoodM m) (hs : size ms ≤ M40) (hl : ms.length ≤ 2000) {μ : List Cell} : callR c19 [.dat (ax ms)] μ = .ok (.fre ((short ms).map md)) μ := call_dat (r := .fre ((short ms).map md)) rfl rfl rfl (short_sem g hs hl) (.inr rfl)
end K04

set_option maxHeartbeats 1000000
namespace K04
open DL
open PySem PySem.Spec PyProof.Rows L2
/-! ### the shortest form, by the law's own steps -/
theorem shortA_app : ∀ (a acc b : List Md), shortA acc (a ++ b) = shortA (shortA acc a) b
  | [], acc, b => rfl
  | m :: a, acc, b => shortA_app a (push acc m) b
theorem short_id : ∀ {b a : List Md}, Short (a ++ b) → shortA a b = a ++ b
  | [], a, _ => by rw [List.append_nil]; rfl
  | m :: b, a, h => by
    have h2 : 2 ≤ m.1 := by
      have := h.pos.right
      have q : ∀ {a b : List Md} {m : Md}, Short (a ++ m :: b) → 2 ≤ m.1 := fun {a b m} h => by
        induction a with
        | nil => exact h.tl.1
        | cons n a ih => exact ih h.tl.2
      exact q h
    have ep : push a m = a ++ [m] := by
      rcases end_cases a with rfl | ⟨c, l, rfl⟩
      · exact push_nil (by omega)
      · refine push_add (by omega) ?_
        have q : ∀ {c b : List Md} {l m : Md}, Short (c ++ [l] ++ m :: b) → m.2 ≠ l.1 * l.2 := fun {c b l m} h => by
          induction c with
          | nil => exact h.2.1
          | cons n c ih => exact ih h.tl.2
        exact q h
    show shortA (push a m) b = _
    rw [ep, short_id (b := b) (a := a ++ [m]) (by simpa using h)]
    simp
theorem short_pre {a b : List Md} (h : Short a) : short (a ++ b) = shortA a b := by
  show shortA [] (a ++ b) = _
  rw [shortA_app, show shortA [] a = a from by simpa using short_id (a := []) (b := a) (by simpa using h)]
theorem short_filter : ∀ (ms acc : List Md), shortA acc (ms.filter fun m => !decide (m.1 = 1)) = shortA acc ms
  | [], acc => rfl
  | m :: ms, acc => by
    by_cases h : m.1 = 1
    · rw [List.filter_cons_of_neg (by simp [h]), short_filter ms acc]
      show _ = shortA (push acc m) ms
      rw [push_one h]
    · rw [List.filter_cons_of_pos (by simp [h])]
      exact short_filter ms (push acc m)
theorem size_filter : ∀ ms : List Md, size (ms.filter fun m => !decide (m.1 = 1)) = size ms
  | [] => rfl
  | m :: ms => by
    by_cases h : m.1 = 1
    · rw [List.filter_cons_of_neg (by simp [h]), size_filter ms, size, h, Int.one_mul]
    · rw [List.filter_cons_of_pos (by simp [h]), size, size, size_filter ms]
abbrev irWC : IR := .cmp .Lt (.bin .Add (.var 2) (.lit (.int 1))) (.blt .len (.cons (.var 1) (.nil)))
abbrev irWB : IR := .cons (.par [(4, false), (5, false)] (.cons (.idx (.var 1) (.var 2)) (.cons (.idx (.var 1) (.bin .Add (.var 2) (.lit (.int 1)))) (.nil)))) (.cons (.ifs (.cmp .Eq (.idx (.var 5) (.lit (.int 1))) (.bin .Mult (.idx (.var 4) (.lit (.int 0))) (.idx (.var 4) (.lit (.int 1))))) (.cons (.set 1 (.bin .Add (.bin .Add (.sli (.var 1) (.nil) (.var 2)) (.lst (.cons (.tup (.cons (.bin .Mult (.idx (.var 4) (.lit (.int 0))) (.idx (.var 5) (.lit (.int 0)))) (.cons (.idx (.var 4) (.lit (.int 1))) (.nil)))) (.nil)))) (.sli (.var 1) (.bin .Add (.var 2) (.lit (.int 2))) (.nil)))) (.cons (.set 2 (.lit (.int 0))) (.nil))) (.cons (.set 2 (.bin .Add (.var 2) (.lit (.int 1)))) (.nil))) (.nil))
/-- on the way -/
structure Lw (f : List Md) (k : Nat) : Prop where
  good : ∀ m ∈ f, GoodM m
  two : ∀ m ∈ f, 2 ≤ m.1
  sz : size f ≤ M40
  len : f.length ≤ 2000
  sh : Short (f.take (k + 1))
theorem drop_pre2 {α : Type} : ∀ (a : List α) (x y : α) (b : List α), (a ++ x :: y :: b).drop (a.length + 2) = b
  | [], _, _, _ => rfl
  | _ :: a, x, y, b => drop_pre2 a x y b
theorem lw_loop {G : Ge} {v z3 : Option SV} : ∀ (f : List Md) (k : Nat) (z4 z5 : Option SV), Lw f k →
    ∃ (k' : Nat) (z4' z5' : Option SV), whileR (testR (den G irWC).e) (den G irWB).s [v, some (.dat (ax f)), some (.dat (.int k)), z3, z4, z5] [] = .nx [v, some (.dat (ax (short f))), some (.dat (.int k')), z3, z4', z5'] []
  | f, k, z4, z5, w => by
    by_cases hk : k + 1 < f.length
    · obtain ⟨pre, l, rest, hf, hpl⟩ : ∃ pre l rest, f = pre ++ l :: rest ∧ pre.length = k := by
        refine ⟨f.take k, f[k], f.drop (k + 1), ?_, by rw [List.length_take]; omega⟩
        rw [← List.drop_eq_getElem_cons (by omega), List.take_append_drop]
      obtain ⟨m, post, hr⟩ : ∃ m post, rest = m :: post := by
        cases rest with
        | nil => rw [hf] at hk; simp at hk; omega
        | cons m post => exact ⟨m, post, rfl⟩
      subst hr
      have hw := w.len
      have gl := w.good l (by rw [hf]; simp)
      have gm := w.good m (by rw [hf]; simp)
      have m2 := w.two m (by rw [hf]; simp)
      have l2 := w.two l (by rw [hf]; simp)
      have hfl : f.length = pre.length + (post.length + 2) := by rw [hf]; simp
      have sh : Short (pre ++ [l]) := by
        have := w.sh
        rw [hf, ← hpl] at this
        have e : (pre ++ l :: m :: post).take (pre.length + 1) = pre ++ [l] := by
          rw [show pre ++ l :: m :: post = (pre ++ [l]) ++ (m :: post) from by simp, show pre.length + 1 = (pre ++ [l]).length from by simp, List.take_left']
          rfl
        rwa [e] at this
      have ct : testR (den G irWC).e [v, some (.dat (ax f)), some (.dat (.int k)), z3, z4, z5] [] = .ok true [] := by
        have h1 : decide (((k : Nat) : Int) + 1 < ((f.map md).length : Int)) = true := decide_eq_true (by rw [List.length_map]; omega)
        simp only [b_ok, b_exc, st_ok, st_exc, sq_nx, sq_rt, sq_bk, sq_ct, sq_exc, of_some, nox_ok, lk_dat, lk_fre, kp_dat, kp_fre, asB_b, asI_i, dB_, tR, s_nil, s_cons, s_pass, s_ret, s_xpr, s_set, s_setO, s_unp, s_sti, s_ifs, s_fo, s_rai, e_var, e_lit, e_dct, e_glb, e_bin, e_neg, e_nt, e_cmp, e_chn, e_bop, c_one, c_and, c_or, e_ife, e_tup, e_lst, e_idx, e_sli, e_blt, e_isi, k_nil, k_cons, bl_nil, bl_cons, a_nil, a_cons, o_nil, o_var, o_lit, intO_i, av_dat, av_fre, av_own, av_var, av_lit, av_glb, av_bin, av_idx, av_lst, av_tup, av_cal, av_blt, av_lend, i_seq, i_rng, sl_0, sl_s, lks_nil, s_par, pn_nil, pn_f, pn_t, st_nil, st_cons, s_app2, ow_0, ow_s, cm_eqi, cm_nei, cm_nes, cm_eqs, cm_neb, rv_dat, rv_fre, lk_0, lk_1, lk_2, i3_0, i3_1, i3_2, t3_1, t3_2, ka_dat, ka_fre, ka_own, tn_fre, tg_nm, bi_add, bi_sub, cm_lt, cm_le, cm_gt, cm_ge, cm_is, bt_len, bt_lenT, bt_int, bt_list, bt_tuple, bt_min, List.set_cons_zero, List.set_cons_succ, cond_true, cond_false, tg_2, tn_own, pn_o, t2_0, t2_1, av_neg, av_nt, av_cmp, av_ife, av_sli, av_lc, av_dct, av_bop, o_bin, o_neg, lk_0a, lk_1a, lk_2a, tn_fd, tn_ff, tn_fo, tn_fn, pn_ff, pn_fo, lks_dat lks_nil, h1]
      have i1 : idxD (ax f) (.int (k : Nat)) = some (.tuple [.int l.1, .int l.2]) := by
        show atI (f.map md) (k : Nat) = _
        unfold atI
        rw [DL.ix_nn (by omega) (by rw [List.length_map]; omega)]
        show (f.map md)[((k : Nat) : Int).toNat]? = _
        rw [hf, Int.toNat_natCast, ← hpl]
        simp
      have i2 : idxD (ax f) (.int ((k : Nat) + 1)) = some (.tuple [.int m.1, .int m.2]) := by
        show atI (f.map md) ((k : Nat) + 1) = _
        unfold atI
        rw [DL.ix_nn (by omega) (by rw [List.length_map]; omega)]
        show (f.map md)[(((k : Nat) : Int) + 1).toNat]? = _
        rw [hf, show (((k : Nat) : Int) + 1).toNat = pre.length + 1 from by omega, show pre ++ l :: m :: post = (pre ++ [l]) ++ m :: post from by simp, List.map_append, List.getElem?_append_right (by simp)]
        simp
      have k1 : okMul l.1 l.2 = true := okMul_of gl.a1 gl.a2 (by decide) (by decide) (by decide)
      have k2 : okMul l.1 m.1 = true := okMul_of gl.a1 gm.a1 (by decide) (by decide) (by decide)
      by_cases g : m.2 = l.1 * l.2
      · have g' : decide (m.2 = l.1 * l.2) = true := decide_eq_true g
        have c1 : cutD (ax f) none (some (k : Nat)) = some (.fre (pre.map md)) := by
          rw [show ax f = PyData.list (f.map md) from rfl, cut_hi (by omega) (by rw [List.length_map]; omega), hf, Int.toNat_natCast, ← hpl]
          simp
        have c2 : cutD (ax f) (some ((k : Nat) + 2)) none = some (.fre (post.map md)) := by
          rw [show ax f = PyData.list (f.map md) from rfl, cut_lo (by omega) (by rw [List.length_map]; omega), hf, show (((k : Nat) : Int) + 2).toNat = pre.length + 2 from by omega, List.map_append, List.map_cons, List.map_cons, show pre.length = (pre.map md).length from by simp, drop_pre2]
        have s1 : bin2 .Add (.list (pre.map md)) (.list [.tuple [.int (l.1 * m.1), .int l.2]]) = some (.fre (pre.map md ++ [.tuple [.int (l.1 * m.1), .int l.2]])) := bi_cat (size7 (by simp; omega))
        have s2 : bin2 .Add (.list (pre.map md ++ [.tuple [.int (l.1 * m.1), .int l.2]])) (.list (post.map md)) = some (.fre (pre.map md ++ [.tuple [.int (l.1 * m.1), .int l.2]] ++ post.map md)) := bi_cat (size7 (by simp; omega))
        have s3 : pre.map md ++ [.tuple [.int (l.1 * m.1), .int l.2]] ++ post.map md = (pre ++ (l.1 * m.1, l.2) :: post).map md := by simp
        rw [s3] at s2
        have body : (den G irWB).s [v, some (.dat (ax f)), some (.dat (.int k)), z3, z4, z5] [] = .nx [v, some (.dat (ax (pre ++ (l.1 * m.1, l.2) :: post))), some (.dat (.int (0 : Nat))), z3, some (.dat (.tuple [.int l.1, .int l.2])), some (.dat (.tuple [.int m.1, .int m.2]))] [] := by
          simp only [b_ok, b_exc, st_ok, st_exc, sq_nx, sq_rt, sq_bk, sq_ct, sq_exc, of_some, nox_ok, lk_dat, lk_fre, kp_dat, kp_fre, asB_b, asI_i, dB_, tR, s_nil, s_cons, s_pass, s_ret, s_xpr, s_set, s_setO, s_unp, s_sti, s_ifs, s_fo, s_rai, e_var, e_lit, e_dct, e_glb, e_bin, e_neg, e_nt, e_cmp, e_chn, e_bop, c_one, c_and, c_or, e_ife, e_tup, e_lst, e_idx, e_sli, e_blt, e_isi, k_nil, k_cons, bl_nil, bl_cons, a_nil, a_cons, o_nil, o_var, o_lit, intO_i, av_dat, av_fre, av_own, av_var, av_lit, av_glb, av_bin, av_idx, av_lst, av_tup, av_cal, av_blt, av_lend, i_seq, i_rng, sl_0, sl_s, lks_nil, s_par, pn_nil, pn_f, pn_t, st_nil, st_cons, s_app2, ow_0, ow_s, cm_eqi, cm_nei, cm_nes, cm_eqs, cm_neb, rv_dat, rv_fre, lk_0, lk_1, lk_2, i3_0, i3_1, i3_2, t3_1, t3_2, ka_dat, ka_fre, ka_own, tn_fre, tg_nm, bi_add, bi_sub, cm_lt, cm_le, cm_gt, cm_ge, cm_is, bt_len, bt_lenT, bt_int, bt_list, bt_tuple, bt_min, List.set_cons_zero, List.set_cons_succ, cond_true, cond_false, tg_2, tn_own, pn_o, t2_0, t2_1, av_neg, av_nt, av_cmp, av_ife, av_sli, av_lc, av_dct, av_bop, o_bin, o_neg, lk_0a, lk_1a, lk_2a, tn_fd, tn_ff, tn_fo, tn_fn, pn_ff, pn_fo, i1, i2, List.map_cons, List.map_nil, bi_mul k1, g', bi_mul k2, c1, c2, s1, s2]
          rfl
        have psz : size (pre ++ (l.1 * m.1, l.2) :: post) = size f := by
          rw [hf]
          simp [size_app, size, Int.mul_assoc]
        have lm : 2 ≤ l.1 * m.1 := by
          have := Int.mul_le_mul l2 (show 1 ≤ m.1 by omega) (by decide) (by omega)
          omega
        have pf : Pos f := fun x hx => (w.good x hx).s0
        have ppre : Pos pre := fun x hx => pf x (by rw [hf]; simp [hx])
        have ppost : Pos post := fun x hx => pf x (by rw [hf]; simp [hx])
        have lM : l.1 * m.1 ≤ M40 := by
          have h1 := w.sz
          rw [← psz, size_app, size] at h1
          have q1 := size_pos ppre
          have q2 := size_pos ppost
          have q3 := Int.mul_le_mul (Int.le_refl (l.1 * m.1)) q2 (by decide) (by omega)
          have q4 := Int.mul_le_mul q1 (Int.le_refl (l.1 * m.1 * size post)) (by omega) (by omega)
          simp only at h1
          omega
        have gn : ∀ x ∈ pre ++ (l.1 * m.1, l.2) :: post, GoodM x ∧ 2 ≤ x.1 := fun x hx => by
          rcases List.mem_append.mp hx with q | q
          · exact ⟨w.good x (by rw [hf]; simp [q]), w.two x (by rw [hf]; simp [q])⟩
          · rcases List.mem_cons.mp q with rfl | q
            · exact ⟨⟨by show 1 ≤ l.1 * m.1; omega, lM, gl.t0, gl.t1⟩, lm⟩
            · exact ⟨w.good x (by rw [hf]; simp [q]), w.two x (by rw [hf]; simp [q])⟩
        have nl : (pre ++ (l.1 * m.1, l.2) :: post).length < f.length := by rw [hfl]; simp
        have w' : Lw (pre ++ (l.1 * m.1, l.2) :: post) 0 := ⟨fun x hx => (gn x hx).1, fun x hx => (gn x hx).2, by rw [psz]; exact w.sz, by omega, by
          cases pre with
          | nil => exact lm
          | cons a pre => exact (gn a (by simp)).2⟩
        obtain ⟨k', y4, y5, e⟩ := lw_loop (G := G) (v := v) (z3 := z3) (pre ++ (l.1 * m.1, l.2) :: post) 0 (some (.dat (.tuple [.int l.1, .int l.2]))) (some (.dat (.tuple [.int m.1, .int m.2]))) w'
        have es : short (pre ++ (l.1 * m.1, l.2) :: post) = short f := by
          rw [hf, show pre ++ (l.1 * m.1, l.2) :: post = (pre ++ [(l.1 * m.1, l.2)]) ++ post from by simp, show pre ++ l :: m :: post = (pre ++ [l]) ++ (m :: post) from by simp, short_pre sh, short_pre (sh.mrg m2)]
          show _ = shortA (push (pre ++ [l]) m) post
          rw [push_mrg (by omega) g]
        rw [es] at e
        exact ⟨k', y4, y5, while_go ct body e (fun z => nomatch z)⟩
      · have g' : decide (m.2 = l.1 * l.2) = false := decide_eq_false g
        have body : (den G irWB).s [v, some (.dat (ax f)), some (.dat (.int k)), z3, z4, z5] [] = .nx [v, some (.dat (ax f)), some (.dat (.int ((k + 1 : Nat) : Int))), z3, some (.dat (.tuple [.int l.1, .int l.2])), some (.dat (.tuple [.int m.1, .int m.2]))] [] := by
          simp only [b_ok, b_exc, st_ok, st_exc, sq_nx, sq_rt, sq_bk, sq_ct, sq_exc, of_some, nox_ok, lk_dat, lk_fre, kp_dat, kp_fre, asB_b, asI_i, dB_, tR, s_nil, s_cons, s_pass, s_ret, s_xpr, s_set, s_setO, s_unp, s_sti, s_ifs, s_fo, s_rai, e_var, e_lit, e_dct, e_glb, e_bin, e_neg, e_nt, e_cmp, e_chn, e_bop, c_one, c_and, c_or, e_ife, e_tup, e_lst, e_idx, e_sli, e_blt, e_isi, k_nil, k_cons, bl_nil, bl_cons, a_nil, a_cons, o_nil, o_var, o_lit, intO_i, av_dat, av_fre, av_own, av_var, av_lit, av_glb, av_bin, av_idx, av_lst, av_tup, av_cal, av_blt, av_lend, i_seq, i_rng, sl_0, sl_s, lks_nil, s_par, pn_nil, pn_f, pn_t, st_nil, st_cons, s_app2, ow_0, ow_s, cm_eqi, cm_nei, cm_nes, cm_eqs, cm_neb, rv_dat, rv_fre, lk_0, lk_1, lk_2, i3_0, i3_1, i3_2, t3_1, t3_2, ka_dat, ka_fre, ka_own, tn_fre, tg_nm, bi_add, bi_sub, cm_lt, cm_le, cm_gt, cm_ge, cm_is, bt_len, bt_lenT, bt_int, bt_list, bt_tuple, bt_min, List.set_cons_zero, List.set_cons_succ, cond_true, cond_false, tg_2, tn_own, pn_o, t2_0, t2_1, av_neg, av_nt, av_cmp, av_ife, av_sli, av_lc, av_dct, av_bop, o_bin, o_neg, lk_0a, lk_1a, lk_2a, tn_fd, tn_ff, tn_fo, tn_fn, pn_ff, pn_fo, i1, i2, List.map_cons, List.map_nil, bi_mul k1, g']
          rfl
        have w' : Lw f (k + 1) := ⟨w.good, w.two, w.sz, w.len, by
          have e : f.take (k + 1 + 1) = pre ++ [l] ++ [m] := by
            rw [hf, show pre ++ l :: m :: post = (pre ++ [l] ++ [m]) ++ post from by simp, show k + 1 + 1 = (pre ++ [l] ++ [m]).length from by simp; omega, List.take_left']
            rfl
          rw [e]
          exact sh.snoc m2 g⟩
        obtain ⟨k', y4, y5, e⟩ := lw_loop (G := G) (v := v) (z3 := z3) f (k + 1) (some (.dat (.tuple [.int l.1, .int l.2]))) (some (.dat (.tuple [.int m.1, .int m.2]))) w'
        exact ⟨k', y4, y5, while_go ct body e (fun z => nomatch z)⟩
    · have cf : testR (den G irWC).e [v, some (.dat (ax f)), some (.dat (.int k)), z3, z4, z5] [] = .ok false [] := by
        have h1 : decide (((k : Nat) : Int) + 1 < ((f.map md).length : Int)) = false := decide_eq_false (by rw [List.length_map]; omega)
        simp only [b_ok, b_exc, st_ok, st_exc, sq_nx, sq_rt, sq_bk, sq_ct, sq_exc, of_some, nox_ok, lk_dat, lk_fre, kp_dat, kp_fre, asB_b, asI_i, dB_, tR, s_nil, s_cons, s_pass, s_ret, s_xpr, s_set, s_setO, s_unp, s_sti, s_ifs, s_fo, s_rai, e_var, e_lit, e_dct, e_glb, e_bin, e_neg, e_nt, e_cmp, e_chn, e_bop, c_one, c_and, c_or, e_ife, e_tup, e_lst, e_idx, e_sli, e_blt, e_isi, k_nil, k_cons, bl_nil, bl_cons, a_nil, a_cons, o_nil, o_var, o_lit, intO_i, av_dat, av_fre, av_own, av_var, av_lit, av_glb, av_bin, av_idx, av_lst, av_tup, av_cal, av_blt, av_lend, i_seq, i_rng, sl_0, sl_s, lks_nil, s_par, pn_nil, pn_f, pn_t, st_nil, st_cons, s_app2, ow_0, ow_s, cm_eqi, cm_nei, cm_nes, cm_eqs, cm_neb, rv_dat, rv_fre, lk_0, lk_1, lk_2, i3_0, i3_1, i3_2, t3_1, t3_2, ka_dat, ka_fre, ka_own, tn_fre, tg_nm, bi_add, bi_sub, cm_lt, cm_le, cm_gt, cm_ge, cm_is, bt_len, bt_lenT, bt_int, bt_list, bt_tuple, bt_min, List.set_cons_zero, List.set_cons_succ, cond_true, cond_false, tg_2, tn_own, pn_o, t2_0, t2_1, av_neg, av_nt, av_cmp, av_ife, av_sli, av_lc, av_dct, av_bop, o_bin, o_neg, lk_0a, lk_1a, lk_2a, tn_fd, tn_ff, tn_fo, tn_fn, pn_ff, pn_fo, lks_dat lks_nil, h1]
      have sh := w.sh
      rw [List.take_of_length_le (by omega)] at sh
      refine ⟨k, z4, z5, ?_⟩
      have hid : shortA [] f = f := by simpa using short_id (a := []) (b := f) (by simpa using sh)
      rw [show short f = f from hid]
      exact while_end cf
termination_by f k => (f.length, f.length - k)
decreasing_by
  · exact Prod.Lex.left _ _ nl
  · exact Prod.Lex.right _ (by omega)
theorem lshort_sem {ms : List Md} (g : ∀ m ∈ ms, GoodM m) (hs : size ms ≤ M40) (hl : ms.length ≤ 2000) : c23.sem [.dat (ax ms)] = some (.ret (.dat (ax (short ms))) []) := by
  show outOf 0 ((den ⟨cs23, con, exc, sub⟩ ir__law_short).s [some (.dat (ax ms)), none, none, none, none, none] []) = _
  have efm : ((ms.map md).filter fun d => match d with
      | .tuple [.int a, _] => !decide (a = 1)
      | _ => false) = (ms.filter fun m => !decide (m.1 = 1)).map md := by
    rw [List.filter_map]
    rfl
  have lc : (den ⟨cs23, con, exc, sub⟩ (.lc [("_law_mode", 3)] (.nm 3) (.iSeq (.var 0)) (.cmp .NotEq (.idx (.var 3) (.lit (.int 0))) (.lit (.int 1))) (.var 3))).e [some (.dat (ax ms)), none, none, none, none, none] [] = .ok (.fre ((ms.filter fun m => !decide (m.1 = 1)).map md)) [] := by
    rw [← efm, show ((ms.map md).filter fun d => match d with
      | .tuple [.int a, _] => !decide (a = 1)
      | _ => false) = ((ms.map md).filter fun d => match d with
      | .tuple [.int a, _] => !decide (a = 1)
      | _ => false).map id from (List.map_id _).symm]
    refine lc_okT (ds := ms.map md) (by simp) (by simp only [b_ok, b_exc, st_ok, st_exc, sq_nx, sq_rt, sq_bk, sq_ct, sq_exc, of_some, nox_ok, lk_dat, lk_fre, kp_dat, kp_fre, asB_b, asI_i, dB_, tR, s_nil, s_cons, s_pass, s_ret, s_xpr, s_set, s_setO, s_unp, s_sti, s_ifs, s_fo, s_rai, e_var, e_lit, e_dct, e_glb, e_bin, e_neg, e_nt, e_cmp, e_chn, e_bop, c_one, c_and, c_or, e_ife, e_tup, e_lst, e_idx, e_sli, e_blt, e_isi, k_nil, k_cons, bl_nil, bl_cons, a_nil, a_cons, o_nil, o_var, o_lit, intO_i, av_dat, av_fre, av_own, av_var, av_lit, av_glb, av_bin, av_idx, av_lst, av_tup, av_cal, av_blt, av_lend, i_seq, i_rng, sl_0, sl_s, lks_nil, s_par, pn_nil, pn_f, pn_t, st_nil, st_cons, s_app2, ow_0, ow_s, cm_eqi, cm_nei, cm_nes, cm_eqs, cm_neb, rv_dat, rv_fre, lk_0, lk_1, lk_2, i3_0, i3_1, i3_2, t3_1, t3_2, ka_dat, ka_fre, ka_own, tn_fre, tg_nm, bi_add, bi_sub, cm_lt, cm_le, cm_gt, cm_ge, cm_is, bt_len, bt_lenT, bt_int, bt_list, bt_tuple, bt_min, List.set_cons_zero, List.set_cons_succ, cond_true, cond_false, tg_2, tn_own, pn_o, t2_0, t2_1, av_neg, av_nt, av_cmp, av_ife, av_sli, av_lc, av_dct, av_bop, o_bin, o_neg, lk_0a, lk_1a, lk_2a, tn_fd, tn_ff, tn_fo, tn_fn, pn_ff, pn_fo, itemsD]) (lcR_filt (f := id) fun d hd => ?_) (by rw [List.length_map]; omega)
    obtain ⟨m, _, rfl⟩ := List.mem_map.mp hd
    exact ⟨[some (.dat (ax ms)), none, none, some (.dat (md m)), none, none], rfl, by simp only [b_ok, b_exc, st_ok, st_exc, sq_nx, sq_rt, sq_bk, sq_ct, sq_exc, of_some, nox_ok, lk_dat, lk_fre, kp_dat, kp_fre, asB_b, asI_i, dB_, tR, s_nil, s_cons, s_pass, s_ret, s_xpr, s_set, s_setO, s_unp, s_sti, s_ifs, s_fo, s_rai, e_var, e_lit, e_dct, e_glb, e_bin, e_neg, e_nt, e_cmp, e_chn, e_bop, c_one, c_and, c_or, e_ife, e_tup, e_lst, e_idx, e_sli, e_blt, e_isi, k_nil, k_cons, bl_nil, bl_cons, a_nil, a_cons, o_nil, o_var, o_lit, intO_i, av_dat, av_fre, av_own, av_var, av_lit, av_glb, av_bin, av_idx, av_lst, av_tup, av_cal, av_blt, av_lend, i_seq, i_rng, sl_0, sl_s, lks_nil, s_par, pn_nil, pn_f, pn_t, st_nil, st_cons, s_app2, ow_0, ow_s, cm_eqi, cm_nei, cm_nes, cm_eqs, cm_neb, rv_dat, rv_fre, lk_0, lk_1, lk_2, i3_0, i3_1, i3_2, t3_1, t3_2, ka_dat, ka_fre, ka_own, tn_fre, tg_nm, bi_add, bi_sub, cm_lt, cm_le, cm_gt, cm_ge, cm_is, bt_len, bt_lenT, bt_int, bt_list, bt_tuple, bt_min, List.set_cons_zero, List.set_cons_succ, cond_true, cond_false, tg_2, tn_own, pn_o, t2_0, t2_1, av_neg, av_nt, av_cmp, av_ife, av_sli, av_lc, av_dct, av_bop, o_bin, o_neg, lk_0a, lk_1a, lk_2a, tn_fd, tn_ff, tn_fo, tn_fn, pn_ff, pn_fo], fun _ => te_ok (v := .dat (md m)) rfl rfl⟩
  have gf : ∀ m ∈ ms.filter (fun m => !decide (m.1 = 1)), GoodM m ∧ 2 ≤ m.1 := fun m hm => by
    obtain ⟨h1, h2⟩ := List.mem_filter.mp hm
    have h3 := (g m h1).s0
    have h4 : m.1 ≠ 1 := by simpa using h2
    exact ⟨g m h1, by omega⟩
  have hfl : (ms.filter fun m => !decide (m.1 = 1)).length ≤ 2000 := Nat.le_trans (List.length_filter_le _ _) hl
  have w0 : Lw (ms.filter fun m => !decide (m.1 = 1)) 0 := ⟨fun m hm => (gf m hm).1, fun m hm => (gf m hm).2, by rw [size_filter]; exact hs, hfl, by
    cases h : ms.filter fun m => !decide (m.1 = 1) with
    | nil => trivial
    | cons a r => exact (gf a (by rw [h]; simp)).2⟩
  obtain ⟨k', y4, y5, e⟩ := lw_loop (G := ⟨cs23, con, exc, sub⟩) (v := some (.dat (ax ms))) (z3 := none) _ 0 none none w0
  rw [show short (ms.filter fun m => !decide (m.1 = 1)) = short ms from short_filter ms []] at e
  unfold ir__law_short
  simp only [b_ok, b_exc, st_ok, st_exc, sq_nx, sq_rt, sq_bk, sq_ct, sq_exc, of_some, nox_ok, lk_dat, lk_fre, kp_dat, kp_fre, asB_b, asI_i, dB_, tR, s_nil, s_cons, s_pass, s_ret, s_xpr, s_set, s_setO, s_unp, s_sti, s_ifs, s_fo, s_rai, e_var, e_lit, e_dct, e_glb, e_bin, e_neg, e_nt, e_cmp, e_chn, e_bop, c_one, c_and, c_or, e_ife, e_tup, e_lst, e_idx, e_sli, e_blt, e_isi, k_nil, k_cons, bl_nil, bl_cons, a_nil, a_cons, o_nil, o_var, o_lit, intO_i, av_dat, av_fre, av_own, av_var, av_lit, av_glb, av_bin, av_idx, av_lst, av_tup, av_cal, av_blt, av_lend, i_seq, i_rng, sl_0, sl_s, lks_nil, s_par, pn_nil, pn_f, pn_t, st_nil, st_cons, s_app2, ow_0, ow_s, cm_eqi, cm_nei, cm_nes, cm_eqs, cm_neb, rv_dat, rv_fre, lk_0, lk_1, lk_2, i3_0, i3_1, i3_2, t3_1, t3_2, ka_dat, ka_fre, ka_own, tn_fre, tg_nm, bi_add, bi_sub, cm_lt, cm_le, cm_gt, cm_ge, cm_is, bt_len, bt_lenT, bt_int, bt_list, bt_tuple, bt_min, List.set_cons_zero, List.set_cons_succ, cond_true, cond_false, tg_2, tn_own, pn_o, t2_0, t2_1, av_neg, av_nt, av_cmp, av_ife, av_sli, av_lc, av_dct, av_bop, o_bin, o_neg, lk_0a, lk_1a, lk_2a, tn_fd, tn_ff, tn_fo, tn_fn, pn_ff, pn_fo, lc]
  rw [s_whl, show whileR _ _ [_, _, some (SV.dat (PyData.int 0)), none, none, none] [] = _ from e]
  simp only [b_ok, b_exc, st_ok, st_exc, sq_nx, sq_rt, sq_bk, sq_ct, sq_exc, of_some, nox_ok, lk_dat, lk_fre, kp_dat, kp_fre, asB_b, asI_i, dB_, tR, s_nil, s_cons, s_pass, s_ret, s_xpr, s_set, s_setO, s_unp, s_sti, s_ifs, s_fo, s_rai, e_var, e_lit, e_dct, e_glb, e_bin, e_neg, e_nt, e_cmp, e_chn, e_bop, c_one, c_and, c_or, e_ife, e_tup, e_lst, e_idx, e_sli, e_blt, e_isi, k_nil, k_cons, bl_nil, bl_cons, a_nil, a_cons, o_nil, o_var, o_lit, intO_i, av_dat, av_fre, av_own, av_var, av_lit, av_glb, av_bin, av_idx, av_lst, av_tup, av_cal, av_blt, av_lend, i_seq, i_rng, sl_0, sl_s, lks_nil, s_par, pn_nil, pn_f, pn_t, st_nil, st_cons, s_app2, ow_0, ow_s, cm_eqi, cm_nei, cm_nes, cm_eqs, cm_neb, rv_dat, rv_fre, lk_0, lk_1, lk_2, i3_0, i3_1, i3_2, t3_1, t3_2, ka_dat, ka_fre, ka_own, tn_fre, tg_nm, bi_add, bi_sub, cm_lt, cm_le, cm_gt, cm_ge, cm_is, bt_len, bt_lenT, bt_int, bt_list, bt_tuple, bt_min, List.set_cons_zero, List.set_cons_succ, cond_true, cond_false, tg_2, tn_own, pn_o, t2_0, t2_1, av_neg, av_nt, av_cmp, av_ife, av_sli, av_lc, av_dct, av_bop, o_bin, o_neg, lk_0a, lk_1a, lk_2a, tn_fd, tn_ff, tn_fo, tn_fn, pn_ff, pn_fo]
  rfl
theorem call_lshort {ms : List Md} (g : ∀ m ∈ ms, GoodM m) (hs : size ms ≤ M40) (hl : ms.length ≤ 2000) {μ : List Cell} : callR c23 [.dat (ax ms)] μ = .ok (.dat (ax (short ms))) μ := call_dat (r := .dat (ax (short ms))) rfl rfl rfl (lshort_sem g hs hl) (.inr rfl)
theorem joined_sem {xs : List (List Md)} (v : Vld xs) : c20.sem [.dat (axs xs)] = some (.ret (.fre ((short xs.flatten).map md)) []) := by
  show outOf 0 ((den ⟨cs20, con, exc, sub⟩ ir_raw_joined).s [some (.dat (axs xs))] []) = _
  have g1 : (⟨cs20, con, exc, sub⟩ : Ge).ces[12]? = some c12 := rfl
  have g2 : (⟨cs20, con, exc, sub⟩ : Ge).ces[19]? = some c19 := rfl
  have hm := v.many
  unfold ir_raw_joined
  simp only [b_ok, b_exc, st_ok, st_exc, sq_nx, sq_rt, sq_bk, sq_ct, sq_exc, of_some, nox_ok, lk_dat, lk_fre, kp_dat, kp_fre, asB_b, asI_i, dB_, tR, s_nil, s_cons, s_pass, s_ret, s_xpr, s_set, s_setO, s_unp, s_sti, s_ifs, s_fo, s_rai, e_var, e_lit, e_dct, e_glb, e_bin, e_neg, e_nt, e_cmp, e_chn, e_bop, c_one, c_and, c_or, e_ife, e_tup, e_lst, e_idx, e_sli, e_blt, e_isi, k_nil, k_cons, bl_nil, bl_cons, a_nil, a_cons, o_nil, o_var, o_lit, intO_i, av_dat, av_fre, av_own, av_var, av_lit, av_glb, av_bin, av_idx, av_lst, av_tup, av_cal, av_blt, av_lend, i_seq, i_rng, sl_0, sl_s, lks_nil, s_par, pn_nil, pn_f, pn_t, st_nil, st_cons, s_app2, ow_0, ow_s, cm_eqi, cm_nei, cm_nes, cm_eqs, cm_neb, rv_dat, rv_fre, lk_0, lk_1, lk_2, i3_0, i3_1, i3_2, t3_1, t3_2, ka_dat, ka_fre, ka_own, tn_fre, tg_nm, bi_add, bi_sub, cm_lt, cm_le, cm_gt, cm_ge, cm_is, bt_len, bt_lenT, bt_int, bt_list, bt_tuple, bt_min, List.set_cons_zero, List.set_cons_succ, cond_true, cond_false, tg_2, tn_own, pn_o, t2_0, t2_1, av_neg, av_nt, av_cmp, av_ife, av_sli, av_lc, av_dct, av_bop, o_bin, o_neg, lk_0a, lk_1a, lk_2a, tn_fd, tn_ff, tn_fo, tn_fn, pn_ff, pn_fo, e_cal g1, e_cal g2, call_modes (show xs.flatten.length ≤ 10000 by omega), call_short v.good v.sz (show xs.flatten.length ≤ 2000 by omega)]
  rfl
theorem call_joined {xs : List (List Md)} (v : Vld xs) {μ : List Cell} : callR c20 [.dat (axs xs)] μ = .ok (.fre ((short xs.flatten).map md)) μ := call_dat (r := .fre ((short xs.flatten).map md)) rfl rfl rfl (joined_sem v) (.inr rfl)
/-! ### where two part -/
abbrev tgP : Tg := .cons (.cons (.nm 3) (.cons (.nm 4) (.nil))) (.cons (.cons (.nm 5) (.cons (.nm 6) (.nil))) (.nil))
abbrev irP : IR := .cons (.ifs (.cmp .NotEq (.var 4) (.var 6)) (.cons (.ret (.var 2)) (.nil)) (.nil)) (.cons (.ifs (.cmp .NotEq (.var 3) (.var 5)) (.cons (.ret (.bin .Mult (.var 2) (.blt .min2 (.cons (.var 3) (.cons (.var 5) (.nil)))))) (.nil)) (.nil)) (.cons (.set 2 (.bin .Mult (.var 2) (.var 3))) (.nil)))
theorem apartA_cons {m n : Md} {xs ys : List Md} {u : Int} : apartA (m :: xs) (n :: ys) u = if m.2 ≠ n.2 then some u else if m.1 ≠ n.1 then some (u * (if n.1 < m.1 then n.1 else m.1)) else apartA xs ys (u * m.1) := rfl
theorem apart_loop {G : Ge} {v w : Option SV} : ∀ (x y : List Md) (u : Int) (z3 z4 z5 z6 : Option SV), (∀ m ∈ x, GoodM m) → (∀ m ∈ y, GoodM m) → 1 ≤ u → u * size x ≤ M40 →
    (∃ r : Int, apartA x y u = some r ∧ forR tgP.f.one (den G irP).s (zipD (x.map md) (y.map md)) [v, w, some (.dat (.int u)), z3, z4, z5, z6] [] = .rt (.dat (.int r)) []) ∨
    ∃ (r : Int) (z3' z4' z5' z6' : Option SV), apartA x y u = (if x.length = y.length then none else some r) ∧ forR tgP.f.one (den G irP).s (zipD (x.map md) (y.map md)) [v, w, some (.dat (.int u)), z3, z4, z5, z6] [] = .nx [v, w, some (.dat (.int r)), z3', z4', z5', z6'] []
  | [], [], u, z3, z4, z5, z6, _, _, _, _ => .inr ⟨u, z3, z4, z5, z6, rfl, rfl⟩
  | [], n :: y, u, z3, z4, z5, z6, _, _, _, _ => .inr ⟨u, z3, z4, z5, z6, by simp [apartA], rfl⟩
  | m :: x, [], u, z3, z4, z5, z6, _, _, _, _ => .inr ⟨u, z3, z4, z5, z6, by simp [apartA], rfl⟩
  | m :: x, n :: y, u, z3, z4, z5, z6, hx, hy, hu, hs => by
    have gm := hx m (List.mem_cons_self ..)
    have gn := hy n (List.mem_cons_self ..)
    have hx' : ∀ a ∈ x, GoodM a := fun a ha => hx a (List.mem_cons_of_mem _ ha)
    have hy' : ∀ a ∈ y, GoodM a := fun a ha => hy a (List.mem_cons_of_mem _ ha)
    have m0 := gm.s0
    rw [size, ← Int.mul_assoc] at hs
    have p1 := size_pos (ms := x) fun a ha => (hx' a ha).s0
    have um : 1 ≤ u * m.1 := by
      have := Int.mul_le_mul hu m0 (by decide) (by omega)
      omega
    have b1 : u * m.1 ≤ M40 := by
      have := Int.mul_le_mul (Int.le_refl (u * m.1)) p1 (by decide) (by omega)
      omega
    have b2 : u ≤ M40 := by
      have := Int.mul_le_mul (Int.le_refl u) m0 (by decide) (by omega)
      omega
    have ub : u.natAbs < 2 ^ 133 := abs_lt (by omega) b2 (by decide)
    have tg : tgP.f.one (.tuple [md m, md n]) [v, w, some (.dat (.int u)), z3, z4, z5, z6] = some [v, w, some (.dat (.int u)), some (.dat (.int m.1)), some (.dat (.int m.2)), some (.dat (.int n.1)), some (.dat (.int n.2))] := rfl
    show (∃ r : Int, apartA (m :: x) (n :: y) u = some r ∧ forR tgP.f.one (den G irP).s (.tuple [md m, md n] :: zipD (x.map md) (y.map md)) _ [] = _) ∨ ∃ (r : Int) (z3' z4' z5' z6' : Option SV), _ ∧ forR tgP.f.one (den G irP).s (.tuple [md m, md n] :: zipD (x.map md) (y.map md)) _ [] = _
    by_cases h1 : m.2 = n.2
    · have h1' : decide (m.2 = n.2) = true := decide_eq_true h1
      by_cases h2 : m.1 = n.1
      · have h2' : decide (m.1 = n.1) = true := decide_eq_true h2
        have k : okMul u m.1 = true := okMul_of ub gm.a1 (by decide) (by decide) (by decide)
        have body : (den G irP).s [v, w, some (.dat (.int u)), some (.dat (.int m.1)), some (.dat (.int m.2)), some (.dat (.int n.1)), some (.dat (.int n.2))] [] = .nx [v, w, some (.dat (.int (u * m.1))), some (.dat (.int m.1)), some (.dat (.int m.2)), some (.dat (.int n.1)), some (.dat (.int n.2))] [] := by
          simp only [b_ok, b_exc, st_ok, st_exc, sq_nx, sq_rt, sq_bk, sq_ct, sq_exc, of_some, nox_ok, lk_dat, lk_fre, kp_dat, kp_fre, asB_b, asI_i, dB_, tR, s_nil, s_cons, s_pass, s_ret, s_xpr, s_set, s_setO, s_unp, s_sti, s_ifs, s_fo, s_rai, e_var, e_lit, e_dct, e_glb, e_bin, e_neg, e_nt, e_cmp, e_chn, e_bop, c_one, c_and, c_or, e_ife, e_tup, e_lst, e_idx, e_sli, e_blt, e_isi, k_nil, k_cons, bl_nil, bl_cons, a_nil, a_cons, o_nil, o_var, o_lit, intO_i, av_dat, av_fre, av_own, av_var, av_lit, av_glb, av_bin, av_idx, av_lst, av_tup, av_cal, av_blt, av_lend, i_seq, i_rng, sl_0, sl_s, lks_nil, s_par, pn_nil, pn_f, pn_t, st_nil, st_cons, s_app2, ow_0, ow_s, cm_eqi, cm_nei, cm_nes, cm_eqs, cm_neb, rv_dat, rv_fre, lk_0, lk_1, lk_2, i3_0, i3_1, i3_2, t3_1, t3_2, ka_dat, ka_fre, ka_own, tn_fre, tg_nm, bi_add, bi_sub, cm_lt, cm_le, cm_gt, cm_ge, cm_is, bt_len, bt_lenT, bt_int, bt_list, bt_tuple, bt_min, List.set_cons_zero, List.set_cons_succ, cond_true, cond_false, tg_2, tn_own, pn_o, t2_0, t2_1, av_neg, av_nt, av_cmp, av_ife, av_sli, av_lc, av_dct, av_bop, o_bin, o_neg, lk_0a, lk_1a, lk_2a, tn_fd, tn_ff, tn_fo, tn_fn, pn_ff, pn_fo, h1', h2', Bool.not_true, bi_mul k]
        have ea : apartA (m :: x) (n :: y) u = apartA x y (u * m.1) := by
          rw [apartA_cons, if_neg (by simp [h1]), if_neg (by simp [h2])]
        rcases apart_loop (G := G) (v := v) (w := w) x y (u * m.1) (some (.dat (.int m.1))) (some (.dat (.int m.2))) (some (.dat (.int n.1))) (some (.dat (.int n.2))) hx' hy' um hs with ⟨r, q1, q2⟩ | ⟨r, y3, y4, y5, y6, q1, q2⟩
        · exact .inl ⟨r, ea.trans q1, (for_nx tg body).trans q2⟩
        · refine .inr ⟨r, y3, y4, y5, y6, ?_, (for_nx tg body).trans q2⟩
          rw [ea, q1]
          simp
      · have h2' : decide (m.1 = n.1) = false := decide_eq_false h2
        have k : okMul u (if n.1 < m.1 then n.1 else m.1) = true := by
          split
          · exact okMul_of ub gn.a1 (by decide) (by decide) (by decide)
          · exact okMul_of ub gm.a1 (by decide) (by decide) (by decide)
        refine .inl ⟨u * (if n.1 < m.1 then n.1 else m.1), ?_, for_rt tg ?_⟩
        · rw [apartA_cons, if_neg (by simp [h1]), if_pos h2]
        · simp only [b_ok, b_exc, st_ok, st_exc, sq_nx, sq_rt, sq_bk, sq_ct, sq_exc, of_some, nox_ok, lk_dat, lk_fre, kp_dat, kp_fre, asB_b, asI_i, dB_, tR, s_nil, s_cons, s_pass, s_ret, s_xpr, s_set, s_setO, s_unp, s_sti, s_ifs, s_fo, s_rai, e_var, e_lit, e_dct, e_glb, e_bin, e_neg, e_nt, e_cmp, e_chn, e_bop, c_one, c_and, c_or, e_ife, e_tup, e_lst, e_idx, e_sli, e_blt, e_isi, k_nil, k_cons, bl_nil, bl_cons, a_nil, a_cons, o_nil, o_var, o_lit, intO_i, av_dat, av_fre, av_own, av_var, av_lit, av_glb, av_bin, av_idx, av_lst, av_tup, av_cal, av_blt, av_lend, i_seq, i_rng, sl_0, sl_s, lks_nil, s_par, pn_nil, pn_f, pn_t, st_nil, st_cons, s_app2, ow_0, ow_s, cm_eqi, cm_nei, cm_nes, cm_eqs, cm_neb, rv_dat, rv_fre, lk_0, lk_1, lk_2, i3_0, i3_1, i3_2, t3_1, t3_2, ka_dat, ka_fre, ka_own, tn_fre, tg_nm, bi_add, bi_sub, cm_lt, cm_le, cm_gt, cm_ge, cm_is, bt_len, bt_lenT, bt_int, bt_list, bt_tuple, bt_min, List.set_cons_zero, List.set_cons_succ, cond_true, cond_false, tg_2, tn_own, pn_o, t2_0, t2_1, av_neg, av_nt, av_cmp, av_ife, av_sli, av_lc, av_dct, av_bop, o_bin, o_neg, lk_0a, lk_1a, lk_2a, tn_fd, tn_ff, tn_fo, tn_fn, pn_ff, pn_fo, h1', h2', Bool.not_true, Bool.not_false, lks_dat (lks_dat lks_nil), bi_mul k]
    · have h1' : decide (m.2 = n.2) = false := decide_eq_false h1
      refine .inl ⟨u, ?_, for_rt tg ?_⟩
      · rw [apartA_cons, if_pos h1]
      · simp only [b_ok, b_exc, st_ok, st_exc, sq_nx, sq_rt, sq_bk, sq_ct, sq_exc, of_some, nox_ok, lk_dat, lk_fre, kp_dat, kp_fre, asB_b, asI_i, dB_, tR, s_nil, s_cons, s_pass, s_ret, s_xpr, s_set, s_setO, s_unp, s_sti, s_ifs, s_fo, s_rai, e_var, e_lit, e_dct, e_glb, e_bin, e_neg, e_nt, e_cmp, e_chn, e_bop, c_one, c_and, c_or, e_ife, e_tup, e_lst, e_idx, e_sli, e_blt, e_isi, k_nil, k_cons, bl_nil, bl_cons, a_nil, a_cons, o_nil, o_var, o_lit, intO_i, av_dat, av_fre, av_own, av_var, av_lit, av_glb, av_bin, av_idx, av_lst, av_tup, av_cal, av_blt, av_lend, i_seq, i_rng, sl_0, sl_s, lks_nil, s_par, pn_nil, pn_f, pn_t, st_nil, st_cons, s_app2, ow_0, ow_s, cm_eqi, cm_nei, cm_nes, cm_eqs, cm_neb, rv_dat, rv_fre, lk_0, lk_1, lk_2, i3_0, i3_1, i3_2, t3_1, t3_2, ka_dat, ka_fre, ka_own, tn_fre, tg_nm, bi_add, bi_sub, cm_lt, cm_le, cm_gt, cm_ge, cm_is, bt_len, bt_lenT, bt_int, bt_list, bt_tuple, bt_min, List.set_cons_zero, List.set_cons_succ, cond_true, cond_false, tg_2, tn_own, pn_o, t2_0, t2_1, av_neg, av_nt, av_cmp, av_ife, av_sli, av_lc, av_dct, av_bop, o_bin, o_neg, lk_0a, lk_1a, lk_2a, tn_fd, tn_ff, tn_fo, tn_fn, pn_ff, pn_fo, h1', Bool.not_false]
def optD : Option Int → D
  | none => .none
  | some i => .int i
theorem apart_sem {x y : List Md} (hx : ∀ m ∈ x, GoodM m) (hy : ∀ m ∈ y, GoodM m) (hs : size x ≤ M40) : c18.sem [.dat (ax x), .dat (ax y)] = some (.ret (.dat (optD (apartA x y 1))) []) := by
  show outOf 0 ((den ⟨cs18, con, exc, sub⟩ ir_apart_at).s [some (.dat (ax x)), some (.dat (ax y)), none, none, none, none, none] []) = _
  have ez : (den ⟨cs18, con, exc, sub⟩ (.iZip (some false) (.var 0) (.var 1))).i [some (.dat (ax x)), some (.dat (ax y)), some (.dat (.int 1)), none, none, none, none] [] = .ok (zipD (x.map md) (y.map md)) [] :=
    i_zipb (v := .dat (ax x)) (w := .dat (ax y)) rfl rfl rfl rfl rfl rfl (fun z => nomatch z)
  unfold ir_apart_at
  rcases apart_loop (G := ⟨cs18, con, exc, sub⟩) (v := some (.dat (ax x))) (w := some (.dat (ax y))) x y 1 none none none none hx hy (by decide) (by rw [Int.one_mul]; exact hs) with ⟨r, q1, q2⟩ | ⟨r, y3, y4, y5, y6, q1, q2⟩
  · rw [q1]
    simp only [b_ok, b_exc, st_ok, st_exc, sq_nx, sq_rt, sq_bk, sq_ct, sq_exc, of_some, nox_ok, lk_dat, lk_fre, kp_dat, kp_fre, asB_b, asI_i, dB_, tR, s_nil, s_cons, s_pass, s_ret, s_xpr, s_set, s_setO, s_unp, s_sti, s_ifs, s_fo, s_rai, e_var, e_lit, e_dct, e_glb, e_bin, e_neg, e_nt, e_cmp, e_chn, e_bop, c_one, c_and, c_or, e_ife, e_tup, e_lst, e_idx, e_sli, e_blt, e_isi, k_nil, k_cons, bl_nil, bl_cons, a_nil, a_cons, o_nil, o_var, o_lit, intO_i, av_dat, av_fre, av_own, av_var, av_lit, av_glb, av_bin, av_idx, av_lst, av_tup, av_cal, av_blt, av_lend, i_seq, i_rng, sl_0, sl_s, lks_nil, s_par, pn_nil, pn_f, pn_t, st_nil, st_cons, s_app2, ow_0, ow_s, cm_eqi, cm_nei, cm_nes, cm_eqs, cm_neb, rv_dat, rv_fre, lk_0, lk_1, lk_2, i3_0, i3_1, i3_2, t3_1, t3_2, ka_dat, ka_fre, ka_own, tn_fre, tg_nm, bi_add, bi_sub, cm_lt, cm_le, cm_gt, cm_ge, cm_is, bt_len, bt_lenT, bt_int, bt_list, bt_tuple, bt_min, List.set_cons_zero, List.set_cons_succ, cond_true, cond_false, tg_2, tn_own, pn_o, t2_0, t2_1, av_neg, av_nt, av_cmp, av_ife, av_sli, av_lc, av_dct, av_bop, o_bin, o_neg, lk_0a, lk_1a, lk_2a, tn_fd, tn_ff, tn_fo, tn_fn, pn_ff, pn_fo, ez]
    rw [q2]
    rfl
  · rw [q1]
    simp only [b_ok, b_exc, st_ok, st_exc, sq_nx, sq_rt, sq_bk, sq_ct, sq_exc, of_some, nox_ok, lk_dat, lk_fre, kp_dat, kp_fre, asB_b, asI_i, dB_, tR, s_nil, s_cons, s_pass, s_ret, s_xpr, s_set, s_setO, s_unp, s_sti, s_ifs, s_fo, s_rai, e_var, e_lit, e_dct, e_glb, e_bin, e_neg, e_nt, e_cmp, e_chn, e_bop, c_one, c_and, c_or, e_ife, e_tup, e_lst, e_idx, e_sli, e_blt, e_isi, k_nil, k_cons, bl_nil, bl_cons, a_nil, a_cons, o_nil, o_var, o_lit, intO_i, av_dat, av_fre, av_own, av_var, av_lit, av_glb, av_bin, av_idx, av_lst, av_tup, av_cal, av_blt, av_lend, i_seq, i_rng, sl_0, sl_s, lks_nil, s_par, pn_nil, pn_f, pn_t, st_nil, st_cons, s_app2, ow_0, ow_s, cm_eqi, cm_nei, cm_nes, cm_eqs, cm_neb, rv_dat, rv_fre, lk_0, lk_1, lk_2, i3_0, i3_1, i3_2, t3_1, t3_2, ka_dat, ka_fre, ka_own, tn_fre, tg_nm, bi_add, bi_sub, cm_lt, cm_le, cm_gt, cm_ge, cm_is, bt_len, bt_lenT, bt_int, bt_list, bt_tuple, bt_min, List.set_cons_zero, List.set_cons_succ, cond_true, cond_false, tg_2, tn_own, pn_o, t2_0, t2_1, av_neg, av_nt, av_cmp, av_ife, av_sli, av_lc, av_dct, av_bop, o_bin, o_neg, lk_0a, lk_1a, lk_2a, tn_fd, tn_ff, tn_fo, tn_fn, pn_ff, pn_fo, ez]
    rw [q2]
    by_cases h : x.length = y.length
    · have h' : decide (((x.map md).length : Int) = ((y.map md).length : Int)) = true := decide_eq_true (by rw [List.length_map, List.length_map, h])
      rw [if_pos h]
      simp only [b_ok, b_exc, st_ok, st_exc, sq_nx, sq_rt, sq_bk, sq_ct, sq_exc, of_some, nox_ok, lk_dat, lk_fre, kp_dat, kp_fre, asB_b, asI_i, dB_, tR, s_nil, s_cons, s_pass, s_ret, s_xpr, s_set, s_setO, s_unp, s_sti, s_ifs, s_fo, s_rai, e_var, e_lit, e_dct, e_glb, e_bin, e_neg, e_nt, e_cmp, e_chn, e_bop, c_one, c_and, c_or, e_ife, e_tup, e_lst, e_idx, e_sli, e_blt, e_isi, k_nil, k_cons, bl_nil, bl_cons, a_nil, a_cons, o_nil, o_var, o_lit, intO_i, av_dat, av_fre, av_own, av_var, av_lit, av_glb, av_bin, av_idx, av_lst, av_tup, av_cal, av_blt, av_lend, i_seq, i_rng, sl_0, sl_s, lks_nil, s_par, pn_nil, pn_f, pn_t, st_nil, st_cons, s_app2, ow_0, ow_s, cm_eqi, cm_nei, cm_nes, cm_eqs, cm_neb, rv_dat, rv_fre, lk_0, lk_1, lk_2, i3_0, i3_1, i3_2, t3_1, t3_2, ka_dat, ka_fre, ka_own, tn_fre, tg_nm, bi_add, bi_sub, cm_lt, cm_le, cm_gt, cm_ge, cm_is, bt_len, bt_lenT, bt_int, bt_list, bt_tuple, bt_min, List.set_cons_zero, List.set_cons_succ, cond_true, cond_false, tg_2, tn_own, pn_o, t2_0, t2_1, av_neg, av_nt, av_cmp, av_ife, av_sli, av_lc, av_dct, av_bop, o_bin, o_neg, lk_0a, lk_1a, lk_2a, tn_fd, tn_ff, tn_fo, tn_fn, pn_ff, pn_fo, lks_dat lks_nil, h']
      rfl
    · have h' : decide (((x.map md).length : Int) = ((y.map md).length : Int)) = false := decide_eq_false (by rw [List.length_map, List.length_map]; omega)
      rw [if_neg h]
      simp only [b_ok, b_exc, st_ok, st_exc, sq_nx, sq_rt, sq_bk, sq_ct, sq_exc, of_some, nox_ok, lk_dat, lk_fre, kp_dat, kp_fre, asB_b, asI_i, dB_, tR, s_nil, s_cons, s_pass, s_ret, s_xpr, s_set, s_setO, s_unp, s_sti, s_ifs, s_fo, s_rai, e_var, e_lit, e_dct, e_glb, e_bin, e_neg, e_nt, e_cmp, e_chn, e_bop, c_one, c_and, c_or, e_ife, e_tup, e_lst, e_idx, e_sli, e_blt, e_isi, k_nil, k_cons, bl_nil, bl_cons, a_nil, a_cons, o_nil, o_var, o_lit, intO_i, av_dat, av_fre, av_own, av_var, av_lit, av_glb, av_bin, av_idx, av_lst, av_tup, av_cal, av_blt, av_lend, i_seq, i_rng, sl_0, sl_s, lks_nil, s_par, pn_nil, pn_f, pn_t, st_nil, st_cons, s_app2, ow_0, ow_s, cm_eqi, cm_nei, cm_nes, cm_eqs, cm_neb, rv_dat, rv_fre, lk_0, lk_1, lk_2, i3_0, i3_1, i3_2, t3_1, t3_2, ka_dat, ka_fre, ka_own, tn_fre, tg_nm, bi_add, bi_sub, cm_lt, cm_le, cm_gt, cm_ge, cm_is, bt_len, bt_lenT, bt_int, bt_list, bt_tuple, bt_min, List.set_cons_zero, List.set_cons_succ, cond_true, cond_false, tg_2, tn_own, pn_o, t2_0, t2_1, av_neg, av_nt, av_cmp, av_ife, av_sli, av_lc, av_dct, av_bop, o_bin, o_neg, lk_0a, lk_1a, lk_2a, tn_fd, tn_ff, tn_fo, tn_fn, pn_ff, pn_fo, lks_dat lks_nil, h']
      rfl
/-! ### begins -/
theorem way_good : ∀ {ms acc : List Md}, Way acc ms → ∀ m ∈ shortA acc ms, GoodM m
  | [], acc, w => w.good
  | m :: ms, acc, w => way_good (ms := ms) (push_good w)
theorem short_good {ms : List Md} (g : ∀ m ∈ ms, GoodM m) (hs : size ms ≤ M40) (hl : ms.length ≤ 5000) : ∀ m ∈ short ms, GoodM m :=
  way_good (acc := []) ⟨(fun _ h => nomatch h), g, by rw [size, Int.one_mul]; exact hs, by simp only [List.length_nil]; omega⟩
end K04

set_option maxHeartbeats 1000000
namespace K04
open DL
open PySem PySem.Spec PyProof.Rows L2
/-! ### calls that change the pen -/
theorem Pen.mono {n m : Nat} {ds : List D} (p : Pen n ds) (h : n ≤ m) : Pen m ds := by
  obtain ⟨cells, at_, v, y1, y2, y3, y4⟩ := p.ex
  exact ⟨cells, at_, v, y1, y2, by omega, y4⟩
section
variable {st : CS} {n : Nat} {ds : List D}
theorem av_own1 {d : D} {R : List Cell} (hst : st = .live ∨ st = .arg) : avArgs (⟨st, ds⟩ :: R) [.own 0, .dat d] = some [.own ds, .dat d] := by
  rcases hst with rfl | rfl <;> rfl
theorem call_take (hst : st = .live ∨ st = .arg) {m : Int} (p : Pen n ds) (hn : n ≤ 1000000000) (h0 : 0 < m) (h1 : m.natAbs < 2 ^ 8000) (R : List Cell) :
    ∃ (r : Int) (ds' : List D), 0 ≤ r ∧ r < m ∧ Pen (n + 1) ds' ∧ callR c2 [.own 0, .dat (.int m)] (⟨st, ds⟩ :: R) = .ok (.dat (.int r)) (⟨st, ds'⟩ :: R) := by
  obtain ⟨r, ds', z1, z2, z3, e⟩ := take_sem p hn h0 h1
  exact ⟨r, ds', z1, z2, z3, call_own (k := 0) (cl := ⟨st, ds⟩) rfl rfl (av_own1 hst) rfl e rfl (by rcases hst with rfl | rfl <;> exact fun z => nomatch z)⟩
theorem call_one (hst : st = .live ∨ st = .arg) {L : List D} (p : Pen n ds) (hn : n ≤ 1000000000) (h0 : 0 < L.length) (h1 : L.length < 1000) (R : List Cell) :
    ∃ (d : D) (ds' : List D), d ∈ L ∧ Pen (n + 1) ds' ∧ callR c3 [.own 0, .dat (.list L)] (⟨st, ds⟩ :: R) = .ok (.dat d) (⟨st, ds'⟩ :: R) := by
  obtain ⟨d, ds', z1, z2, e⟩ := one_sem p hn h0 h1
  exact ⟨d, ds', z1, z2, call_own (k := 0) (cl := ⟨st, ds⟩) rfl rfl (av_own1 hst) rfl e rfl (by rcases hst with rfl | rfl <;> exact fun z => nomatch z)⟩
end
theorem set_same {α : Type} {R : List α} {q : Nat} {c : α} (h : R[q]? = some c) : R.set q c = R := by
  refine List.ext_getElem? fun j => ?_
  by_cases e : q = j
  · subst e
    rw [List.getElem?_set_self (List.getElem?_eq_some_iff.mp h).1, h]
  · rw [List.getElem?_set_ne e]
/-! ### a size, a stride -/
theorem dsize_sem {n : Nat} {ds : List D} {room : Int} (p : Pen n ds) (hn : n ≤ 999999000) (h0 : 1 ≤ room) (h1 : room ≤ 1000) :
    ∃ (r : Int) (ds' : List D), 1 ≤ r ∧ r ≤ room ∧ Pen (n + 2) ds' ∧ c4.sem [.own ds, .dat (.int room)] = some (.ret (.dat (.int r)) [ds']) := by
  obtain ⟨r, ds1, r0, r1, p1, e1⟩ := call_take (st := .arg) (by decide) p (by omega) (m := room) (by omega) (by omega) []
  obtain ⟨d, ds2, hd, p2, e2⟩ := call_one (st := .arg) (by decide) p1 (by omega) (L := [.int 1, .int 2, .int 2, .int 2, .int 3, .int 3, .int 4, .int 5, .int 6, .int 8, .int (1 + r)]) (by simp) (by simp) []
  obtain ⟨y, rfl, y0⟩ : ∃ y : Int, d = .int y ∧ 1 ≤ y := by
    simp only [List.mem_cons, List.not_mem_nil, or_false] at hd
    rcases hd with rfl | rfl | rfl | rfl | rfl | rfl | rfl | rfl | rfl | rfl | rfl
    all_goals exact ⟨_, rfl, by omega⟩
  refine ⟨if y > room then room else y, ds2, by split <;> omega, by split <;> omega, p2, ?_⟩
  have e3 : (if y < room then y else room) = (if y > room then room else y) := by split <;> split <;> omega
  have g2 : (⟨cs4, con, exc, sub⟩ : Ge).ces[2]? = some c2 := rfl
  have g3 : (⟨cs4, con, exc, sub⟩ : Ge).ces[3]? = some c3 := rfl
  show outOf 1 ((den ⟨cs4, con, exc, sub⟩ ir__law_draw_size).s [some (.own 0), some (.dat (.int room))] [⟨.arg, ds⟩]) = _
  unfold ir__law_draw_size
  simp only [b_ok, b_exc, st_ok, st_exc, sq_nx, sq_rt, sq_bk, sq_ct, sq_exc, of_some, nox_ok, lk_dat, lk_fre, kp_dat, kp_fre, asB_b, asI_i, dB_, tR, s_nil, s_cons, s_pass, s_ret, s_xpr, s_set, s_setO, s_unp, s_sti, s_ifs, s_fo, s_rai, e_var, e_lit, e_dct, e_glb, e_bin, e_neg, e_nt, e_cmp, e_chn, e_bop, c_one, c_and, c_or, e_ife, e_tup, e_lst, e_idx, e_sli, e_blt, e_isi, k_nil, k_cons, bl_nil, bl_cons, a_nil, a_cons, o_nil, o_var, o_lit, intO_i, av_dat, av_fre, av_own, av_var, av_lit, av_glb, av_bin, av_idx, av_lst, av_tup, av_cal, av_blt, av_lend, i_seq, i_rng, sl_0, sl_s, lks_nil, s_par, pn_nil, pn_f, pn_t, st_nil, st_cons, s_app2, ow_0, ow_s, cm_eqi, cm_nei, cm_nes, cm_eqs, cm_neb, rv_dat, rv_fre, lk_0, lk_1, lk_2, i3_0, i3_1, i3_2, t3_1, t3_2, ka_dat, ka_fre, ka_own, tn_fre, tg_nm, bi_add, bi_sub, cm_lt, cm_le, cm_gt, cm_ge, cm_is, bt_len, bt_lenT, bt_int, bt_list, bt_tuple, bt_min, List.set_cons_zero, List.set_cons_succ, cond_true, cond_false, tg_2, tn_own, pn_o, t2_0, t2_1, av_neg, av_nt, av_cmp, av_ife, av_sli, av_lc, av_dct, av_bop, o_bin, o_neg, lk_0a, lk_1a, lk_2a, tn_fd, tn_ff, tn_fo, tn_fn, pn_ff, pn_fo, e_cal g2, e_cal g3, e1, e2, lks_dat (lks_dat lks_nil), e3]
  rfl
theorem dstride_sem {n : Nat} {ds : List D} {ms : List Md} {unit B : Int} (p : Pen n ds) (hn : n ≤ 999999000) (g : ∀ m ∈ ms, GoodM m) (hB : ∀ l ∈ ms, -B ≤ l.1 * l.2 ∧ l.1 * l.2 ≤ B) (hB0 : 1000000 ≤ B) (hu0 : 1 ≤ unit) (hu1 : unit ≤ 1000) :
    ∃ (t : Int) (ds' : List D), -(B + 1) ≤ t ∧ t ≤ B + 1 ∧ Pen (n + 3) ds' ∧ c6.sem [.own ds, .own (ms.map md), .dat (.int unit)] = some (.ret (.dat (.int t)) [ds', ms.map md]) := by
  obtain ⟨last, l0, l1, el⟩ : ∃ last : Int, -B ≤ last ∧ last ≤ B ∧ ∀ {G : Ge} {a b : Option SV}, (den G (.set 3 (.ife (.cmp .NotEq (.var 1) (.lst (.nil))) (.bin .Mult (.idx (.idx (.var 1) (.neg (.lit (.int 1)))) (.lit (.int 0))) (.idx (.idx (.var 1) (.neg (.lit (.int 1)))) (.lit (.int 1)))) (.lit (.int 1))))).s [some (.own 0), some (.own 1), some (.dat (.int unit)), a, b] [⟨.arg, ds⟩, ⟨.arg, ms.map md⟩] =
      .nx [some (.own 0), some (.own 1), some (.dat (.int unit)), some (.dat (.int last)), b] [⟨.arg, ds⟩, ⟨.arg, ms.map md⟩] := by
    rcases end_cases ms with rfl | ⟨a, l, rfl⟩
    · refine ⟨1, by omega, by omega, fun {G a b} => ?_⟩
      have cn : cmp2 .NotEq (.list (([] : List Md).map md)) (.list []) = some false := cm_neNil (m := []) sh_nil
      simp only [b_ok, b_exc, st_ok, st_exc, sq_nx, sq_rt, sq_bk, sq_ct, sq_exc, of_some, nox_ok, lk_dat, lk_fre, kp_dat, kp_fre, asB_b, asI_i, dB_, tR, s_nil, s_cons, s_pass, s_ret, s_xpr, s_set, s_setO, s_unp, s_sti, s_ifs, s_fo, s_rai, e_var, e_lit, e_dct, e_glb, e_bin, e_neg, e_nt, e_cmp, e_chn, e_bop, c_one, c_and, c_or, e_ife, e_tup, e_lst, e_idx, e_sli, e_blt, e_isi, k_nil, k_cons, bl_nil, bl_cons, a_nil, a_cons, o_nil, o_var, o_lit, intO_i, av_dat, av_fre, av_own, av_var, av_lit, av_glb, av_bin, av_idx, av_lst, av_tup, av_cal, av_blt, av_lend, i_seq, i_rng, sl_0, sl_s, lks_nil, s_par, pn_nil, pn_f, pn_t, st_nil, st_cons, s_app2, ow_0, ow_s, cm_eqi, cm_nei, cm_nes, cm_eqs, cm_neb, rv_dat, rv_fre, lk_0, lk_1, lk_2, i3_0, i3_1, i3_2, t3_1, t3_2, ka_dat, ka_fre, ka_own, tn_fre, tg_nm, bi_add, bi_sub, cm_lt, cm_le, cm_gt, cm_ge, cm_is, bt_len, bt_lenT, bt_int, bt_list, bt_tuple, bt_min, List.set_cons_zero, List.set_cons_succ, cond_true, cond_false, tg_2, tn_own, pn_o, t2_0, t2_1, av_neg, av_nt, av_cmp, av_ife, av_sli, av_lc, av_dct, av_bop, o_bin, o_neg, lk_0a, lk_1a, lk_2a, tn_fd, tn_ff, tn_fo, tn_fn, pn_ff, pn_fo, cn]
    · obtain ⟨q0, q1⟩ := hB l (by simp)
      have gl := g l (by simp)
      refine ⟨l.1 * l.2, q0, q1, fun {G a' b} => ?_⟩
      have cn : cmp2 .NotEq (.list ((a ++ [l]).map md)) (.list []) = some true := by rw [cm_neNil (sh_ax _), ne_mapE]
      have il : idxD (.list ((a ++ [l]).map md)) (.int (-1)) = some (.tuple [.int l.1, .int l.2]) := by
        rw [List.map_append]
        exact at_last
      have k1 : okMul l.1 l.2 = true := okMul_of gl.a1 gl.a2 (by decide) (by decide) (by decide)
      simp only [b_ok, b_exc, st_ok, st_exc, sq_nx, sq_rt, sq_bk, sq_ct, sq_exc, of_some, nox_ok, lk_dat, lk_fre, kp_dat, kp_fre, asB_b, asI_i, dB_, tR, s_nil, s_cons, s_pass, s_ret, s_xpr, s_set, s_setO, s_unp, s_sti, s_ifs, s_fo, s_rai, e_var, e_lit, e_dct, e_glb, e_bin, e_neg, e_nt, e_cmp, e_chn, e_bop, c_one, c_and, c_or, e_ife, e_tup, e_lst, e_idx, e_sli, e_blt, e_isi, k_nil, k_cons, bl_nil, bl_cons, a_nil, a_cons, o_nil, o_var, o_lit, intO_i, av_dat, av_fre, av_own, av_var, av_lit, av_glb, av_bin, av_idx, av_lst, av_tup, av_cal, av_blt, av_lend, i_seq, i_rng, sl_0, sl_s, lks_nil, s_par, pn_nil, pn_f, pn_t, st_nil, st_cons, s_app2, ow_0, ow_s, cm_eqi, cm_nei, cm_nes, cm_eqs, cm_neb, rv_dat, rv_fre, lk_0, lk_1, lk_2, i3_0, i3_1, i3_2, t3_1, t3_2, ka_dat, ka_fre, ka_own, tn_fre, tg_nm, bi_add, bi_sub, cm_lt, cm_le, cm_gt, cm_ge, cm_is, bt_len, bt_lenT, bt_int, bt_list, bt_tuple, bt_min, List.set_cons_zero, List.set_cons_succ, cond_true, cond_false, tg_2, tn_own, pn_o, t2_0, t2_1, av_neg, av_nt, av_cmp, av_ife, av_sli, av_lc, av_dct, av_bop, o_bin, o_neg, lk_0a, lk_1a, lk_2a, tn_fd, tn_ff, tn_fo, tn_fn, pn_ff, pn_fo, cn, il, bi_mul k1, Int.reduceNeg]
  obtain ⟨r, ds1, r0, r1, p1, e1⟩ := call_take (st := .arg) (by decide) p (by omega) (m := 9) (by omega) (by decide) [⟨.arg, ms.map md⟩]
  obtain ⟨r', ds2, r0', r1', p2, e2⟩ := call_take (st := .arg) (by decide) p1 (by omega) (m := 9) (by omega) (by decide) [⟨.arg, ms.map md⟩]
  obtain ⟨d, ds3, hd, p3, e3⟩ := call_one (st := .arg) (by decide) p2 (by omega) (L := [.int last, .int last, .int unit, .int (unit * 2), .int 0, .int 1, .int (1 + r), .int (-1 - r'), .int (last + 1), .int (10 ^ (6 : Int).toNat)]) (by simp) (by simp) [⟨.arg, ms.map md⟩]
  have e6 : (10 : Int) ^ (6 : Int).toNat = 1000000 := by decide
  obtain ⟨y, rfl, y0, y1⟩ : ∃ y : Int, d = .int y ∧ -(B + 1) ≤ y ∧ y ≤ B + 1 := by
    simp only [List.mem_cons, List.not_mem_nil, or_false] at hd
    rcases hd with rfl | rfl | rfl | rfl | rfl | rfl | rfl | rfl | rfl | rfl
    all_goals exact ⟨_, rfl, by omega, by omega⟩
  refine ⟨y, ds3, y0, y1, p3, ?_⟩
  have g2 : (⟨cs6, con, exc, sub⟩ : Ge).ces[2]? = some c2 := rfl
  have g3 : (⟨cs6, con, exc, sub⟩ : Ge).ces[3]? = some c3 := rfl
  have k2 : okMul unit 2 = true := okMul_of (a := 64) (b := 64) (by omega) (by decide) (by decide) (by decide) (by decide)
  have k3 : okPow 10 6 = true := by decide
  show outOf 2 ((den ⟨cs6, con, exc, sub⟩ ir__law_draw_stride).s [some (.own 0), some (.own 1), some (.dat (.int unit)), none, none] [⟨.arg, ds⟩, ⟨.arg, ms.map md⟩]) = _
  unfold ir__law_draw_stride
  rw [s_cons, el]
  simp only [b_ok, b_exc, st_ok, st_exc, sq_nx, sq_rt, sq_bk, sq_ct, sq_exc, of_some, nox_ok, lk_dat, lk_fre, kp_dat, kp_fre, asB_b, asI_i, dB_, tR, s_nil, s_cons, s_pass, s_ret, s_xpr, s_set, s_setO, s_unp, s_sti, s_ifs, s_fo, s_rai, e_var, e_lit, e_dct, e_glb, e_bin, e_neg, e_nt, e_cmp, e_chn, e_bop, c_one, c_and, c_or, e_ife, e_tup, e_lst, e_idx, e_sli, e_blt, e_isi, k_nil, k_cons, bl_nil, bl_cons, a_nil, a_cons, o_nil, o_var, o_lit, intO_i, av_dat, av_fre, av_own, av_var, av_lit, av_glb, av_bin, av_idx, av_lst, av_tup, av_cal, av_blt, av_lend, i_seq, i_rng, sl_0, sl_s, lks_nil, s_par, pn_nil, pn_f, pn_t, st_nil, st_cons, s_app2, ow_0, ow_s, cm_eqi, cm_nei, cm_nes, cm_eqs, cm_neb, rv_dat, rv_fre, lk_0, lk_1, lk_2, i3_0, i3_1, i3_2, t3_1, t3_2, ka_dat, ka_fre, ka_own, tn_fre, tg_nm, bi_add, bi_sub, cm_lt, cm_le, cm_gt, cm_ge, cm_is, bt_len, bt_lenT, bt_int, bt_list, bt_tuple, bt_min, List.set_cons_zero, List.set_cons_succ, cond_true, cond_false, tg_2, tn_own, pn_o, t2_0, t2_1, av_neg, av_nt, av_cmp, av_ife, av_sli, av_lc, av_dct, av_bop, o_bin, o_neg, lk_0a, lk_1a, lk_2a, tn_fd, tn_ff, tn_fo, tn_fn, pn_ff, pn_fo, e_cal g2, e_cal g3, e1, e2, e3, bi_mul k2, bi_pow k3]
  rfl
/-! ### axes of few indices -/
def W (k : Nat) : Int := 1000000 * 61 ^ k
theorem W_pos (k : Nat) : 1000000 ≤ W k := by
  unfold W
  have : (0 : Int) < 61 ^ k := Int.pow_pos (by decide)
  omega
theorem W_succ (k : Nat) : W (k + 1) = 61 * W k := by
  unfold W
  rw [Int.pow_succ]
  omega
theorem W_mono {j k : Nat} (h : j ≤ k) : W j ≤ W k := by
  induction h with
  | refl => exact Int.le_refl _
  | step _ ih =>
    rw [W_succ]
    have := W_pos
    rename_i m _
    have := W_pos m
    omega
structure Dr (room : Int) (ms : List Md) (left unit : Int) : Prop where
  ent : ∀ m ∈ ms, 1 ≤ m.1 ∧ m.1 ≤ 60 ∧ -(W ms.length) ≤ m.2 ∧ m.2 ≤ W ms.length
  lf : 1 ≤ left
  pr : size ms * left ≤ room
  un : unit = size ms
  rm : room ≤ 60
  ln : ms.length ≤ 20
theorem Dr.good {room : Int} {ms : List Md} {left unit : Int} (d : Dr room ms left unit) : ∀ m ∈ ms, GoodM m := fun m hm => by
  obtain ⟨h1, h2, h3, h4⟩ := d.ent m hm
  have h5 := W_mono d.ln
  have h6 : W 20 ≤ M60 := by decide
  exact ⟨h1, Int.le_trans h2 (by decide), by omega, by omega⟩
theorem Dr.bnd {room : Int} {ms : List Md} {left unit : Int} (d : Dr room ms left unit) : ∀ m ∈ ms, -(60 * W ms.length) ≤ m.1 * m.2 ∧ m.1 * m.2 ≤ 60 * W ms.length := fun m hm => by
  obtain ⟨h1, h2, h3, h4⟩ := d.ent m hm
  have h5 := W_pos ms.length
  have h6 : m.1 * W ms.length ≤ 60 * W ms.length := Int.mul_le_mul_of_nonneg_right h2 (by omega)
  have h7 : m.1 * m.2 ≤ m.1 * W ms.length := Int.mul_le_mul_of_nonneg_left h4 (by omega)
  have h8 : m.1 * -(W ms.length) ≤ m.1 * m.2 := Int.mul_le_mul_of_nonneg_left h3 (by omega)
  rw [Int.mul_neg] at h8
  omega
theorem Dr.pos {room : Int} {ms : List Md} {left unit : Int} (d : Dr room ms left unit) : Pos ms := fun m hm => (d.ent m hm).1
theorem Dr.lr {room : Int} {ms : List Md} {left unit : Int} (d : Dr room ms left unit) : left ≤ room ∧ 1 ≤ unit ∧ unit ≤ room := by
  have h1 := size_pos d.pos
  have h2 := d.lf
  have h3 := d.pr
  have h4 := Int.mul_le_mul h1 (Int.le_refl left) (by omega) (by omega)
  have h5 := Int.mul_le_mul (Int.le_refl (size ms)) h2 (by decide) (by omega)
  rw [d.un]
  omega
theorem Dr.next {room : Int} {ms : List Md} {left unit s t : Int} (d : Dr room ms left unit) (h0 : 1 ≤ s) (h1 : s ≤ left) (h2 : -(60 * W ms.length + 1) ≤ t) (h3 : t ≤ 60 * W ms.length + 1) (hl : ms.length < 20) : Dr room (ms ++ [(s, t)]) (left / s) (unit * s) where
  ent := fun m hm => by
    have hw := W_pos ms.length
    rw [List.length_append, show [(s, t)].length = 1 from rfl, W_succ]
    have := d.lr.1
    have := d.rm
    rcases List.mem_append.mp hm with q | q
    · obtain ⟨q1, q2, q3, q4⟩ := d.ent m q
      exact ⟨q1, q2, by omega, by omega⟩
    · rw [List.mem_singleton.mp q]
      exact ⟨h0, by show s ≤ 60; omega, by show -_ ≤ t; omega, by show t ≤ _; omega⟩
  lf := by
    rw [Int.le_ediv_iff_mul_le (by omega)]
    omega
  pr := by
    rw [size_app, Int.mul_assoc]
    have h2 : s * (left / s) ≤ left := Int.mul_ediv_self_le (by omega)
    have h3 := size_pos d.pos
    simp only [size, Int.mul_one]
    exact Int.le_trans (Int.mul_le_mul_of_nonneg_left h2 (by omega)) d.pr
  un := by rw [size_app, d.un]; simp [size]
  rm := d.rm
  ln := by rw [List.length_append]; simp; omega
abbrev irIn : IR := .cons (.par [(9, false), (10, true)] (.cons (.cal 4 (.cons (.lend 0) (.cons (.var 5) (.nil)))) (.cons (.ife (.cmp .NotEq (.var 7) (.lst (.nil))) (.var 7) (.cal 5 (.cons (.var 4) (.nil)))) (.nil)))) (.cons (.app 7 (.tup (.cons (.var 9) (.cons (.cal 6 (.cons (.lend 0) (.cons (.lend 10) (.cons (.var 6) (.nil))))) (.nil))))) (.cons (.par [(5, false), (6, false)] (.cons (.bin .FloorDiv (.var 5) (.var 9)) (.cons (.bin .Mult (.var 6) (.var 9)) (.nil)))) (.nil)))
abbrev irOut : IR := .cons (.setO 7 (.lst (.nil))) (.cons (.fo (.nm 8) (.iRng (.cons (.cal 2 (.cons (.lend 0) (.cons (.lit (.int 4)) (.nil)))) (.nil))) irIn) (.cons (.app 4 (.var 7)) (.nil)))
noncomputable abbrev GA : Ge := ⟨cs7, con, exc, sub⟩
theorem noL_md (ms : List Md) : noLists (ms.map md) = true := by
  induction ms with
  | nil => simp [noLists]
  | cons m ms ih => simp [noLists, noList, ih]
section
variable {a1 a2 a3 : Option SV}
theorem in_app {n : Nat} {ds : List D} {xs : List (List Md)} {ms bs : List Md} {left unit s B : Int} {R : List Cell} {j q : Nat} {a8 : Option SV} (p : Pen n ds) (hn : n ≤ 999990000) (hj : R[j]? = some ⟨.live, ms.map md⟩) (hq : R[q]? = some ⟨.live, bs.map md⟩) (gb : ∀ m ∈ bs, GoodM m) (hB : ∀ l ∈ bs, -B ≤ l.1 * l.2 ∧ l.1 * l.2 ≤ B) (hB0 : 1000000 ≤ B) (hu0 : 1 ≤ unit) (hu1 : unit ≤ 1000) (hl : ms.length ≤ 1000) :
    ∃ (t : Int) (ds' : List D), -(B + 1) ≤ t ∧ t ≤ B + 1 ∧ Pen (n + 3) ds' ∧ (den GA (.app 7 (.tup (.cons (.var 9) (.cons (.cal 6 (.cons (.lend 0) (.cons (.lend 10) (.cons (.var 6) (.nil))))) (.nil)))))).s [some (.own 0), a1, a2, a3, some (.own 1), some (.dat (.int left)), some (.dat (.int unit)), some (.own (j + 2)), a8, some (.dat (.int s)), some (.own (q + 2))] (⟨.arg, ds⟩ :: ⟨.live, xs.map ax⟩ :: R) =
      .nx [some (.own 0), a1, a2, a3, some (.own 1), some (.dat (.int left)), some (.dat (.int unit)), some (.own (j + 2)), a8, some (.dat (.int s)), some (.own (q + 2))] (⟨.arg, ds'⟩ :: ⟨.live, xs.map ax⟩ :: R.set j ⟨.live, (ms ++ [(s, t)]).map md⟩) := by
  obtain ⟨t, ds', t0, t1, p', e⟩ := dstride_sem p (by omega) gb hB hB0 hu0 hu1
  refine ⟨t, ds', t0, t1, p', ?_⟩
  have gs : GA.ces[6]? = some c6 := rfl
  have ec : callR c6 [.own 0, .own (q + 2), .dat (.int unit)] (⟨.arg, ds⟩ :: ⟨.live, xs.map ax⟩ :: R) = .ok (.dat (.int t)) (⟨.arg, ds'⟩ :: ⟨.live, xs.map ax⟩ :: R) := by
    have h2 : avArgs (⟨.arg, ds⟩ :: ⟨.live, xs.map ax⟩ :: R) [.own 0, .own (q + 2), .dat (.int unit)] = some [.own ds, .own (bs.map md), .dat (.int unit)] := by
      simp [avArgs, AV.arg, CS.shut, hq]
    have := call_own2 (c := c6) (vs := [.own 0, .own (q + 2), .dat (.int unit)]) (i := 0) (k := q + 2) (cl := ⟨.arg, ds⟩) (dl := ⟨.live, bs.map md⟩) (μ := ⟨.arg, ds⟩ :: ⟨.live, xs.map ax⟩ :: R) rfl (by omega) rfl h2 rfl e rfl (by simpa using hq)
    rw [this]
    show DL.R.ok _ (_ :: _ :: R.set q _) = _
    rw [set_same hq]
    rfl
  have ka : appR (j + 2) (.tuple [.int s, .int t]) (⟨.arg, ds'⟩ :: ⟨.live, xs.map ax⟩ :: R) = some (⟨.arg, ds'⟩ :: ⟨.live, xs.map ax⟩ :: R.set j ⟨.live, (ms ++ [(s, t)]).map md⟩) := by
    rw [app_of (c := ⟨.live, ms.map md⟩) (by simpa using hj) (fun z => nomatch z) (by rw [List.length_map]; omega)]
    simp
  simp only [b_ok, b_exc, st_ok, st_exc, sq_nx, sq_rt, sq_bk, sq_ct, sq_exc, of_some, nox_ok, lk_dat, lk_fre, kp_dat, kp_fre, asB_b, asI_i, dB_, tR, s_nil, s_cons, s_pass, s_ret, s_xpr, s_set, s_setO, s_unp, s_sti, s_ifs, s_fo, s_rai, e_var, e_lit, e_dct, e_glb, e_bin, e_neg, e_nt, e_cmp, e_chn, e_bop, c_one, c_and, c_or, e_ife, e_tup, e_lst, e_idx, e_sli, e_blt, e_isi, k_nil, k_cons, bl_nil, bl_cons, a_nil, a_cons, o_nil, o_var, o_lit, intO_i, av_dat, av_fre, av_own, av_var, av_lit, av_glb, av_bin, av_idx, av_lst, av_tup, av_cal, av_blt, av_lend, i_seq, i_rng, sl_0, sl_s, lks_nil, s_par, pn_nil, pn_f, pn_t, st_nil, st_cons, s_app2, ow_0, ow_s, cm_eqi, cm_nei, cm_nes, cm_eqs, cm_neb, rv_dat, rv_fre, lk_0, lk_1, lk_2, i3_0, i3_1, i3_2, t3_1, t3_2, ka_dat, ka_fre, ka_own, tn_fre, tg_nm, bi_add, bi_sub, cm_lt, cm_le, cm_gt, cm_ge, cm_is, bt_len, bt_lenT, bt_int, bt_list, bt_tuple, bt_min, List.set_cons_zero, List.set_cons_succ, cond_true, cond_false, tg_2, tn_own, pn_o, t2_0, t2_1, av_neg, av_nt, av_cmp, av_ife, av_sli, av_lc, av_dct, av_bop, o_bin, o_neg, lk_0a, lk_1a, lk_2a, tn_fd, tn_ff, tn_fo, tn_fn, pn_ff, pn_fo, e_cal gs, ec, ka]
theorem in_step {n : Nat} {ds : List D} {xs : List (List Md)} {ms : List Md} {room left unit : Int} {R : List Cell} {j : Nat} {a8 a9 a10 : Option SV} (p : Pen n ds) (hn : n ≤ 999980000) (d : Dr room (xs.flatten ++ ms) left unit) (hl : (xs.flatten ++ ms).length < 20) (hj : R[j]? = some ⟨.live, ms.map md⟩) :
    ∃ (s t : Int) (ds' : List D) (R' : List Cell) (b9 b10 : Option SV), Dr room (xs.flatten ++ (ms ++ [(s, t)])) (left / s) (unit * s) ∧ Pen (n + 5) ds' ∧ R'[j]? = some ⟨.live, (ms ++ [(s, t)]).map md⟩ ∧
      (den GA irIn).s [some (.own 0), a1, a2, a3, some (.own 1), some (.dat (.int left)), some (.dat (.int unit)), some (.own (j + 2)), a8, a9, a10] (⟨.arg, ds⟩ :: ⟨.live, xs.map ax⟩ :: R) =
      .nx [some (.own 0), a1, a2, a3, some (.own 1), some (.dat (.int (left / s))), some (.dat (.int (unit * s))), some (.own (j + 2)), a8, b9, b10] (⟨.arg, ds'⟩ :: ⟨.live, xs.map ax⟩ :: R') := by
  obtain ⟨lr, u0, u1⟩ := d.lr
  have rm := d.rm
  have lf := d.lf
  obtain ⟨s, ds1, s0, s1, p1, e1⟩ := dsize_sem p (by omega) lf (by omega)
  have jl : j < R.length := (List.getElem?_eq_some_iff.mp hj).1
  have gz : GA.ces[4]? = some c4 := rfl
  have gf : GA.ces[5]? = some c5 := rfl
  have ez : callR c4 [.own 0, .dat (.int left)] (⟨.arg, ds⟩ :: ⟨.live, xs.map ax⟩ :: R) = .ok (.dat (.int s)) (⟨.arg, ds1⟩ :: ⟨.live, xs.map ax⟩ :: R) := call_own (k := 0) (cl := ⟨.arg, ds⟩) rfl rfl rfl rfl e1 rfl
  have hll : ms.length ≤ 1000 := by rw [List.length_append] at hl; omega
  have gall := d.good
  have ball := d.bnd
  have hw := W_pos (xs.flatten ++ ms).length
  -- behind the store of the two names
  obtain ⟨bs, q, R1, h1, h2, h3, h4, e2⟩ : ∃ (bs : List Md) (q : Nat) (R1 : List Cell), R1[j]? = some ⟨.live, ms.map md⟩ ∧ R1[q]? = some ⟨.live, bs.map md⟩ ∧ (∀ m ∈ bs, GoodM m) ∧ (∀ l ∈ bs, -(60 * W (xs.flatten ++ ms).length) ≤ l.1 * l.2 ∧ l.1 * l.2 ≤ 60 * W (xs.flatten ++ ms).length) ∧
      (den GA (.par [(9, false), (10, true)] (.cons (.cal 4 (.cons (.lend 0) (.cons (.var 5) (.nil)))) (.cons (.ife (.cmp .NotEq (.var 7) (.lst (.nil))) (.var 7) (.cal 5 (.cons (.var 4) (.nil)))) (.nil))))).s [some (.own 0), a1, a2, a3, some (.own 1), some (.dat (.int left)), some (.dat (.int unit)), some (.own (j + 2)), a8, a9, a10] (⟨.arg, ds⟩ :: ⟨.live, xs.map ax⟩ :: R) =
      .nx [some (.own 0), a1, a2, a3, some (.own 1), some (.dat (.int left)), some (.dat (.int unit)), some (.own (j + 2)), a8, some (.dat (.int s)), some (.own (q + 2))] (⟨.arg, ds1⟩ :: ⟨.live, xs.map ax⟩ :: R1) := by
    have lk : look1 (.own (j + 2)) (⟨.arg, ds1⟩ :: ⟨.live, xs.map ax⟩ :: R) = .ok (.list (ms.map md)) (⟨.arg, ds1⟩ :: ⟨.live, xs.map ax⟩ :: R) := lk_own (c := ⟨.live, ms.map md⟩) (by simpa using hj)
    rcases end_cases ms with rfl | ⟨a, l, rfl⟩
    · refine ⟨xs.flatten, R.length, R ++ [⟨.live, xs.flatten.map md⟩], by rw [List.getElem?_append_left jl]; exact hj, by simp, fun m hm => gall m (List.mem_append_left _ hm), fun m hm => ball m (List.mem_append_left _ hm), ?_⟩
      have cn : cmp2 .NotEq (.list (([] : List Md).map md)) (.list []) = some false := cm_neNil (m := []) sh_nil
      have ef : callR c5 [.tmp 1] (⟨.arg, ds1⟩ :: ⟨.live, xs.map ax⟩ :: R) = .ok (.fre (xs.flatten.map md)) (⟨.arg, ds1⟩ :: ⟨.live, xs.map ax⟩ :: R) :=
        call_dat (r := .fre (xs.flatten.map md)) (as := [.dat (axs xs)]) rfl rfl rfl (flat_sem (by rw [List.append_nil] at hl; omega)) (.inl (noL_md _))
      have hlen : (⟨.arg, ds1⟩ :: ⟨.live, xs.map ax⟩ :: R : List Cell).length = R.length + 2 := rfl
      simp only [b_ok, b_exc, st_ok, st_exc, sq_nx, sq_rt, sq_bk, sq_ct, sq_exc, of_some, nox_ok, lk_dat, lk_fre, kp_dat, kp_fre, asB_b, asI_i, dB_, tR, s_nil, s_cons, s_pass, s_ret, s_xpr, s_set, s_setO, s_unp, s_sti, s_ifs, s_fo, s_rai, e_var, e_lit, e_dct, e_glb, e_bin, e_neg, e_nt, e_cmp, e_chn, e_bop, c_one, c_and, c_or, e_ife, e_tup, e_lst, e_idx, e_sli, e_blt, e_isi, k_nil, k_cons, bl_nil, bl_cons, a_nil, a_cons, o_nil, o_var, o_lit, intO_i, av_dat, av_fre, av_own, av_var, av_lit, av_glb, av_bin, av_idx, av_lst, av_tup, av_cal, av_blt, av_lend, i_seq, i_rng, sl_0, sl_s, lks_nil, s_par, pn_nil, pn_f, pn_t, st_nil, st_cons, s_app2, ow_0, ow_s, cm_eqi, cm_nei, cm_nes, cm_eqs, cm_neb, rv_dat, rv_fre, lk_0, lk_1, lk_2, i3_0, i3_1, i3_2, t3_1, t3_2, ka_dat, ka_fre, ka_own, tn_fre, tg_nm, bi_add, bi_sub, cm_lt, cm_le, cm_gt, cm_ge, cm_is, bt_len, bt_lenT, bt_int, bt_list, bt_tuple, bt_min, List.set_cons_zero, List.set_cons_succ, cond_true, cond_false, tg_2, tn_own, pn_o, t2_0, t2_1, av_neg, av_nt, av_cmp, av_ife, av_sli, av_lc, av_dct, av_bop, o_bin, o_neg, lk_0a, lk_1a, lk_2a, tn_fd, tn_ff, tn_fo, tn_fn, pn_ff, pn_fo, List.map_cons, e_cal gz, ez, lk, cn, e_cal gf, ef, hlen, List.cons_append]
      rfl
    · refine ⟨a ++ [l], j, R, hj, hj, fun m hm => gall m (List.mem_append_right _ hm), fun m hm => ball m (List.mem_append_right _ hm), ?_⟩
      have cn : cmp2 .NotEq (.list ((a ++ [l]).map md)) (.list []) = some true := by rw [cm_neNil (sh_ax _), ne_mapE]
      simp only [b_ok, b_exc, st_ok, st_exc, sq_nx, sq_rt, sq_bk, sq_ct, sq_exc, of_some, nox_ok, lk_dat, lk_fre, kp_dat, kp_fre, asB_b, asI_i, dB_, tR, s_nil, s_cons, s_pass, s_ret, s_xpr, s_set, s_setO, s_unp, s_sti, s_ifs, s_fo, s_rai, e_var, e_lit, e_dct, e_glb, e_bin, e_neg, e_nt, e_cmp, e_chn, e_bop, c_one, c_and, c_or, e_ife, e_tup, e_lst, e_idx, e_sli, e_blt, e_isi, k_nil, k_cons, bl_nil, bl_cons, a_nil, a_cons, o_nil, o_var, o_lit, intO_i, av_dat, av_fre, av_own, av_var, av_lit, av_glb, av_bin, av_idx, av_lst, av_tup, av_cal, av_blt, av_lend, i_seq, i_rng, sl_0, sl_s, lks_nil, s_par, pn_nil, pn_f, pn_t, st_nil, st_cons, s_app2, ow_0, ow_s, cm_eqi, cm_nei, cm_nes, cm_eqs, cm_neb, rv_dat, rv_fre, lk_0, lk_1, lk_2, i3_0, i3_1, i3_2, t3_1, t3_2, ka_dat, ka_fre, ka_own, tn_fre, tg_nm, bi_add, bi_sub, cm_lt, cm_le, cm_gt, cm_ge, cm_is, bt_len, bt_lenT, bt_int, bt_list, bt_tuple, bt_min, List.set_cons_zero, List.set_cons_succ, cond_true, cond_false, tg_2, tn_own, pn_o, t2_0, t2_1, av_neg, av_nt, av_cmp, av_ife, av_sli, av_lc, av_dct, av_bop, o_bin, o_neg, lk_0a, lk_1a, lk_2a, tn_fd, tn_ff, tn_fo, tn_fn, pn_ff, pn_fo, List.map_cons, e_cal gz, ez, lk, cn]
      rfl
  obtain ⟨t, ds2, t0, t1, p2, e3⟩ := in_app (a1 := a1) (a2 := a2) (a3 := a3) (xs := xs) (left := left) (s := s) (a8 := a8) p1 (by omega) h1 h2 h3 h4 (by omega) u0 (by omega) hll
  have kd : okDiv s = true := okDiv_of (b := 64) (by omega) (by omega) (by decide) (by decide)
  have km : okMul unit s = true := okMul_of (a := 64) (b := 64) (by omega) (by omega) (by decide) (by decide) (by decide)
  have jl1 : j < R1.length := (List.getElem?_eq_some_iff.mp h1).1
  refine ⟨s, t, ds2, R1.set j ⟨.live, (ms ++ [(s, t)]).map md⟩, some (.dat (.int s)), some (.own (q + 2)), ?_, p2.mono (by omega), by rw [List.getElem?_set_self jl1], ?_⟩
  · rw [← List.append_assoc]
    exact d.next s0 s1 t0 t1 hl
  · rw [s_cons, e2, sq_nx, s_cons, e3, sq_nx]
    simp only [b_ok, b_exc, st_ok, st_exc, sq_nx, sq_rt, sq_bk, sq_ct, sq_exc, of_some, nox_ok, lk_dat, lk_fre, kp_dat, kp_fre, asB_b, asI_i, dB_, tR, s_nil, s_cons, s_pass, s_ret, s_xpr, s_set, s_setO, s_unp, s_sti, s_ifs, s_fo, s_rai, e_var, e_lit, e_dct, e_glb, e_bin, e_neg, e_nt, e_cmp, e_chn, e_bop, c_one, c_and, c_or, e_ife, e_tup, e_lst, e_idx, e_sli, e_blt, e_isi, k_nil, k_cons, bl_nil, bl_cons, a_nil, a_cons, o_nil, o_var, o_lit, intO_i, av_dat, av_fre, av_own, av_var, av_lit, av_glb, av_bin, av_idx, av_lst, av_tup, av_cal, av_blt, av_lend, i_seq, i_rng, sl_0, sl_s, lks_nil, s_par, pn_nil, pn_f, pn_t, st_nil, st_cons, s_app2, ow_0, ow_s, cm_eqi, cm_nei, cm_nes, cm_eqs, cm_neb, rv_dat, rv_fre, lk_0, lk_1, lk_2, i3_0, i3_1, i3_2, t3_1, t3_2, ka_dat, ka_fre, ka_own, tn_fre, tg_nm, bi_add, bi_sub, cm_lt, cm_le, cm_gt, cm_ge, cm_is, bt_len, bt_lenT, bt_int, bt_list, bt_tuple, bt_min, List.set_cons_zero, List.set_cons_succ, cond_true, cond_false, tg_2, tn_own, pn_o, t2_0, t2_1, av_neg, av_nt, av_cmp, av_ife, av_sli, av_lc, av_dct, av_bop, o_bin, o_neg, lk_0a, lk_1a, lk_2a, tn_fd, tn_ff, tn_fo, tn_fn, pn_ff, pn_fo, List.map_cons, List.map_nil, bi_div kd, bi_mul km]
theorem in_loop : ∀ (m : Nat) (lo : Int) {n : Nat} {ds : List D} {xs : List (List Md)} {ms : List Md} {room left unit : Int} {R : List Cell} {j : Nat} {a8 a9 a10 : Option SV}, Pen n ds → n + 5 * m ≤ 999970000 → Dr room (xs.flatten ++ ms) left unit → (xs.flatten ++ ms).length + m ≤ 20 → R[j]? = some ⟨.live, ms.map md⟩ →
    ∃ (ms' : List Md) (left' unit' : Int) (ds' : List D) (R' : List Cell) (b8 b9 b10 : Option SV), Dr room (xs.flatten ++ ms') left' unit' ∧ ms'.length = ms.length + m ∧ Pen (n + 5 * m) ds' ∧ R'[j]? = some ⟨.live, ms'.map md⟩ ∧
      forR (Tg.nm 8).f.one (den GA irIn).s (rangeD lo m) [some (.own 0), a1, a2, a3, some (.own 1), some (.dat (.int left)), some (.dat (.int unit)), some (.own (j + 2)), a8, a9, a10] (⟨.arg, ds⟩ :: ⟨.live, xs.map ax⟩ :: R) =
      .nx [some (.own 0), a1, a2, a3, some (.own 1), some (.dat (.int left')), some (.dat (.int unit')), some (.own (j + 2)), b8, b9, b10] (⟨.arg, ds'⟩ :: ⟨.live, xs.map ax⟩ :: R')
  | 0, lo, n, ds, xs, ms, room, left, unit, R, j, a8, a9, a10, p, _, d, _, hj => ⟨ms, left, unit, ds, R, a8, a9, a10, d, rfl, p, hj, rfl⟩
  | m + 1, lo, n, ds, xs, ms, room, left, unit, R, j, a8, a9, a10, p, hn, d, hl, hj => by
    obtain ⟨s, t, ds1, R1, b9, b10, d1, p1, h1, e1⟩ := in_step (a1 := a1) (a2 := a2) (a3 := a3) (a8 := some (.dat (.int lo))) (a9 := a9) (a10 := a10) p (by omega) d (by omega) hj
    obtain ⟨ms', left', unit', ds', R', c8, c9, c10, d', hm, p', h', e'⟩ := in_loop m (lo + 1) (a8 := some (.dat (.int lo))) (a9 := b9) (a10 := b10) p1 (by omega) d1 (by simp only [List.length_append, List.length_cons, List.length_nil] at hl ⊢; omega) h1
    refine ⟨ms', left', unit', ds', R', c8, c9, c10, d', by rw [hm]; simp; omega, p'.mono (by omega), h', ?_⟩
    rw [← e']
    exact for_nx rfl e1
theorem out_step {n : Nat} {ds : List D} {xs : List (List Md)} {room left unit : Int} {R : List Cell} {a7 a8 a9 a10 : Option SV} (p : Pen n ds) (hn : n ≤ 999960000) (d : Dr room xs.flatten left unit) (hl : xs.flatten.length ≤ 17) (hx : xs.length ≤ 1000) :
    ∃ (ms : List Md) (left' unit' : Int) (ds' : List D) (R' : List Cell) (b7 b8 b9 b10 : Option SV), Dr room (xs ++ [ms]).flatten left' unit' ∧ ms.length ≤ 3 ∧ Pen (n + 20) ds' ∧
      (den GA irOut).s [some (.own 0), a1, a2, a3, some (.own 1), some (.dat (.int left)), some (.dat (.int unit)), a7, a8, a9, a10] (⟨.arg, ds⟩ :: ⟨.live, xs.map ax⟩ :: R) =
      .nx [some (.own 0), a1, a2, a3, some (.own 1), some (.dat (.int left')), some (.dat (.int unit')), b7, b8, b9, b10] (⟨.arg, ds'⟩ :: ⟨.live, (xs ++ [ms]).map ax⟩ :: R') := by
  obtain ⟨r, ds1, r0, r1, p1, e1⟩ := call_take (st := .arg) (by decide) p (by omega) (m := 4) (by omega) (by decide) (⟨.live, xs.map ax⟩ :: (R ++ [⟨.live, []⟩]))
  have gt : GA.ces[2]? = some c2 := rfl
  have hj : (R ++ [(⟨.live, ([] : List Md).map md⟩ : Cell)])[R.length]? = some ⟨.live, ([] : List Md).map md⟩ := by simp
  obtain ⟨ms, left', unit', ds2, R2, b8, b9, b10, d2, hm, p2, h2, e2⟩ := in_loop (a1 := a1) (a2 := a2) (a3 := a3) (xs := xs) (ms := []) (j := R.length) (a8 := a8) (a9 := a9) (a10 := a10) r.toNat 0 p1 (by omega) (by rw [List.append_nil]; exact d) (by rw [List.append_nil]; omega) hj
  simp only [List.map_nil] at e2
  have er : rngD [.int r] = some (rangeD 0 r.toNat) := by
    have hs : smallI r = true := by simp [smallI]; omega
    show (if smallI r = true then some (rangeD 0 r.toNat) else none) = _
    rw [if_pos hs]
  have hlen : (⟨.arg, ds⟩ :: ⟨.live, xs.map ax⟩ :: R : List Cell).length = R.length + 2 := rfl
  have q2 : (SV.own (R.length + 2)).keep (⟨.arg, ds2⟩ :: ⟨.live, xs.map ax⟩ :: R2) = .ok (ax ms) (⟨.arg, ds2⟩ :: ⟨.live, xs.map ax⟩ :: R2.set R.length ⟨.froz, ms.map md⟩) := fz_of (by simpa using h2)
  have ka : appR 1 (ax ms) (⟨.arg, ds2⟩ :: ⟨.live, xs.map ax⟩ :: R2.set R.length ⟨.froz, ms.map md⟩) = some (⟨.arg, ds2⟩ :: ⟨.live, (xs ++ [ms]).map ax⟩ :: R2.set R.length ⟨.froz, ms.map md⟩) := by
    rw [app_of (c := ⟨.live, xs.map ax⟩) rfl (fun z => nomatch z) (by rw [List.length_map]; omega)]
    simp
  refine ⟨ms, left', unit', ds2, R2.set R.length ⟨.froz, ms.map md⟩, some (.own (R.length + 2)), b8, b9, b10, by rw [List.flatten_append]; simpa using d2, by simp at hm; omega, p2.mono (by omega), ?_⟩
  have ei : (den GA (.iRng (.cons (.cal 2 (.cons (.lend 0) (.cons (.lit (.int 4)) (.nil)))) (.nil)))).i [some (.own 0), a1, a2, a3, some (.own 1), some (.dat (.int left)), some (.dat (.int unit)), some (.own (R.length + 2)), a8, a9, a10] (⟨.arg, ds⟩ :: ⟨.live, xs.map ax⟩ :: (R ++ [⟨.live, []⟩])) = .ok (rangeD 0 r.toNat) (⟨.arg, ds1⟩ :: ⟨.live, xs.map ax⟩ :: (R ++ [⟨.live, []⟩])) := by
    simp only [b_ok, b_exc, st_ok, st_exc, sq_nx, sq_rt, sq_bk, sq_ct, sq_exc, of_some, nox_ok, lk_dat, lk_fre, kp_dat, kp_fre, asB_b, asI_i, dB_, tR, s_nil, s_cons, s_pass, s_ret, s_xpr, s_set, s_setO, s_unp, s_sti, s_ifs, s_fo, s_rai, e_var, e_lit, e_dct, e_glb, e_bin, e_neg, e_nt, e_cmp, e_chn, e_bop, c_one, c_and, c_or, e_ife, e_tup, e_lst, e_idx, e_sli, e_blt, e_isi, k_nil, k_cons, bl_nil, bl_cons, a_nil, a_cons, o_nil, o_var, o_lit, intO_i, av_dat, av_fre, av_own, av_var, av_lit, av_glb, av_bin, av_idx, av_lst, av_tup, av_cal, av_blt, av_lend, i_seq, i_rng, sl_0, sl_s, lks_nil, s_par, pn_nil, pn_f, pn_t, st_nil, st_cons, s_app2, ow_0, ow_s, cm_eqi, cm_nei, cm_nes, cm_eqs, cm_neb, rv_dat, rv_fre, lk_0, lk_1, lk_2, i3_0, i3_1, i3_2, t3_1, t3_2, ka_dat, ka_fre, ka_own, tn_fre, tg_nm, bi_add, bi_sub, cm_lt, cm_le, cm_gt, cm_ge, cm_is, bt_len, bt_lenT, bt_int, bt_list, bt_tuple, bt_min, List.set_cons_zero, List.set_cons_succ, cond_true, cond_false, tg_2, tn_own, pn_o, t2_0, t2_1, av_neg, av_nt, av_cmp, av_ife, av_sli, av_lc, av_dct, av_bop, o_bin, o_neg, lk_0a, lk_1a, lk_2a, tn_fd, tn_ff, tn_fo, tn_fn, pn_ff, pn_fo, e_cal gt, e1, lks_dat lks_nil, er]
  rw [s_cons]
  simp only [s_setO, e_lst, k_nil, b_ok, tn_fre, st_ok, sq_nx, hlen, List.cons_append, List.set_cons_zero, List.set_cons_succ]
  rw [s_cons, s_fo, ei, st_ok, show forR (Tg.nm 8).f.one (den GA irIn).s (rangeD 0 r.toNat) _ _ = _ from e2, sq_nx]
  simp only [b_ok, b_exc, st_ok, st_exc, sq_nx, sq_rt, sq_bk, sq_ct, sq_exc, of_some, nox_ok, lk_dat, lk_fre, kp_dat, kp_fre, asB_b, asI_i, dB_, tR, s_nil, s_cons, s_pass, s_ret, s_xpr, s_set, s_setO, s_unp, s_sti, s_ifs, s_fo, s_rai, e_var, e_lit, e_dct, e_glb, e_bin, e_neg, e_nt, e_cmp, e_chn, e_bop, c_one, c_and, c_or, e_ife, e_tup, e_lst, e_idx, e_sli, e_blt, e_isi, k_nil, k_cons, bl_nil, bl_cons, a_nil, a_cons, o_nil, o_var, o_lit, intO_i, av_dat, av_fre, av_own, av_var, av_lit, av_glb, av_bin, av_idx, av_lst, av_tup, av_cal, av_blt, av_lend, i_seq, i_rng, sl_0, sl_s, lks_nil, s_par, pn_nil, pn_f, pn_t, st_nil, st_cons, s_app2, ow_0, ow_s, cm_eqi, cm_nei, cm_nes, cm_eqs, cm_neb, rv_dat, rv_fre, lk_0, lk_1, lk_2, i3_0, i3_1, i3_2, t3_1, t3_2, ka_dat, ka_fre, ka_own, tn_fre, tg_nm, bi_add, bi_sub, cm_lt, cm_le, cm_gt, cm_ge, cm_is, bt_len, bt_lenT, bt_int, bt_list, bt_tuple, bt_min, List.set_cons_zero, List.set_cons_succ, cond_true, cond_false, tg_2, tn_own, pn_o, t2_0, t2_1, av_neg, av_nt, av_cmp, av_ife, av_sli, av_lc, av_dct, av_bop, o_bin, o_neg, lk_0a, lk_1a, lk_2a, tn_fd, tn_ff, tn_fo, tn_fn, pn_ff, pn_fo, q2, ka]
theorem out_loop : ∀ (m : Nat) (lo : Int) {n : Nat} {ds : List D} {xs : List (List Md)} {room left unit : Int} {R : List Cell} {a3 a7 a8 a9 a10 : Option SV}, Pen n ds → n + 20 * m ≤ 999950000 → Dr room xs.flatten left unit → xs.flatten.length + 3 * m ≤ 20 → xs.length + m ≤ 1000 →
    ∃ (xs' : List (List Md)) (left' unit' : Int) (ds' : List D) (R' : List Cell) (b3 b7 b8 b9 b10 : Option SV), Dr room xs'.flatten left' unit' ∧ xs'.length = xs.length + m ∧ xs'.flatten.length ≤ xs.flatten.length + 3 * m ∧ Pen (n + 20 * m) ds' ∧
      forR (Tg.nm 3).f.one (den GA irOut).s (rangeD lo m) [some (.own 0), a1, a2, a3, some (.own 1), some (.dat (.int left)), some (.dat (.int unit)), a7, a8, a9, a10] (⟨.arg, ds⟩ :: ⟨.live, xs.map ax⟩ :: R) =
      .nx [some (.own 0), a1, a2, b3, some (.own 1), some (.dat (.int left')), some (.dat (.int unit')), b7, b8, b9, b10] (⟨.arg, ds'⟩ :: ⟨.live, xs'.map ax⟩ :: R')
  | 0, lo, n, ds, xs, room, left, unit, R, a3, a7, a8, a9, a10, p, _, d, _, _ => ⟨xs, left, unit, ds, R, a3, a7, a8, a9, a10, d, rfl, by omega, p, rfl⟩
  | m + 1, lo, n, ds, xs, room, left, unit, R, a3, a7, a8, a9, a10, p, hn, d, hl, hx => by
    obtain ⟨ms, left1, unit1, ds1, R1, b7, b8, b9, b10, d1, hm, p1, e1⟩ := out_step (a1 := a1) (a2 := a2) (a3 := some (.dat (.int lo))) (R := R) (a7 := a7) (a8 := a8) (a9 := a9) (a10 := a10) p (by omega) d (by omega) (by omega)
    have hf : (xs ++ [ms]).flatten.length = xs.flatten.length + ms.length := by simp
    obtain ⟨xs', left', unit', ds', R', c3, c7, c8, c9, c10, d', hx', hf', p', e'⟩ := out_loop m (lo + 1) (R := R1) (a3 := some (.dat (.int lo))) (a7 := b7) (a8 := b8) (a9 := b9) (a10 := b10) p1 (by omega) d1 (by omega) (by simp; omega)
    refine ⟨xs', left', unit', ds', R', c3, c7, c8, c9, c10, d', by rw [hx']; simp; omega, by omega, p'.mono (by omega), ?_⟩
    rw [← e']
    exact for_nx rfl e1
end
/-- axes of few indices, drawn -/
theorem daxes_sem {n : Nat} {ds : List D} {lists room : Int} (p : Pen n ds) (hn : n ≤ 999900000) (h0 : 0 ≤ lists) (h1 : lists ≤ 5) (r0 : 1 ≤ room) (r1 : room ≤ 60) :
    ∃ (xs : List (List Md)) (ds' : List D), Vld xs ∧ xs.length ≤ lists.toNat ∧ xs.flatten.length ≤ 3 * lists.toNat ∧ size xs.flatten ≤ room ∧ (∀ m ∈ xs.flatten, -(W 20) ≤ m.2 ∧ m.2 ≤ W 20) ∧ Pen (n + 200) ds' ∧ c7.sem [.own ds, .dat (.int lists), .dat (.int room)] = some (.ret (.fre (xs.map ax)) [ds']) := by
  obtain ⟨r, ds1, q0, q1, p1, e1⟩ := call_take (st := .arg) (by decide) p (by omega) (m := lists + 1) (by omega) (by omega) [⟨.live, []⟩]
  have gt : GA.ces[2]? = some c2 := rfl
  have d0 : Dr room ([] : List (List Md)).flatten room 1 := ⟨(fun _ h => nomatch h), r0, by simp [size], rfl, r1, by simp⟩
  obtain ⟨xs, left', unit', ds', R', b3, b7, b8, b9, b10, d, hx, hf, p', e'⟩ := out_loop (a1 := some (.dat (.int lists))) (a2 := some (.dat (.int room))) r.toNat 0 (R := []) (a3 := none) (a7 := none) (a8 := none) (a9 := none) (a10 := none) p1 (by omega) d0 (by simp; omega) (by simp; omega)
  simp only [List.map_nil] at e'
  have er : rngD [.int r] = some (rangeD 0 r.toNat) := by
    have hs : smallI r = true := by simp [smallI]; omega
    show (if smallI r = true then some (rangeD 0 r.toNat) else none) = _
    rw [if_pos hs]
  have hx2 : xs.length ≤ lists.toNat := by simp at hx; omega
  have hf2 : xs.flatten.length ≤ 3 * lists.toNat := by simp at hf ⊢; omega
  have hs : size xs.flatten ≤ room := by
    have a1 := d.pr
    have a2 := size_pos d.pos
    have := Int.mul_le_mul (Int.le_refl (size xs.flatten)) d.lf (by decide) (by omega)
    omega
  have h60 : (60 : Int) ≤ M40 := by decide
  refine ⟨xs, ds', ⟨by omega, by omega, d.good, by omega⟩, hx2, hf2, hs, fun m hm => ?_, p'.mono (by omega), ?_⟩
  · obtain ⟨_, _, h3, h4⟩ := d.ent m hm
    have := W_mono d.ln
    omega
  · show outOf 1 ((den GA ir__law_draw_axes).s [some (.own 0), some (.dat (.int lists)), some (.dat (.int room)), none, none, none, none, none, none, none, none] [⟨.arg, ds⟩]) = _
    have ei : (den GA (.iRng (.cons (.cal 2 (.cons (.lend 0) (.cons (.bin .Add (.var 1) (.lit (.int 1))) (.nil)))) (.nil)))).i [some (.own 0), some (.dat (.int lists)), some (.dat (.int room)), none, some (.own 1), some (.dat (.int room)), some (.dat (.int 1)), none, none, none, none] [⟨.arg, ds⟩, ⟨.live, []⟩] = .ok (rangeD 0 r.toNat) [⟨.arg, ds1⟩, ⟨.live, []⟩] := by
      simp only [b_ok, b_exc, st_ok, st_exc, sq_nx, sq_rt, sq_bk, sq_ct, sq_exc, of_some, nox_ok, lk_dat, lk_fre, kp_dat, kp_fre, asB_b, asI_i, dB_, tR, s_nil, s_cons, s_pass, s_ret, s_xpr, s_set, s_setO, s_unp, s_sti, s_ifs, s_fo, s_rai, e_var, e_lit, e_dct, e_glb, e_bin, e_neg, e_nt, e_cmp, e_chn, e_bop, c_one, c_and, c_or, e_ife, e_tup, e_lst, e_idx, e_sli, e_blt, e_isi, k_nil, k_cons, bl_nil, bl_cons, a_nil, a_cons, o_nil, o_var, o_lit, intO_i, av_dat, av_fre, av_own, av_var, av_lit, av_glb, av_bin, av_idx, av_lst, av_tup, av_cal, av_blt, av_lend, i_seq, i_rng, sl_0, sl_s, lks_nil, s_par, pn_nil, pn_f, pn_t, st_nil, st_cons, s_app2, ow_0, ow_s, cm_eqi, cm_nei, cm_nes, cm_eqs, cm_neb, rv_dat, rv_fre, lk_0, lk_1, lk_2, i3_0, i3_1, i3_2, t3_1, t3_2, ka_dat, ka_fre, ka_own, tn_fre, tg_nm, bi_add, bi_sub, cm_lt, cm_le, cm_gt, cm_ge, cm_is, bt_len, bt_lenT, bt_int, bt_list, bt_tuple, bt_min, List.set_cons_zero, List.set_cons_succ, cond_true, cond_false, tg_2, tn_own, pn_o, t2_0, t2_1, av_neg, av_nt, av_cmp, av_ife, av_sli, av_lc, av_dct, av_bop, o_bin, o_neg, lk_0a, lk_1a, lk_2a, tn_fd, tn_ff, tn_fo, tn_fn, pn_ff, pn_fo, e_cal gt, e1, lks_dat lks_nil, er]
    unfold ir__law_draw_axes
    rw [s_cons]
    simp only [s_par, bl_cons, bl_nil, e_lst, k_nil, e_var, e_lit, b_ok, st_ok, sl_0, sl_s, List.map_cons, List.map_nil, pn_t, pn_f, pn_nil, ka_dat, st_nil, st_cons, List.length_cons, List.length_nil, List.cons_append, List.nil_append, List.set_cons_zero, List.set_cons_succ, sq_nx]
    rw [s_cons, s_fo, ei, st_ok, show forR (Tg.nm 3).f.one (den GA irOut).s (rangeD 0 r.toNat) _ _ = _ from e', sq_nx]
    simp only [b_ok, b_exc, st_ok, st_exc, sq_nx, sq_rt, sq_bk, sq_ct, sq_exc, of_some, nox_ok, lk_dat, lk_fre, kp_dat, kp_fre, asB_b, asI_i, dB_, tR, s_nil, s_cons, s_pass, s_ret, s_xpr, s_set, s_setO, s_unp, s_sti, s_ifs, s_fo, s_rai, e_var, e_lit, e_dct, e_glb, e_bin, e_neg, e_nt, e_cmp, e_chn, e_bop, c_one, c_and, c_or, e_ife, e_tup, e_lst, e_idx, e_sli, e_blt, e_isi, k_nil, k_cons, bl_nil, bl_cons, a_nil, a_cons, o_nil, o_var, o_lit, intO_i, av_dat, av_fre, av_own, av_var, av_lit, av_glb, av_bin, av_idx, av_lst, av_tup, av_cal, av_blt, av_lend, i_seq, i_rng, sl_0, sl_s, lks_nil, s_par, pn_nil, pn_f, pn_t, st_nil, st_cons, s_app2, ow_0, ow_s, cm_eqi, cm_nei, cm_nes, cm_eqs, cm_neb, rv_dat, rv_fre, lk_0, lk_1, lk_2, i3_0, i3_1, i3_2, t3_1, t3_2, ka_dat, ka_fre, ka_own, tn_fre, tg_nm, bi_add, bi_sub, cm_lt, cm_le, cm_gt, cm_ge, cm_is, bt_len, bt_lenT, bt_int, bt_list, bt_tuple, bt_min, List.set_cons_zero, List.set_cons_succ, cond_true, cond_false, tg_2, tn_own, pn_o, t2_0, t2_1, av_neg, av_nt, av_cmp, av_ife, av_sli, av_lc, av_dct, av_bop, o_bin, o_neg, lk_0a, lk_1a, lk_2a, tn_fd, tn_ff, tn_fo, tn_fn, pn_ff, pn_fo]
    exact out_own (n := 1) (k := 1) (Nat.le_refl _) rfl rfl
end K04

set_option maxHeartbeats 1000000
namespace K04
open DL
open PySem PySem.Spec PyProof.Rows L2
/-! ### great axes -/
structure Gr (ms : List Md) (left : Int) : Prop where
  ent : ∀ m ∈ ms, GoodM m
  lf : 1 ≤ left
  pr : size ms * left ≤ M40
theorem Gr.pos {ms : List Md} {left : Int} (d : Gr ms left) : Pos ms := fun m hm => (d.ent m hm).s0
theorem Gr.leftM {ms : List Md} {left : Int} (d : Gr ms left) : left ≤ M40 := by
  have h1 := size_pos d.pos
  have h2 := d.lf
  have h3 := d.pr
  have h4 := Int.mul_le_mul h1 (Int.le_refl left) (by omega) (by omega)
  omega
theorem Gr.next {ms : List Md} {left s t : Int} (d : Gr ms left) (h0 : 1 ≤ s) (h1 : s ≤ left) (h2 : -M60 ≤ t) (h3 : t ≤ M60) : Gr (ms ++ [(s, t)]) (left / s) where
  ent := fun m hm => by
    rcases List.mem_append.mp hm with q | q
    · exact d.ent m q
    · rw [List.mem_singleton.mp q]
      exact ⟨h0, Int.le_trans h1 d.leftM, h2, h3⟩
  lf := by
    rw [Int.le_ediv_iff_mul_le (by omega)]
    omega
  pr := by
    rw [size_app, Int.mul_assoc]
    have h2 : s * (left / s) ≤ left := Int.mul_ediv_self_le (by omega)
    have h3 := size_pos d.pos
    simp only [size, Int.mul_one]
    exact Int.le_trans (Int.mul_le_mul_of_nonneg_left h2 (by omega)) d.pr
abbrev irG1 : IR := .set 7 (.lst (.cons (.lit (.int 1)) (.cons (.lit (.int 2)) (.cons (.lit (.int 3)) (.cons (.lit (.int 10)) (.cons (.lit (.int 997)) (.cons (.bin .Pow (.lit (.int 10)) (.lit (.int 6))) (.cons (.bin .Add (.bin .Pow (.lit (.int 10)) (.lit (.int 9))) (.lit (.int 7))) (.cons (.bin .Pow (.lit (.int 10)) (.lit (.int 20))) (.cons (.bin .Add (.lit (.int 1)) (.cal 2 (.cons (.lend 0) (.cons (.bin .Pow (.lit (.int 10)) (.lit (.int 8))) (.nil))))) (.nil)))))))))))
abbrev irG2 : IR := .set 8 (.blt .min2 (.cons (.var 4) (.cons (.cal 3 (.cons (.lend 0) (.cons (.var 7) (.nil)))) (.nil))))
abbrev irG3 : IR := .set 9 (.ife (.cmp .NotEq (.var 5) (.lst (.nil))) (.bin .Mult (.idx (.idx (.var 5) (.neg (.lit (.int 1)))) (.lit (.int 0))) (.idx (.idx (.var 5) (.neg (.lit (.int 1)))) (.lit (.int 1)))) (.lit (.int 1)))
abbrev irG4 : IR := .set 7 (.lst (.cons (.var 9) (.cons (.var 9) (.cons (.lit (.int 0)) (.cons (.lit (.int 1)) (.cons (.bin .Pow (.lit (.int 10)) (.lit (.int 60))) (.cons (.neg (.bin .Pow (.lit (.int 10)) (.lit (.int 60)))) (.cons (.cal 2 (.cons (.lend 0) (.cons (.bin .Pow (.lit (.int 10)) (.lit (.int 9))) (.nil)))) (.cons (.bin .Sub (.neg (.lit (.int 1))) (.cal 2 (.cons (.lend 0) (.cons (.bin .Pow (.lit (.int 10)) (.lit (.int 9))) (.nil))))) (.nil))))))))))
abbrev irG5 : IR := .set 10 (.cal 3 (.cons (.lend 0) (.cons (.bin .Add (.var 7) (.lst (.cons (.bin .Add (.var 9) (.lit (.int 1))) (.cons (.bin .Pow (.lit (.int 10)) (.lit (.int 30))) (.nil))))) (.nil))))
abbrev irG6 : IR := .app 5 (.tup (.cons (.var 8) (.cons (.ife (.chn .LtE .LtE (.neg (.bin .Pow (.lit (.int 10)) (.lit (.int 60)))) (.var 10) (.bin .Pow (.lit (.int 10)) (.lit (.int 60)))) (.var 10) (.lit (.int 1))) (.nil))))
abbrev irG7 : IR := .set 4 (.bin .FloorDiv (.var 4) (.var 8))
abbrev irGIn : IR := .cons irG1 (.cons irG2 (.cons irG3 (.cons irG4 (.cons irG5 (.cons irG6 (.cons irG7 .nil))))))
abbrev irGOut : IR := .cons (.setO 5 (.lst (.nil))) (.cons (.fo (.nm 6) (.iRng (.cons (.cal 2 (.cons (.lend 0) (.cons (.lit (.int 5)) (.nil)))) (.nil))) irGIn) (.cons (.app 3 (.var 5)) (.nil)))
noncomputable abbrev GG : Ge := ⟨cs8, con, exc, sub⟩
section
variable {a1 a2 : Option SV}
theorem g_step {n : Nat} {ds : List D} {xs : List (List Md)} {ms : List Md} {left : Int} {R : List Cell} {j : Nat} {a6 a7 a8 a9 a10 : Option SV} (p : Pen n ds) (hn : n ≤ 999980000) (d : Gr (xs.flatten ++ ms) left) (hl : ms.length ≤ 1000) (hj : R[j]? = some ⟨.live, ms.map md⟩) :
    ∃ (s t : Int) (ds' : List D) (R' : List Cell) (b7 b8 b9 b10 : Option SV), Gr (xs.flatten ++ (ms ++ [(s, t)])) (left / s) ∧ Pen (n + 5) ds' ∧ R'[j]? = some ⟨.live, (ms ++ [(s, t)]).map md⟩ ∧
      (den GG irGIn).s [some (.own 0), a1, a2, some (.own 1), some (.dat (.int left)), some (.own (j + 2)), a6, a7, a8, a9, a10] (⟨.arg, ds⟩ :: ⟨.live, xs.map ax⟩ :: R) =
      .nx [some (.own 0), a1, a2, some (.own 1), some (.dat (.int (left / s))), some (.own (j + 2)), a6, b7, b8, b9, b10] (⟨.arg, ds'⟩ :: ⟨.live, xs.map ax⟩ :: R') := by
  have lf := d.lf
  have lM := d.leftM
  have gt : GG.ces[2]? = some c2 := rfl
  have go : GG.ces[3]? = some c3 := rfl
  have k6 : okPow 10 6 = true := by decide
  have k8 : okPow 10 8 = true := by decide
  have k9 : okPow 10 9 = true := by decide
  have k20 : okPow 10 20 = true := by decide
  have k30 : okPow 10 30 = true := by decide
  have k60 : okPow 10 60 = true := by decide
  have e6 : (10 : Int) ^ (6 : Int).toNat = 1000000 := by decide
  have e8 : (10 : Int) ^ (8 : Int).toNat = 100000000 := by decide
  have e9 : (10 : Int) ^ (9 : Int).toNat = 1000000000 := by decide
  have e20 : (10 : Int) ^ (20 : Int).toNat = 100000000000000000000 := by decide
  have e60 : (10 : Int) ^ (60 : Int).toNat = 1000000000000000000000000000000000000000000000000000000000000 := by decide
  have jl : j < R.length := (List.getElem?_eq_some_iff.mp hj).1
  -- a size
  obtain ⟨r, ds1, r0, r1, p1, q1⟩ := call_take (st := .arg) (by decide) p (by omega) (m := 100000000) (by omega) (by decide) (⟨.live, xs.map ax⟩ :: R)
  obtain ⟨dd, ds2, hd, p2, q2⟩ := call_one (st := .arg) (by decide) p1 (by omega) (L := [.int 1, .int 2, .int 3, .int 10, .int 997, .int 1000000, .int (1000000000 + 7), .int 100000000000000000000, .int (1 + r)]) (by simp) (by simp) (⟨.live, xs.map ax⟩ :: R)
  obtain ⟨y, rfl, y0⟩ : ∃ y : Int, dd = .int y ∧ 1 ≤ y := by
    simp only [List.mem_cons, List.not_mem_nil, or_false] at hd
    rcases hd with rfl | rfl | rfl | rfl | rfl | rfl | rfl | rfl | rfl
    all_goals exact ⟨_, rfl, by omega⟩
  generalize hz : (if y < left then y else left) = s
  have s0 : 1 ≤ s := by rw [← hz]; split <;> omega
  have s1 : s ≤ left := by rw [← hz]; split <;> omega
  -- the last
  have lk : look1 (.own (j + 2)) (⟨.arg, ds2⟩ :: ⟨.live, xs.map ax⟩ :: R) = .ok (.list (ms.map md)) (⟨.arg, ds2⟩ :: ⟨.live, xs.map ax⟩ :: R) := lk_own (c := ⟨.live, ms.map md⟩) (by simpa using hj)
  obtain ⟨last, el⟩ : ∃ last : Int, ∀ {a7 a8 a9 : Option SV}, (den GG irG3).s [some (.own 0), a1, a2, some (.own 1), some (.dat (.int left)), some (.own (j + 2)), a6, a7, a8, a9, a10] (⟨.arg, ds2⟩ :: ⟨.live, xs.map ax⟩ :: R) = .nx [some (.own 0), a1, a2, some (.own 1), some (.dat (.int left)), some (.own (j + 2)), a6, a7, a8, some (.dat (.int last)), a10] (⟨.arg, ds2⟩ :: ⟨.live, xs.map ax⟩ :: R) := by
    rcases end_cases ms with rfl | ⟨a, l, rfl⟩
    · refine ⟨1, fun {a7 a8 a9} => ?_⟩
      have cn : cmp2 .NotEq (.list (([] : List Md).map md)) (.list []) = some false := cm_neNil (m := []) sh_nil
      simp only [b_ok, b_exc, st_ok, st_exc, sq_nx, sq_rt, sq_bk, sq_ct, sq_exc, of_some, nox_ok, lk_dat, lk_fre, kp_dat, kp_fre, asB_b, asI_i, dB_, tR, s_nil, s_cons, s_pass, s_ret, s_xpr, s_set, s_setO, s_unp, s_sti, s_ifs, s_fo, s_rai, e_var, e_lit, e_dct, e_glb, e_bin, e_neg, e_nt, e_cmp, e_chn, e_bop, c_one, c_and, c_or, e_ife, e_tup, e_lst, e_idx, e_sli, e_blt, e_isi, k_nil, k_cons, bl_nil, bl_cons, a_nil, a_cons, o_nil, o_var, o_lit, intO_i, av_dat, av_fre, av_own, av_var, av_lit, av_glb, av_bin, av_idx, av_lst, av_tup, av_cal, av_blt, av_lend, i_seq, i_rng, sl_0, sl_s, lks_nil, s_par, pn_nil, pn_f, pn_t, st_nil, st_cons, s_app2, ow_0, ow_s, cm_eqi, cm_nei, cm_nes, cm_eqs, cm_neb, rv_dat, rv_fre, lk_0, lk_1, lk_2, i3_0, i3_1, i3_2, t3_1, t3_2, ka_dat, ka_fre, ka_own, tn_fre, tg_nm, bi_add, bi_sub, cm_lt, cm_le, cm_gt, cm_ge, cm_is, bt_len, bt_lenT, bt_int, bt_list, bt_tuple, bt_min, List.set_cons_zero, List.set_cons_succ, cond_true, cond_false, tg_2, tn_own, pn_o, t2_0, t2_1, av_neg, av_nt, av_cmp, av_ife, av_sli, av_lc, av_dct, av_bop, o_bin, o_neg, lk_0a, lk_1a, lk_2a, tn_fd, tn_ff, tn_fo, tn_fn, pn_ff, pn_fo, lk, cn]
    · have gl := d.ent l (by simp)
      refine ⟨l.1 * l.2, fun {a7 a8 a9} => ?_⟩
      have cn : cmp2 .NotEq (.list ((a ++ [l]).map md)) (.list []) = some true := by rw [cm_neNil (sh_ax _), ne_mapE]
      have il : idxD (.list ((a ++ [l]).map md)) (.int (-1)) = some (.tuple [.int l.1, .int l.2]) := by
        rw [List.map_append]
        exact at_last
      have k1 : okMul l.1 l.2 = true := okMul_of gl.a1 gl.a2 (by decide) (by decide) (by decide)
      simp only [b_ok, b_exc, st_ok, st_exc, sq_nx, sq_rt, sq_bk, sq_ct, sq_exc, of_some, nox_ok, lk_dat, lk_fre, kp_dat, kp_fre, asB_b, asI_i, dB_, tR, s_nil, s_cons, s_pass, s_ret, s_xpr, s_set, s_setO, s_unp, s_sti, s_ifs, s_fo, s_rai, e_var, e_lit, e_dct, e_glb, e_bin, e_neg, e_nt, e_cmp, e_chn, e_bop, c_one, c_and, c_or, e_ife, e_tup, e_lst, e_idx, e_sli, e_blt, e_isi, k_nil, k_cons, bl_nil, bl_cons, a_nil, a_cons, o_nil, o_var, o_lit, intO_i, av_dat, av_fre, av_own, av_var, av_lit, av_glb, av_bin, av_idx, av_lst, av_tup, av_cal, av_blt, av_lend, i_seq, i_rng, sl_0, sl_s, lks_nil, s_par, pn_nil, pn_f, pn_t, st_nil, st_cons, s_app2, ow_0, ow_s, cm_eqi, cm_nei, cm_nes, cm_eqs, cm_neb, rv_dat, rv_fre, lk_0, lk_1, lk_2, i3_0, i3_1, i3_2, t3_1, t3_2, ka_dat, ka_fre, ka_own, tn_fre, tg_nm, bi_add, bi_sub, cm_lt, cm_le, cm_gt, cm_ge, cm_is, bt_len, bt_lenT, bt_int, bt_list, bt_tuple, bt_min, List.set_cons_zero, List.set_cons_succ, cond_true, cond_false, tg_2, tn_own, pn_o, t2_0, t2_1, av_neg, av_nt, av_cmp, av_ife, av_sli, av_lc, av_dct, av_bop, o_bin, o_neg, lk_0a, lk_1a, lk_2a, tn_fd, tn_ff, tn_fo, tn_fn, pn_ff, pn_fo, lk, cn, il, bi_mul k1, Int.reduceNeg]
  -- a stride
  obtain ⟨u, ds3, u0, u1, p3, q3⟩ := call_take (st := .arg) (by decide) p2 (by omega) (m := 1000000000) (by omega) (by decide) (⟨.live, xs.map ax⟩ :: R)
  obtain ⟨v, ds4, v0, v1, p4, q4⟩ := call_take (st := .arg) (by decide) p3 (by omega) (m := 1000000000) (by omega) (by decide) (⟨.live, xs.map ax⟩ :: R)
  obtain ⟨dd, ds5, hd5, p5, q5⟩ := call_one (st := .arg) (by decide) p4 (by omega) (L := [.int last, .int last, .int 0, .int 1, .int 1000000000000000000000000000000000000000000000000000000000000, .int (-1000000000000000000000000000000000000000000000000000000000000), .int u, .int (-1 - v)] ++ [.int (last + 1), .int (10 ^ (30 : Int).toNat)]) (by simp) (by simp) (⟨.live, xs.map ax⟩ :: R)
  obtain ⟨w, rfl⟩ : ∃ w : Int, dd = .int w := by
    simp only [List.cons_append, List.nil_append, List.mem_cons, List.not_mem_nil, or_false] at hd5
    rcases hd5 with rfl | rfl | rfl | rfl | rfl | rfl | rfl | rfl | rfl | rfl
    all_goals exact ⟨_, rfl⟩
  have hc : bin2 .Add (.list [.int last, .int last, .int 0, .int 1, .int 1000000000000000000000000000000000000000000000000000000000000, .int (-1000000000000000000000000000000000000000000000000000000000000), .int u, .int (-1 - v)]) (.list [.int (last + 1), .int (10 ^ (30 : Int).toNat)]) = some (.fre ([.int last, .int last, .int 0, .int 1, .int 1000000000000000000000000000000000000000000000000000000000000, .int (-1000000000000000000000000000000000000000000000000000000000000), .int u, .int (-1 - v)] ++ [.int (last + 1), .int (10 ^ (30 : Int).toNat)])) := bi_cat (size7 (by simp))
  generalize ([.int last, .int last, .int 0, .int 1, .int 1000000000000000000000000000000000000000000000000000000000000, .int (-1000000000000000000000000000000000000000000000000000000000000), .int u, .int (-1 - v)] ++ [.int (last + 1), .int (10 ^ (30 : Int).toNat)] : List D) = L at hc q5
  obtain ⟨t, t0, t1, e7⟩ : ∃ t : Int, -M60 ≤ t ∧ t ≤ M60 ∧ ∀ {a2 a6 a7 a9 : Option SV} {μ : List Cell}, (den GG (.ife (.chn .LtE .LtE (.neg (.bin .Pow (.lit (.int 10)) (.lit (.int 60)))) (.var 10) (.bin .Pow (.lit (.int 10)) (.lit (.int 60)))) (.var 10) (.lit (.int 1)))).e [some (.own 0), a1, a2, some (.own 1), some (.dat (.int left)), some (.own (j + 2)), a6, a7, some (.dat (.int s)), a9, some (.dat (.int w))] μ = .ok (.dat (.int t)) μ := by
    by_cases h1 : -1000000000000000000000000000000000000000000000000000000000000 ≤ w
    · by_cases h2 : w ≤ 1000000000000000000000000000000000000000000000000000000000000
      · refine ⟨w, h1, h2, fun {a2 a6 a7 a9 μ} => ?_⟩
        simp only [b_ok, b_exc, st_ok, st_exc, sq_nx, sq_rt, sq_bk, sq_ct, sq_exc, of_some, nox_ok, lk_dat, lk_fre, kp_dat, kp_fre, asB_b, asI_i, dB_, tR, s_nil, s_cons, s_pass, s_ret, s_xpr, s_set, s_setO, s_unp, s_sti, s_ifs, s_fo, s_rai, e_var, e_lit, e_dct, e_glb, e_bin, e_neg, e_nt, e_cmp, e_chn, e_bop, c_one, c_and, c_or, e_ife, e_tup, e_lst, e_idx, e_sli, e_blt, e_isi, k_nil, k_cons, bl_nil, bl_cons, a_nil, a_cons, o_nil, o_var, o_lit, intO_i, av_dat, av_fre, av_own, av_var, av_lit, av_glb, av_bin, av_idx, av_lst, av_tup, av_cal, av_blt, av_lend, i_seq, i_rng, sl_0, sl_s, lks_nil, s_par, pn_nil, pn_f, pn_t, st_nil, st_cons, s_app2, ow_0, ow_s, cm_eqi, cm_nei, cm_nes, cm_eqs, cm_neb, rv_dat, rv_fre, lk_0, lk_1, lk_2, i3_0, i3_1, i3_2, t3_1, t3_2, ka_dat, ka_fre, ka_own, tn_fre, tg_nm, bi_add, bi_sub, cm_lt, cm_le, cm_gt, cm_ge, cm_is, bt_len, bt_lenT, bt_int, bt_list, bt_tuple, bt_min, List.set_cons_zero, List.set_cons_succ, cond_true, cond_false, tg_2, tn_own, pn_o, t2_0, t2_1, av_neg, av_nt, av_cmp, av_ife, av_sli, av_lc, av_dct, av_bop, o_bin, o_neg, lk_0a, lk_1a, lk_2a, tn_fd, tn_ff, tn_fo, tn_fn, pn_ff, pn_fo, bi_pow k60, e60, decide_eq_true h1, decide_eq_true h2]
      · refine ⟨1, by decide, by decide, fun {a2 a6 a7 a9 μ} => ?_⟩
        simp only [b_ok, b_exc, st_ok, st_exc, sq_nx, sq_rt, sq_bk, sq_ct, sq_exc, of_some, nox_ok, lk_dat, lk_fre, kp_dat, kp_fre, asB_b, asI_i, dB_, tR, s_nil, s_cons, s_pass, s_ret, s_xpr, s_set, s_setO, s_unp, s_sti, s_ifs, s_fo, s_rai, e_var, e_lit, e_dct, e_glb, e_bin, e_neg, e_nt, e_cmp, e_chn, e_bop, c_one, c_and, c_or, e_ife, e_tup, e_lst, e_idx, e_sli, e_blt, e_isi, k_nil, k_cons, bl_nil, bl_cons, a_nil, a_cons, o_nil, o_var, o_lit, intO_i, av_dat, av_fre, av_own, av_var, av_lit, av_glb, av_bin, av_idx, av_lst, av_tup, av_cal, av_blt, av_lend, i_seq, i_rng, sl_0, sl_s, lks_nil, s_par, pn_nil, pn_f, pn_t, st_nil, st_cons, s_app2, ow_0, ow_s, cm_eqi, cm_nei, cm_nes, cm_eqs, cm_neb, rv_dat, rv_fre, lk_0, lk_1, lk_2, i3_0, i3_1, i3_2, t3_1, t3_2, ka_dat, ka_fre, ka_own, tn_fre, tg_nm, bi_add, bi_sub, cm_lt, cm_le, cm_gt, cm_ge, cm_is, bt_len, bt_lenT, bt_int, bt_list, bt_tuple, bt_min, List.set_cons_zero, List.set_cons_succ, cond_true, cond_false, tg_2, tn_own, pn_o, t2_0, t2_1, av_neg, av_nt, av_cmp, av_ife, av_sli, av_lc, av_dct, av_bop, o_bin, o_neg, lk_0a, lk_1a, lk_2a, tn_fd, tn_ff, tn_fo, tn_fn, pn_ff, pn_fo, bi_pow k60, e60, decide_eq_true h1, decide_eq_false h2]
    · refine ⟨1, by decide, by decide, fun {a2 a6 a7 a9 μ} => ?_⟩
      simp only [b_ok, b_exc, st_ok, st_exc, sq_nx, sq_rt, sq_bk, sq_ct, sq_exc, of_some, nox_ok, lk_dat, lk_fre, kp_dat, kp_fre, asB_b, asI_i, dB_, tR, s_nil, s_cons, s_pass, s_ret, s_xpr, s_set, s_setO, s_unp, s_sti, s_ifs, s_fo, s_rai, e_var, e_lit, e_dct, e_glb, e_bin, e_neg, e_nt, e_cmp, e_chn, e_bop, c_one, c_and, c_or, e_ife, e_tup, e_lst, e_idx, e_sli, e_blt, e_isi, k_nil, k_cons, bl_nil, bl_cons, a_nil, a_cons, o_nil, o_var, o_lit, intO_i, av_dat, av_fre, av_own, av_var, av_lit, av_glb, av_bin, av_idx, av_lst, av_tup, av_cal, av_blt, av_lend, i_seq, i_rng, sl_0, sl_s, lks_nil, s_par, pn_nil, pn_f, pn_t, st_nil, st_cons, s_app2, ow_0, ow_s, cm_eqi, cm_nei, cm_nes, cm_eqs, cm_neb, rv_dat, rv_fre, lk_0, lk_1, lk_2, i3_0, i3_1, i3_2, t3_1, t3_2, ka_dat, ka_fre, ka_own, tn_fre, tg_nm, bi_add, bi_sub, cm_lt, cm_le, cm_gt, cm_ge, cm_is, bt_len, bt_lenT, bt_int, bt_list, bt_tuple, bt_min, List.set_cons_zero, List.set_cons_succ, cond_true, cond_false, tg_2, tn_own, pn_o, t2_0, t2_1, av_neg, av_nt, av_cmp, av_ife, av_sli, av_lc, av_dct, av_bop, o_bin, o_neg, lk_0a, lk_1a, lk_2a, tn_fd, tn_ff, tn_fo, tn_fn, pn_ff, pn_fo, bi_pow k60, e60, decide_eq_false h1]
  have ka : appR (j + 2) (.tuple [.int s, .int t]) (⟨.arg, ds5⟩ :: ⟨.live, xs.map ax⟩ :: R) = some (⟨.arg, ds5⟩ :: ⟨.live, xs.map ax⟩ :: R.set j ⟨.live, (ms ++ [(s, t)]).map md⟩) := by
    rw [app_of (c := ⟨.live, ms.map md⟩) (by simpa using hj) (fun z => nomatch z) (by rw [List.length_map]; omega)]
    simp
  have sb : s.natAbs < 2 ^ 133 := abs_lt (by omega) (Int.le_trans s1 lM) (by decide)
  have kd : okDiv s = true := okDiv_of (by omega) sb (by decide) (by decide)
  refine ⟨s, t, ds5, R.set j ⟨.live, (ms ++ [(s, t)]).map md⟩, some (.dat (.list [.int last, .int last, .int 0, .int 1, .int 1000000000000000000000000000000000000000000000000000000000000, .int (-1000000000000000000000000000000000000000000000000000000000000), .int u, .int (-1 - v)])), some (.dat (.int s)), some (.dat (.int last)), some (.dat (.int w)), ?_, p5, by rw [List.getElem?_set_self jl], ?_⟩
  · rw [← List.append_assoc]
    exact d.next s0 s1 t0 t1
  · have x1 : (den GG irG1).s [some (.own 0), a1, a2, some (.own 1), some (.dat (.int left)), some (.own (j + 2)), a6, a7, a8, a9, a10] (⟨.arg, ds⟩ :: ⟨.live, xs.map ax⟩ :: R) = .nx [some (.own 0), a1, a2, some (.own 1), some (.dat (.int left)), some (.own (j + 2)), a6, some (.dat (.list [.int 1, .int 2, .int 3, .int 10, .int 997, .int 1000000, .int (1000000000 + 7), .int 100000000000000000000, .int (1 + r)])), a8, a9, a10] (⟨.arg, ds1⟩ :: ⟨.live, xs.map ax⟩ :: R) := by
      simp only [b_ok, b_exc, st_ok, st_exc, sq_nx, sq_rt, sq_bk, sq_ct, sq_exc, of_some, nox_ok, lk_dat, lk_fre, kp_dat, kp_fre, asB_b, asI_i, dB_, tR, s_nil, s_cons, s_pass, s_ret, s_xpr, s_set, s_setO, s_unp, s_sti, s_ifs, s_fo, s_rai, e_var, e_lit, e_dct, e_glb, e_bin, e_neg, e_nt, e_cmp, e_chn, e_bop, c_one, c_and, c_or, e_ife, e_tup, e_lst, e_idx, e_sli, e_blt, e_isi, k_nil, k_cons, bl_nil, bl_cons, a_nil, a_cons, o_nil, o_var, o_lit, intO_i, av_dat, av_fre, av_own, av_var, av_lit, av_glb, av_bin, av_idx, av_lst, av_tup, av_cal, av_blt, av_lend, i_seq, i_rng, sl_0, sl_s, lks_nil, s_par, pn_nil, pn_f, pn_t, st_nil, st_cons, s_app2, ow_0, ow_s, cm_eqi, cm_nei, cm_nes, cm_eqs, cm_neb, rv_dat, rv_fre, lk_0, lk_1, lk_2, i3_0, i3_1, i3_2, t3_1, t3_2, ka_dat, ka_fre, ka_own, tn_fre, tg_nm, bi_add, bi_sub, cm_lt, cm_le, cm_gt, cm_ge, cm_is, bt_len, bt_lenT, bt_int, bt_list, bt_tuple, bt_min, List.set_cons_zero, List.set_cons_succ, cond_true, cond_false, tg_2, tn_own, pn_o, t2_0, t2_1, av_neg, av_nt, av_cmp, av_ife, av_sli, av_lc, av_dct, av_bop, o_bin, o_neg, lk_0a, lk_1a, lk_2a, tn_fd, tn_ff, tn_fo, tn_fn, pn_ff, pn_fo, e_cal gt, q1, bi_pow k6, bi_pow k8, bi_pow k9, bi_pow k20, e6, e8, e9, e20]
    have x2 : (den GG irG2).s [some (.own 0), a1, a2, some (.own 1), some (.dat (.int left)), some (.own (j + 2)), a6, some (.dat (.list [.int 1, .int 2, .int 3, .int 10, .int 997, .int 1000000, .int (1000000000 + 7), .int 100000000000000000000, .int (1 + r)])), a8, a9, a10] (⟨.arg, ds1⟩ :: ⟨.live, xs.map ax⟩ :: R) = .nx [some (.own 0), a1, a2, some (.own 1), some (.dat (.int left)), some (.own (j + 2)), a6, some (.dat (.list [.int 1, .int 2, .int 3, .int 10, .int 997, .int 1000000, .int (1000000000 + 7), .int 100000000000000000000, .int (1 + r)])), some (.dat (.int s)), a9, a10] (⟨.arg, ds2⟩ :: ⟨.live, xs.map ax⟩ :: R) := by
      simp only [b_ok, b_exc, st_ok, st_exc, sq_nx, sq_rt, sq_bk, sq_ct, sq_exc, of_some, nox_ok, lk_dat, lk_fre, kp_dat, kp_fre, asB_b, asI_i, dB_, tR, s_nil, s_cons, s_pass, s_ret, s_xpr, s_set, s_setO, s_unp, s_sti, s_ifs, s_fo, s_rai, e_var, e_lit, e_dct, e_glb, e_bin, e_neg, e_nt, e_cmp, e_chn, e_bop, c_one, c_and, c_or, e_ife, e_tup, e_lst, e_idx, e_sli, e_blt, e_isi, k_nil, k_cons, bl_nil, bl_cons, a_nil, a_cons, o_nil, o_var, o_lit, intO_i, av_dat, av_fre, av_own, av_var, av_lit, av_glb, av_bin, av_idx, av_lst, av_tup, av_cal, av_blt, av_lend, i_seq, i_rng, sl_0, sl_s, lks_nil, s_par, pn_nil, pn_f, pn_t, st_nil, st_cons, s_app2, ow_0, ow_s, cm_eqi, cm_nei, cm_nes, cm_eqs, cm_neb, rv_dat, rv_fre, lk_0, lk_1, lk_2, i3_0, i3_1, i3_2, t3_1, t3_2, ka_dat, ka_fre, ka_own, tn_fre, tg_nm, bi_add, bi_sub, cm_lt, cm_le, cm_gt, cm_ge, cm_is, bt_len, bt_lenT, bt_int, bt_list, bt_tuple, bt_min, List.set_cons_zero, List.set_cons_succ, cond_true, cond_false, tg_2, tn_own, pn_o, t2_0, t2_1, av_neg, av_nt, av_cmp, av_ife, av_sli, av_lc, av_dct, av_bop, o_bin, o_neg, lk_0a, lk_1a, lk_2a, tn_fd, tn_ff, tn_fo, tn_fn, pn_ff, pn_fo, e_cal go, q2, lks_dat (lks_dat lks_nil), hz]
    have x4 : ∀ {a7 : Option SV}, (den GG irG4).s [some (.own 0), a1, a2, some (.own 1), some (.dat (.int left)), some (.own (j + 2)), a6, a7, some (.dat (.int s)), some (.dat (.int last)), a10] (⟨.arg, ds2⟩ :: ⟨.live, xs.map ax⟩ :: R) = .nx [some (.own 0), a1, a2, some (.own 1), some (.dat (.int left)), some (.own (j + 2)), a6, some (.dat (.list [.int last, .int last, .int 0, .int 1, .int 1000000000000000000000000000000000000000000000000000000000000, .int (-1000000000000000000000000000000000000000000000000000000000000), .int u, .int (-1 - v)])), some (.dat (.int s)), some (.dat (.int last)), a10] (⟨.arg, ds4⟩ :: ⟨.live, xs.map ax⟩ :: R) := by
      intro a7
      simp only [b_ok, b_exc, st_ok, st_exc, sq_nx, sq_rt, sq_bk, sq_ct, sq_exc, of_some, nox_ok, lk_dat, lk_fre, kp_dat, kp_fre, asB_b, asI_i, dB_, tR, s_nil, s_cons, s_pass, s_ret, s_xpr, s_set, s_setO, s_unp, s_sti, s_ifs, s_fo, s_rai, e_var, e_lit, e_dct, e_glb, e_bin, e_neg, e_nt, e_cmp, e_chn, e_bop, c_one, c_and, c_or, e_ife, e_tup, e_lst, e_idx, e_sli, e_blt, e_isi, k_nil, k_cons, bl_nil, bl_cons, a_nil, a_cons, o_nil, o_var, o_lit, intO_i, av_dat, av_fre, av_own, av_var, av_lit, av_glb, av_bin, av_idx, av_lst, av_tup, av_cal, av_blt, av_lend, i_seq, i_rng, sl_0, sl_s, lks_nil, s_par, pn_nil, pn_f, pn_t, st_nil, st_cons, s_app2, ow_0, ow_s, cm_eqi, cm_nei, cm_nes, cm_eqs, cm_neb, rv_dat, rv_fre, lk_0, lk_1, lk_2, i3_0, i3_1, i3_2, t3_1, t3_2, ka_dat, ka_fre, ka_own, tn_fre, tg_nm, bi_add, bi_sub, cm_lt, cm_le, cm_gt, cm_ge, cm_is, bt_len, bt_lenT, bt_int, bt_list, bt_tuple, bt_min, List.set_cons_zero, List.set_cons_succ, cond_true, cond_false, tg_2, tn_own, pn_o, t2_0, t2_1, av_neg, av_nt, av_cmp, av_ife, av_sli, av_lc, av_dct, av_bop, o_bin, o_neg, lk_0a, lk_1a, lk_2a, tn_fd, tn_ff, tn_fo, tn_fn, pn_ff, pn_fo, e_cal gt, q3, q4, bi_pow k9, bi_pow k60, e9, e60]
    have x5 : (den GG irG5).s [some (.own 0), a1, a2, some (.own 1), some (.dat (.int left)), some (.own (j + 2)), a6, some (.dat (.list [.int last, .int last, .int 0, .int 1, .int 1000000000000000000000000000000000000000000000000000000000000, .int (-1000000000000000000000000000000000000000000000000000000000000), .int u, .int (-1 - v)])), some (.dat (.int s)), some (.dat (.int last)), a10] (⟨.arg, ds4⟩ :: ⟨.live, xs.map ax⟩ :: R) = .nx [some (.own 0), a1, a2, some (.own 1), some (.dat (.int left)), some (.own (j + 2)), a6, some (.dat (.list [.int last, .int last, .int 0, .int 1, .int 1000000000000000000000000000000000000000000000000000000000000, .int (-1000000000000000000000000000000000000000000000000000000000000), .int u, .int (-1 - v)])), some (.dat (.int s)), some (.dat (.int last)), some (.dat (.int w))] (⟨.arg, ds5⟩ :: ⟨.live, xs.map ax⟩ :: R) := by
      simp only [b_ok, b_exc, st_ok, st_exc, sq_nx, sq_rt, sq_bk, sq_ct, sq_exc, of_some, nox_ok, lk_dat, lk_fre, kp_dat, kp_fre, asB_b, asI_i, dB_, tR, s_nil, s_cons, s_pass, s_ret, s_xpr, s_set, s_setO, s_unp, s_sti, s_ifs, s_fo, s_rai, e_var, e_lit, e_dct, e_glb, e_bin, e_neg, e_nt, e_cmp, e_chn, e_bop, c_one, c_and, c_or, e_ife, e_tup, e_lst, e_idx, e_sli, e_blt, e_isi, k_nil, k_cons, bl_nil, bl_cons, a_nil, a_cons, o_nil, o_var, o_lit, intO_i, av_dat, av_fre, av_own, av_var, av_lit, av_glb, av_bin, av_idx, av_lst, av_tup, av_cal, av_blt, av_lend, i_seq, i_rng, sl_0, sl_s, lks_nil, s_par, pn_nil, pn_f, pn_t, st_nil, st_cons, s_app2, ow_0, ow_s, cm_eqi, cm_nei, cm_nes, cm_eqs, cm_neb, rv_dat, rv_fre, lk_0, lk_1, lk_2, i3_0, i3_1, i3_2, t3_1, t3_2, ka_dat, ka_fre, ka_own, tn_fre, tg_nm, bi_add, bi_sub, cm_lt, cm_le, cm_gt, cm_ge, cm_is, bt_len, bt_lenT, bt_int, bt_list, bt_tuple, bt_min, List.set_cons_zero, List.set_cons_succ, cond_true, cond_false, tg_2, tn_own, pn_o, t2_0, t2_1, av_neg, av_nt, av_cmp, av_ife, av_sli, av_lc, av_dct, av_bop, o_bin, o_neg, lk_0a, lk_1a, lk_2a, tn_fd, tn_ff, tn_fo, tn_fn, pn_ff, pn_fo, e_cal go, bi_pow k30, hc, q5]
    have x6 : ∀ {a7 a9 : Option SV}, (den GG irG6).s [some (.own 0), a1, a2, some (.own 1), some (.dat (.int left)), some (.own (j + 2)), a6, a7, some (.dat (.int s)), a9, some (.dat (.int w))] (⟨.arg, ds5⟩ :: ⟨.live, xs.map ax⟩ :: R) = .nx [some (.own 0), a1, a2, some (.own 1), some (.dat (.int left)), some (.own (j + 2)), a6, a7, some (.dat (.int s)), a9, some (.dat (.int w))] (⟨.arg, ds5⟩ :: ⟨.live, xs.map ax⟩ :: R.set j ⟨.live, (ms ++ [(s, t)]).map md⟩) := by
      intro a7 a9
      simp only [s_app2, ow_s, ow_0, e_tup, k_cons, k_nil, e7, e_var, sl_0, sl_s, b_ok, kp_dat, ka, of_some, st_ok]
    have x7 : ∀ {a7 a9 a10 : Option SV} {μ : List Cell}, (den GG irG7).s [some (.own 0), a1, a2, some (.own 1), some (.dat (.int left)), some (.own (j + 2)), a6, a7, some (.dat (.int s)), a9, a10] μ = .nx [some (.own 0), a1, a2, some (.own 1), some (.dat (.int (left / s))), some (.own (j + 2)), a6, a7, some (.dat (.int s)), a9, a10] μ := by
      intro a7 a9 a10 μ
      simp only [b_ok, b_exc, st_ok, st_exc, sq_nx, sq_rt, sq_bk, sq_ct, sq_exc, of_some, nox_ok, lk_dat, lk_fre, kp_dat, kp_fre, asB_b, asI_i, dB_, tR, s_nil, s_cons, s_pass, s_ret, s_xpr, s_set, s_setO, s_unp, s_sti, s_ifs, s_fo, s_rai, e_var, e_lit, e_dct, e_glb, e_bin, e_neg, e_nt, e_cmp, e_chn, e_bop, c_one, c_and, c_or, e_ife, e_tup, e_lst, e_idx, e_sli, e_blt, e_isi, k_nil, k_cons, bl_nil, bl_cons, a_nil, a_cons, o_nil, o_var, o_lit, intO_i, av_dat, av_fre, av_own, av_var, av_lit, av_glb, av_bin, av_idx, av_lst, av_tup, av_cal, av_blt, av_lend, i_seq, i_rng, sl_0, sl_s, lks_nil, s_par, pn_nil, pn_f, pn_t, st_nil, st_cons, s_app2, ow_0, ow_s, cm_eqi, cm_nei, cm_nes, cm_eqs, cm_neb, rv_dat, rv_fre, lk_0, lk_1, lk_2, i3_0, i3_1, i3_2, t3_1, t3_2, ka_dat, ka_fre, ka_own, tn_fre, tg_nm, bi_add, bi_sub, cm_lt, cm_le, cm_gt, cm_ge, cm_is, bt_len, bt_lenT, bt_int, bt_list, bt_tuple, bt_min, List.set_cons_zero, List.set_cons_succ, cond_true, cond_false, tg_2, tn_own, pn_o, t2_0, t2_1, av_neg, av_nt, av_cmp, av_ife, av_sli, av_lc, av_dct, av_bop, o_bin, o_neg, lk_0a, lk_1a, lk_2a, tn_fd, tn_ff, tn_fo, tn_fn, pn_ff, pn_fo, bi_div kd]
    rw [s_cons, x1, sq_nx, s_cons, x2, sq_nx, s_cons, el, sq_nx, s_cons, x4, sq_nx, s_cons, x5, sq_nx, s_cons, x6, sq_nx, s_cons, x7, sq_nx, s_nil]
theorem g_loop : ∀ (m : Nat) (lo : Int) {n : Nat} {ds : List D} {xs : List (List Md)} {ms : List Md} {left : Int} {R : List Cell} {j : Nat} {a6 a7 a8 a9 a10 : Option SV}, Pen n ds → n + 5 * m ≤ 999970000 → Gr (xs.flatten ++ ms) left → ms.length + m ≤ 1000 → R[j]? = some ⟨.live, ms.map md⟩ →
    ∃ (ms' : List Md) (left' : Int) (ds' : List D) (R' : List Cell) (b6 b7 b8 b9 b10 : Option SV), Gr (xs.flatten ++ ms') left' ∧ ms'.length = ms.length + m ∧ Pen (n + 5 * m) ds' ∧ R'[j]? = some ⟨.live, ms'.map md⟩ ∧
      forR (Tg.nm 6).f.one (den GG irGIn).s (rangeD lo m) [some (.own 0), a1, a2, some (.own 1), some (.dat (.int left)), some (.own (j + 2)), a6, a7, a8, a9, a10] (⟨.arg, ds⟩ :: ⟨.live, xs.map ax⟩ :: R) =
      .nx [some (.own 0), a1, a2, some (.own 1), some (.dat (.int left')), some (.own (j + 2)), b6, b7, b8, b9, b10] (⟨.arg, ds'⟩ :: ⟨.live, xs.map ax⟩ :: R')
  | 0, lo, n, ds, xs, ms, left, R, j, a6, a7, a8, a9, a10, p, _, d, _, hj => ⟨ms, left, ds, R, a6, a7, a8, a9, a10, d, rfl, p, hj, rfl⟩
  | m + 1, lo, n, ds, xs, ms, left, R, j, a6, a7, a8, a9, a10, p, hn, d, hl, hj => by
    obtain ⟨s, t, ds1, R1, b7, b8, b9, b10, d1, p1, h1, e1⟩ := g_step (a1 := a1) (a2 := a2) (a6 := some (.dat (.int lo))) (a7 := a7) (a8 := a8) (a9 := a9) (a10 := a10) p (by omega) d (by omega) hj
    obtain ⟨ms', left', ds', R', c6, c7, c8, c9, c10, d', hm, p', h', e'⟩ := g_loop m (lo + 1) (a6 := some (.dat (.int lo))) (a7 := b7) (a8 := b8) (a9 := b9) (a10 := b10) p1 (by omega) d1 (by simp; omega) h1
    refine ⟨ms', left', ds', R', c6, c7, c8, c9, c10, d', by rw [hm]; simp; omega, p'.mono (by omega), h', ?_⟩
    rw [← e']
    exact for_nx rfl e1
theorem g_out {n : Nat} {ds : List D} {xs : List (List Md)} {left : Int} {R : List Cell} {a5 a6 a7 a8 a9 a10 : Option SV} (p : Pen n ds) (hn : n ≤ 999960000) (d : Gr xs.flatten left) (hx : xs.length ≤ 1000) :
    ∃ (ms : List Md) (left' : Int) (ds' : List D) (R' : List Cell) (b5 b6 b7 b8 b9 b10 : Option SV), Gr (xs ++ [ms]).flatten left' ∧ ms.length ≤ 4 ∧ Pen (n + 30) ds' ∧
      (den GG irGOut).s [some (.own 0), a1, a2, some (.own 1), some (.dat (.int left)), a5, a6, a7, a8, a9, a10] (⟨.arg, ds⟩ :: ⟨.live, xs.map ax⟩ :: R) =
      .nx [some (.own 0), a1, a2, some (.own 1), some (.dat (.int left')), b5, b6, b7, b8, b9, b10] (⟨.arg, ds'⟩ :: ⟨.live, (xs ++ [ms]).map ax⟩ :: R') := by
  obtain ⟨r, ds1, r0, r1, p1, e1⟩ := call_take (st := .arg) (by decide) p (by omega) (m := 5) (by omega) (by decide) (⟨.live, xs.map ax⟩ :: (R ++ [⟨.live, []⟩]))
  have gt : GG.ces[2]? = some c2 := rfl
  have hj : (R ++ [(⟨.live, ([] : List Md).map md⟩ : Cell)])[R.length]? = some ⟨.live, ([] : List Md).map md⟩ := by simp
  obtain ⟨ms, left', ds2, R2, b6, b7, b8, b9, b10, d2, hm, p2, h2, e2⟩ := g_loop (a1 := a1) (a2 := a2) (xs := xs) (ms := []) (j := R.length) (a6 := a6) (a7 := a7) (a8 := a8) (a9 := a9) (a10 := a10) r.toNat 0 p1 (by omega) (by rw [List.append_nil]; exact d) (by simp; omega) hj
  simp only [List.map_nil] at e2
  have er : rngD [.int r] = some (rangeD 0 r.toNat) := by
    have hs : smallI r = true := by simp [smallI]; omega
    show (if smallI r = true then some (rangeD 0 r.toNat) else none) = _
    rw [if_pos hs]
  have hlen : (⟨.arg, ds⟩ :: ⟨.live, xs.map ax⟩ :: R : List Cell).length = R.length + 2 := rfl
  have q2 : (SV.own (R.length + 2)).keep (⟨.arg, ds2⟩ :: ⟨.live, xs.map ax⟩ :: R2) = .ok (ax ms) (⟨.arg, ds2⟩ :: ⟨.live, xs.map ax⟩ :: R2.set R.length ⟨.froz, ms.map md⟩) := fz_of (by simpa using h2)
  have ka : appR 1 (ax ms) (⟨.arg, ds2⟩ :: ⟨.live, xs.map ax⟩ :: R2.set R.length ⟨.froz, ms.map md⟩) = some (⟨.arg, ds2⟩ :: ⟨.live, (xs ++ [ms]).map ax⟩ :: R2.set R.length ⟨.froz, ms.map md⟩) := by
    rw [app_of (c := ⟨.live, xs.map ax⟩) rfl (fun z => nomatch z) (by rw [List.length_map]; omega)]
    simp
  refine ⟨ms, left', ds2, R2.set R.length ⟨.froz, ms.map md⟩, some (.own (R.length + 2)), b6, b7, b8, b9, b10, by rw [List.flatten_append]; simpa using d2, by simp at hm; omega, p2.mono (by omega), ?_⟩
  have ei : (den GG (.iRng (.cons (.cal 2 (.cons (.lend 0) (.cons (.lit (.int 5)) (.nil)))) (.nil)))).i [some (.own 0), a1, a2, some (.own 1), some (.dat (.int left)), some (.own (R.length + 2)), a6, a7, a8, a9, a10] (⟨.arg, ds⟩ :: ⟨.live, xs.map ax⟩ :: (R ++ [⟨.live, []⟩])) = .ok (rangeD 0 r.toNat) (⟨.arg, ds1⟩ :: ⟨.live, xs.map ax⟩ :: (R ++ [⟨.live, []⟩])) := by
    simp only [b_ok, b_exc, st_ok, st_exc, sq_nx, sq_rt, sq_bk, sq_ct, sq_exc, of_some, nox_ok, lk_dat, lk_fre, kp_dat, kp_fre, asB_b, asI_i, dB_, tR, s_nil, s_cons, s_pass, s_ret, s_xpr, s_set, s_setO, s_unp, s_sti, s_ifs, s_fo, s_rai, e_var, e_lit, e_dct, e_glb, e_bin, e_neg, e_nt, e_cmp, e_chn, e_bop, c_one, c_and, c_or, e_ife, e_tup, e_lst, e_idx, e_sli, e_blt, e_isi, k_nil, k_cons, bl_nil, bl_cons, a_nil, a_cons, o_nil, o_var, o_lit, intO_i, av_dat, av_fre, av_own, av_var, av_lit, av_glb, av_bin, av_idx, av_lst, av_tup, av_cal, av_blt, av_lend, i_seq, i_rng, sl_0, sl_s, lks_nil, s_par, pn_nil, pn_f, pn_t, st_nil, st_cons, s_app2, ow_0, ow_s, cm_eqi, cm_nei, cm_nes, cm_eqs, cm_neb, rv_dat, rv_fre, lk_0, lk_1, lk_2, i3_0, i3_1, i3_2, t3_1, t3_2, ka_dat, ka_fre, ka_own, tn_fre, tg_nm, bi_add, bi_sub, cm_lt, cm_le, cm_gt, cm_ge, cm_is, bt_len, bt_lenT, bt_int, bt_list, bt_tuple, bt_min, List.set_cons_zero, List.set_cons_succ, cond_true, cond_false, tg_2, tn_own, pn_o, t2_0, t2_1, av_neg, av_nt, av_cmp, av_ife, av_sli, av_lc, av_dct, av_bop, o_bin, o_neg, lk_0a, lk_1a, lk_2a, tn_fd, tn_ff, tn_fo, tn_fn, pn_ff, pn_fo, e_cal gt, e1, lks_dat lks_nil, er]
  rw [s_cons]
  simp only [s_setO, e_lst, k_nil, b_ok, tn_fre, st_ok, sq_nx, hlen, List.cons_append, List.set_cons_zero, List.set_cons_succ]
  rw [s_cons, s_fo, ei, st_ok, show forR (Tg.nm 6).f.one (den GG irGIn).s (rangeD 0 r.toNat) _ _ = _ from e2, sq_nx]
  simp only [b_ok, b_exc, st_ok, st_exc, sq_nx, sq_rt, sq_bk, sq_ct, sq_exc, of_some, nox_ok, lk_dat, lk_fre, kp_dat, kp_fre, asB_b, asI_i, dB_, tR, s_nil, s_cons, s_pass, s_ret, s_xpr, s_set, s_setO, s_unp, s_sti, s_ifs, s_fo, s_rai, e_var, e_lit, e_dct, e_glb, e_bin, e_neg, e_nt, e_cmp, e_chn, e_bop, c_one, c_and, c_or, e_ife, e_tup, e_lst, e_idx, e_sli, e_blt, e_isi, k_nil, k_cons, bl_nil, bl_cons, a_nil, a_cons, o_nil, o_var, o_lit, intO_i, av_dat, av_fre, av_own, av_var, av_lit, av_glb, av_bin, av_idx, av_lst, av_tup, av_cal, av_blt, av_lend, i_seq, i_rng, sl_0, sl_s, lks_nil, s_par, pn_nil, pn_f, pn_t, st_nil, st_cons, s_app2, ow_0, ow_s, cm_eqi, cm_nei, cm_nes, cm_eqs, cm_neb, rv_dat, rv_fre, lk_0, lk_1, lk_2, i3_0, i3_1, i3_2, t3_1, t3_2, ka_dat, ka_fre, ka_own, tn_fre, tg_nm, bi_add, bi_sub, cm_lt, cm_le, cm_gt, cm_ge, cm_is, bt_len, bt_lenT, bt_int, bt_list, bt_tuple, bt_min, List.set_cons_zero, List.set_cons_succ, cond_true, cond_false, tg_2, tn_own, pn_o, t2_0, t2_1, av_neg, av_nt, av_cmp, av_ife, av_sli, av_lc, av_dct, av_bop, o_bin, o_neg, lk_0a, lk_1a, lk_2a, tn_fd, tn_ff, tn_fo, tn_fn, pn_ff, pn_fo, q2, ka]
theorem g_outs : ∀ (m : Nat) (lo : Int) {n : Nat} {ds : List D} {xs : List (List Md)} {left : Int} {R : List Cell} {a2 a5 a6 a7 a8 a9 a10 : Option SV}, Pen n ds → n + 30 * m ≤ 999950000 → Gr xs.flatten left → xs.length + m ≤ 1000 →
    ∃ (xs' : List (List Md)) (left' : Int) (ds' : List D) (R' : List Cell) (b2 b5 b6 b7 b8 b9 b10 : Option SV), Gr xs'.flatten left' ∧ xs'.length = xs.length + m ∧ xs'.flatten.length ≤ xs.flatten.length + 4 * m ∧ Pen (n + 30 * m) ds' ∧
      forR (Tg.nm 2).f.one (den GG irGOut).s (rangeD lo m) [some (.own 0), a1, a2, some (.own 1), some (.dat (.int left)), a5, a6, a7, a8, a9, a10] (⟨.arg, ds⟩ :: ⟨.live, xs.map ax⟩ :: R) =
      .nx [some (.own 0), a1, b2, some (.own 1), some (.dat (.int left')), b5, b6, b7, b8, b9, b10] (⟨.arg, ds'⟩ :: ⟨.live, xs'.map ax⟩ :: R')
  | 0, lo, n, ds, xs, left, R, a2, a5, a6, a7, a8, a9, a10, p, _, d, _ => ⟨xs, left, ds, R, a2, a5, a6, a7, a8, a9, a10, d, rfl, by omega, p, rfl⟩
  | m + 1, lo, n, ds, xs, left, R, a2, a5, a6, a7, a8, a9, a10, p, hn, d, hx => by
    obtain ⟨ms, left1, ds1, R1, b5, b6, b7, b8, b9, b10, d1, hm, p1, e1⟩ := g_out (a1 := a1) (a2 := some (.dat (.int lo))) (R := R) (a5 := a5) (a6 := a6) (a7 := a7) (a8 := a8) (a9 := a9) (a10 := a10) p (by omega) d (by omega)
    have hf : (xs ++ [ms]).flatten.length = xs.flatten.length + ms.length := by simp
    obtain ⟨xs', left', ds', R', c2, c5, c6, c7, c8, c9, c10, d', hx', hf', p', e'⟩ := g_outs m (lo + 1) (R := R1) (a2 := some (.dat (.int lo))) (a5 := b5) (a6 := b6) (a7 := b7) (a8 := b8) (a9 := b9) (a10 := b10) p1 (by omega) d1 (by simp; omega)
    refine ⟨xs', left', ds', R', c2, c5, c6, c7, c8, c9, c10, d', by rw [hx']; simp; omega, by omega, p'.mono (by omega), ?_⟩
    rw [← e']
    exact for_nx rfl e1
end
theorem dgreat_sem {n : Nat} {ds : List D} {lists : Int} (p : Pen n ds) (hn : n ≤ 999900000) (h0 : 0 ≤ lists) (h1 : lists ≤ 8) :
    ∃ (xs : List (List Md)) (ds' : List D), Vld xs ∧ xs.length ≤ lists.toNat ∧ xs.flatten.length ≤ 4 * lists.toNat ∧ Pen (n + 300) ds' ∧ c8.sem [.own ds, .dat (.int lists)] = some (.ret (.fre (xs.map ax)) [ds']) := by
  obtain ⟨r, ds1, q0, q1, p1, e1⟩ := call_take (st := .arg) (by decide) p (by omega) (m := lists + 1) (by omega) (by omega) [⟨.live, []⟩]
  have gt : GG.ces[2]? = some c2 := rfl
  have e40 : (10 : Int) ^ (40 : Int).toNat = 10000000000000000000000000000000000000000 := by decide
  have k40 : okPow 10 40 = true := by decide
  have d0 : Gr ([] : List (List Md)).flatten 10000000000000000000000000000000000000000 := ⟨(fun _ h => nomatch h), by decide, by simp [size]⟩
  obtain ⟨xs, left', ds', R', b2, b5, b6, b7, b8, b9, b10, d, hx, hf, p', e'⟩ := g_outs (a1 := some (.dat (.int lists))) r.toNat 0 (R := []) (a2 := none) (a5 := none) (a6 := none) (a7 := none) (a8 := none) (a9 := none) (a10 := none) p1 (by omega) d0 (by simp; omega)
  simp only [List.map_nil] at e'
  have er : rngD [.int r] = some (rangeD 0 r.toNat) := by
    have hs : smallI r = true := by simp [smallI]; omega
    show (if smallI r = true then some (rangeD 0 r.toNat) else none) = _
    rw [if_pos hs]
  have hx2 : xs.length ≤ lists.toNat := by simp at hx; omega
  have hf2 : xs.flatten.length ≤ 4 * lists.toNat := by simp at hf ⊢; omega
  have hs : size xs.flatten ≤ M40 := by
    have a1 := d.pr
    have a2 := size_pos d.pos
    have := Int.mul_le_mul (Int.le_refl (size xs.flatten)) d.lf (by decide) (by omega)
    omega
  refine ⟨xs, ds', ⟨by omega, by omega, d.ent, hs⟩, hx2, hf2, p'.mono (by omega), ?_⟩
  show outOf 1 ((den GG ir__law_draw_great).s [some (.own 0), some (.dat (.int lists)), none, none, none, none, none, none, none, none, none] [⟨.arg, ds⟩]) = _
  have ei : (den GG (.iRng (.cons (.cal 2 (.cons (.lend 0) (.cons (.bin .Add (.var 1) (.lit (.int 1))) (.nil)))) (.nil)))).i [some (.own 0), some (.dat (.int lists)), none, some (.own 1), some (.dat (.int 10000000000000000000000000000000000000000)), none, none, none, none, none, none] [⟨.arg, ds⟩, ⟨.live, []⟩] = .ok (rangeD 0 r.toNat) [⟨.arg, ds1⟩, ⟨.live, []⟩] := by
    simp only [b_ok, b_exc, st_ok, st_exc, sq_nx, sq_rt, sq_bk, sq_ct, sq_exc, of_some, nox_ok, lk_dat, lk_fre, kp_dat, kp_fre, asB_b, asI_i, dB_, tR, s_nil, s_cons, s_pass, s_ret, s_xpr, s_set, s_setO, s_unp, s_sti, s_ifs, s_fo, s_rai, e_var, e_lit, e_dct, e_glb, e_bin, e_neg, e_nt, e_cmp, e_chn, e_bop, c_one, c_and, c_or, e_ife, e_tup, e_lst, e_idx, e_sli, e_blt, e_isi, k_nil, k_cons, bl_nil, bl_cons, a_nil, a_cons, o_nil, o_var, o_lit, intO_i, av_dat, av_fre, av_own, av_var, av_lit, av_glb, av_bin, av_idx, av_lst, av_tup, av_cal, av_blt, av_lend, i_seq, i_rng, sl_0, sl_s, lks_nil, s_par, pn_nil, pn_f, pn_t, st_nil, st_cons, s_app2, ow_0, ow_s, cm_eqi, cm_nei, cm_nes, cm_eqs, cm_neb, rv_dat, rv_fre, lk_0, lk_1, lk_2, i3_0, i3_1, i3_2, t3_1, t3_2, ka_dat, ka_fre, ka_own, tn_fre, tg_nm, bi_add, bi_sub, cm_lt, cm_le, cm_gt, cm_ge, cm_is, bt_len, bt_lenT, bt_int, bt_list, bt_tuple, bt_min, List.set_cons_zero, List.set_cons_succ, cond_true, cond_false, tg_2, tn_own, pn_o, t2_0, t2_1, av_neg, av_nt, av_cmp, av_ife, av_sli, av_lc, av_dct, av_bop, o_bin, o_neg, lk_0a, lk_1a, lk_2a, tn_fd, tn_ff, tn_fo, tn_fn, pn_ff, pn_fo, e_cal gt, e1, lks_dat lks_nil, er]
  unfold ir__law_draw_great
  rw [s_cons]
  simp only [s_par, bl_cons, bl_nil, e_lst, k_nil, e_bin, e_lit, lk_dat, bi_pow k40, of_some, e40, b_ok, st_ok, sl_0, sl_s, List.map_cons, List.map_nil, pn_t, pn_f, pn_nil, ka_dat, st_nil, st_cons, List.length_cons, List.length_nil, List.cons_append, List.nil_append, List.set_cons_zero, List.set_cons_succ, sq_nx]
  rw [s_cons, s_fo, ei, st_ok, show forR (Tg.nm 2).f.one (den GG irGOut).s (rangeD 0 r.toNat) _ _ = _ from e', sq_nx]
  simp only [b_ok, b_exc, st_ok, st_exc, sq_nx, sq_rt, sq_bk, sq_ct, sq_exc, of_some, nox_ok, lk_dat, lk_fre, kp_dat, kp_fre, asB_b, asI_i, dB_, tR, s_nil, s_cons, s_pass, s_ret, s_xpr, s_set, s_setO, s_unp, s_sti, s_ifs, s_fo, s_rai, e_var, e_lit, e_dct, e_glb, e_bin, e_neg, e_nt, e_cmp, e_chn, e_bop, c_one, c_and, c_or, e_ife, e_tup, e_lst, e_idx, e_sli, e_blt, e_isi, k_nil, k_cons, bl_nil, bl_cons, a_nil, a_cons, o_nil, o_var, o_lit, intO_i, av_dat, av_fre, av_own, av_var, av_lit, av_glb, av_bin, av_idx, av_lst, av_tup, av_cal, av_blt, av_lend, i_seq, i_rng, sl_0, sl_s, lks_nil, s_par, pn_nil, pn_f, pn_t, st_nil, st_cons, s_app2, ow_0, ow_s, cm_eqi, cm_nei, cm_nes, cm_eqs, cm_neb, rv_dat, rv_fre, lk_0, lk_1, lk_2, i3_0, i3_1, i3_2, t3_1, t3_2, ka_dat, ka_fre, ka_own, tn_fre, tg_nm, bi_add, bi_sub, cm_lt, cm_le, cm_gt, cm_ge, cm_is, bt_len, bt_lenT, bt_int, bt_list, bt_tuple, bt_min, List.set_cons_zero, List.set_cons_succ, cond_true, cond_false, tg_2, tn_own, pn_o, t2_0, t2_1, av_neg, av_nt, av_cmp, av_ife, av_sli, av_lc, av_dct, av_bop, o_bin, o_neg, lk_0a, lk_1a, lk_2a, tn_fd, tn_ff, tn_fo, tn_fn, pn_ff, pn_fo]
  exact out_own (n := 1) (k := 1) (Nat.le_refl _) rfl rfl
end K04

set_option maxHeartbeats 1000000
namespace K04
open DL
open PySem PySem.Spec PyProof.Rows L2
/-! ### the same, parted -/
/-- the same function -/
structure Eqv (a b : List Md) : Prop where
  pa : Pos a
  pb : Pos b
  sz : size a = size b
  w : ∀ i, worth a i = worth b i
theorem Eqv.refl {a : List Md} (h : Pos a) : Eqv a a := ⟨h, h, rfl, fun _ => rfl⟩
theorem Eqv.app {a b c d : List Md} (h : Eqv a b) (g : Eqv c d) : Eqv (a ++ c) (b ++ d) := ⟨h.pa.app g.pa, h.pb.app g.pb, by rw [size_app, size_app, h.sz, g.sz], fun i => by
  rw [worth_app _ _ _ h.pa, worth_app _ _ _ h.pb, h.w, h.sz, g.w]⟩
theorem eqv_part {m d h : Int} (h0 : 1 ≤ h) (m0 : 1 ≤ m) (e : m / h * h = m) : Eqv [(m, d)] [(h, d), (m / h, d * h)] := by
  have q0 : 1 ≤ m / h := by
    have : 0 ≤ m / h := Int.ediv_nonneg (by omega) (by omega)
    rcases Int.lt_or_eq_of_le this with q | q
    · omega
    · rw [← q] at e
      omega
  refine ⟨fun x hx => ?_, fun x hx => ?_, ?_, fun i => ?_⟩
  · rw [List.mem_singleton.mp hx]
    exact m0
  · simp only [List.mem_cons, List.not_mem_nil, or_false] at hx
    rcases hx with rfl | rfl
    · exact h0
    · exact q0
  · simp only [size]
    rw [Int.mul_one, Int.mul_one, Int.mul_comm]
    exact e.symm
  · simp only [worth, Int.add_zero]
    have em : m = h * (m / h) := by rw [Int.mul_comm]; exact e.symm
    have := mod_mul i h (m / h) h0 q0
    rw [← em] at this
    rw [this, Int.add_mul, Int.mul_comm h, Int.mul_assoc, Int.mul_comm h d]
theorem eqv_one {x : Int} {a b : List Md} (h : Eqv a b) : Eqv a (b ++ [(1, x)]) := ⟨h.pa, h.pb.snoc (by show (1 : Int) ≤ 1; omega), by rw [size_app, h.sz]; simp [size], fun i => by
  rw [worth_app _ _ _ h.pb, h.w]
  simp [worth, Int.emod_one]⟩
noncomputable abbrev GP : Ge := ⟨cs9, con, exc, sub⟩
def hvD (m : Int) : D → Bool
  | .int o => decide (m / o * o = m)
  | _ => false
def hv (m : Int) : List D := ([PyData.int 2, .int 3, .int 4, .int 5, .int 7, .int 10, .int 1] : List D).filter (hvD m)
theorem hv_mem {m : Int} {d : D} (h : d ∈ hv m) : ∃ o : Int, d = .int o ∧ 1 ≤ o ∧ o ≤ 10 ∧ m / o * o = m := by
  obtain ⟨h1, h2⟩ := List.mem_filter.mp h
  simp only [List.mem_cons, List.not_mem_nil, or_false] at h1
  rcases h1 with rfl | rfl | rfl | rfl | rfl | rfl | rfl
  all_goals exact ⟨_, rfl, by decide, by decide, of_decide_eq_true h2⟩
theorem hv_len (m : Int) : 0 < (hv m).length ∧ (hv m).length < 1000 := by
  constructor
  · refine List.length_pos_of_mem (a := .int 1) (List.mem_filter.mpr ⟨by simp, ?_⟩)
    simp [hvD]
  · have := List.length_filter_le (hvD m) [PyData.int 2, .int 3, .int 4, .int 5, .int 7, .int 10, .int 1]
    have e : ([PyData.int 2, .int 3, .int 4, .int 5, .int 7, .int 10, .int 1] : List D).length = 7 := rfl
    unfold hv
    omega
abbrev irHv : IR := .lc [("_law_one", 10)] (.nm 10) (.iSeq (.lst (.cons (.lit (.int 2)) (.cons (.lit (.int 3)) (.cons (.lit (.int 4)) (.cons (.lit (.int 5)) (.cons (.lit (.int 7)) (.cons (.lit (.int 10)) (.cons (.lit (.int 1)) (.nil)))))))))) (.cmp .Eq (.bin .Mult (.bin .FloorDiv (.var 7) (.var 10)) (.var 10)) (.var 7)) (.var 10)
section
variable {a1 a2 a3 a4 a5 a6 a8 a9 a10 : Option SV}
theorem hv_sem {m : Int} (h0 : 1 ≤ m) (h1 : m ≤ M40) {μ : List Cell} : (den GP irHv).e [some (.own 0), a1, a2, a3, a4, a5, a6, some (.dat (.int m)), a8, a9, a10] μ = .ok (.fre (hv m)) μ := by
  have mb : m.natAbs < 2 ^ 133 := abs_lt (by omega) h1 (by decide)
  rw [show hv m = (hv m).map id from (List.map_id _).symm]
  refine lc_okT (ds := [PyData.int 2, .int 3, .int 4, .int 5, .int 7, .int 10, .int 1]) (by simp) (by simp only [b_ok, b_exc, st_ok, st_exc, sq_nx, sq_rt, sq_bk, sq_ct, sq_exc, of_some, nox_ok, lk_dat, lk_fre, kp_dat, kp_fre, asB_b, asI_i, dB_, tR, s_nil, s_cons, s_pass, s_ret, s_xpr, s_set, s_setO, s_unp, s_sti, s_ifs, s_fo, s_rai, e_var, e_lit, e_dct, e_glb, e_bin, e_neg, e_nt, e_cmp, e_chn, e_bop, c_one, c_and, c_or, e_ife, e_tup, e_lst, e_idx, e_sli, e_blt, e_isi, k_nil, k_cons, bl_nil, bl_cons, a_nil, a_cons, o_nil, o_var, o_lit, intO_i, av_dat, av_fre, av_own, av_var, av_lit, av_glb, av_bin, av_idx, av_lst, av_tup, av_cal, av_blt, av_lend, i_seq, i_rng, sl_0, sl_s, lks_nil, s_par, pn_nil, pn_f, pn_t, st_nil, st_cons, s_app2, ow_0, ow_s, cm_eqi, cm_nei, cm_nes, cm_eqs, cm_neb, rv_dat, rv_fre, lk_0, lk_1, lk_2, i3_0, i3_1, i3_2, t3_1, t3_2, ka_dat, ka_fre, ka_own, tn_fre, tg_nm, bi_add, bi_sub, cm_lt, cm_le, cm_gt, cm_ge, cm_is, bt_len, bt_lenT, bt_int, bt_list, bt_tuple, bt_min, List.set_cons_zero, List.set_cons_succ, cond_true, cond_false, tg_2, tn_own, pn_o, t2_0, t2_1, av_neg, av_nt, av_cmp, av_ife, av_sli, av_lc, av_dct, av_bop, o_bin, o_neg, lk_0a, lk_1a, lk_2a, tn_fd, tn_ff, tn_fo, tn_fn, pn_ff, pn_fo, itemsD]) (lcR_filt (p := hvD m) (f := id) fun d hd => ?_) (by decide)
  obtain ⟨o, rfl, o0, o1⟩ : ∃ o : Int, d = .int o ∧ 1 ≤ o ∧ o ≤ 10 := by
    simp only [List.mem_cons, List.not_mem_nil, or_false] at hd
    rcases hd with rfl | rfl | rfl | rfl | rfl | rfl | rfl
    all_goals exact ⟨_, rfl, by decide, by decide⟩
  have q0 : 0 ≤ m / o := Int.ediv_nonneg (by omega) (by omega)
  have q1 : m / o ≤ m := Int.ediv_le_self _ (by omega)
  have kd : okDiv o = true := okDiv_of (b := 64) (by omega) (by omega) (by decide) (by decide)
  have km : okMul (m / o) o = true := okMul_of (a := 133) (b := 64) (by omega) (by omega) (by decide) (by decide) (by decide)
  refine ⟨[some (.own 0), a1, a2, a3, a4, a5, a6, some (.dat (.int m)), a8, a9, some (.dat (.int o))], rfl, ?_, fun _ => te_ok (v := .dat (.int o)) rfl rfl⟩
  simp only [b_ok, b_exc, st_ok, st_exc, sq_nx, sq_rt, sq_bk, sq_ct, sq_exc, of_some, nox_ok, lk_dat, lk_fre, kp_dat, kp_fre, asB_b, asI_i, dB_, tR, s_nil, s_cons, s_pass, s_ret, s_xpr, s_set, s_setO, s_unp, s_sti, s_ifs, s_fo, s_rai, e_var, e_lit, e_dct, e_glb, e_bin, e_neg, e_nt, e_cmp, e_chn, e_bop, c_one, c_and, c_or, e_ife, e_tup, e_lst, e_idx, e_sli, e_blt, e_isi, k_nil, k_cons, bl_nil, bl_cons, a_nil, a_cons, o_nil, o_var, o_lit, intO_i, av_dat, av_fre, av_own, av_var, av_lit, av_glb, av_bin, av_idx, av_lst, av_tup, av_cal, av_blt, av_lend, i_seq, i_rng, sl_0, sl_s, lks_nil, s_par, pn_nil, pn_f, pn_t, st_nil, st_cons, s_app2, ow_0, ow_s, cm_eqi, cm_nei, cm_nes, cm_eqs, cm_neb, rv_dat, rv_fre, lk_0, lk_1, lk_2, i3_0, i3_1, i3_2, t3_1, t3_2, ka_dat, ka_fre, ka_own, tn_fre, tg_nm, bi_add, bi_sub, cm_lt, cm_le, cm_gt, cm_ge, cm_is, bt_len, bt_lenT, bt_int, bt_list, bt_tuple, bt_min, List.set_cons_zero, List.set_cons_succ, cond_true, cond_false, tg_2, tn_own, pn_o, t2_0, t2_1, av_neg, av_nt, av_cmp, av_ife, av_sli, av_lc, av_dct, av_bop, o_bin, o_neg, lk_0a, lk_1a, lk_2a, tn_fd, tn_ff, tn_fo, tn_fn, pn_ff, pn_fo, bi_div kd, bi_mul km, hvD]
end
abbrev irP1 : IR := .set 9 (.cal 3 (.cons (.lend 0) (.cons irHv (.nil))))
abbrev irP2 : IR := .ifs (.cmp .Gt (.blt .abs (.cons (.bin .Mult (.var 8) (.var 9)) (.nil))) (.bin .Pow (.lit (.int 10)) (.lit (.int 60)))) (.cons (.set 9 (.lit (.int 1))) (.nil)) (.nil)
abbrev irP3 : IR := .setO 4 (.bin .Add (.var 4) (.lst (.cons (.tup (.cons (.var 9) (.cons (.var 8) (.nil)))) (.cons (.tup (.cons (.bin .FloorDiv (.var 7) (.var 9)) (.cons (.bin .Mult (.var 8) (.var 9)) (.nil)))) (.nil)))))
abbrev irP4 : IR := .ifs (.cmp .Eq (.cal 2 (.cons (.lend 0) (.cons (.lit (.int 4)) (.nil)))) (.lit (.int 0))) (.cons (.app 4 (.tup (.cons (.lit (.int 1)) (.cons (.cal 2 (.cons (.lend 0) (.cons (.lit (.int 100)) (.nil)))) (.nil))))) (.nil)) (.nil)
abbrev irPIn : IR := .cons irP1 (.cons irP2 (.cons irP3 (.cons irP4 .nil)))
abbrev irPOut : IR := .cons (.setO 4 (.lst (.nil))) (.cons (.fo (.cons (.nm 7) (.cons (.nm 8) (.nil))) (.iSeq (.var 3)) irPIn) (.cons (.app 2 (.var 4)) (.nil)))
/-- the modes on the way are good -/
structure Ps (ms row : List Md) : Prop where
  e : Eqv ms row
  good : ∀ m ∈ row, GoodM m
  len : row.length ≤ 3 * ms.length
section
variable {a1 a3 a5 a6 : Option SV}
theorem p_step {n : Nat} {ds : List D} {xs : List (List Md)} {ms row : List Md} {m : Md} {R : List Cell} {q : Nat} {a7 a8 a9 a10 : Option SV} (p : Pen n ds) (hn : n ≤ 999980000) (d : Ps ms row) (gm : GoodM m) (hl : ms.length ≤ 1000) (hq : R[q]? = some ⟨.live, row.map md⟩) :
    ∃ (row' : List Md) (ds' : List D) (R' : List Cell) (q' : Nat) (b9 b10 : Option SV), Ps (ms ++ [m]) row' ∧ Pen (n + 3) ds' ∧ R'[q']? = some ⟨.live, row'.map md⟩ ∧
      (den GP irPIn).s [some (.own 0), a1, some (.own 1), a3, some (.own (q + 2)), a5, a6, some (.dat (.int m.1)), some (.dat (.int m.2)), a9, a10] (⟨.arg, ds⟩ :: ⟨.live, xs.map ax⟩ :: R) =
      .nx [some (.own 0), a1, some (.own 1), a3, some (.own (q' + 2)), a5, a6, some (.dat (.int m.1)), some (.dat (.int m.2)), b9, b10] (⟨.arg, ds'⟩ :: ⟨.live, xs.map ax⟩ :: R') := by
  have gt : GP.ces[2]? = some c2 := rfl
  have go : GP.ces[3]? = some c3 := rfl
  have s0 := gm.s0
  have s1 := gm.s1
  obtain ⟨dd, ds1, hd, p1, q1⟩ := call_one (st := .arg) (by decide) p (by omega) (L := hv m.1) (hv_len _).1 (hv_len _).2 (⟨.live, xs.map ax⟩ :: R)
  obtain ⟨o, rfl, o0, o1, oe⟩ := hv_mem hd
  have k60 : okPow 10 60 = true := by decide
  have e60 : (10 : Int) ^ (60 : Int).toNat = 1000000000000000000000000000000000000000000000000000000000000 := by decide
  have x1 : (den GP irP1).s [some (.own 0), a1, some (.own 1), a3, some (.own (q + 2)), a5, a6, some (.dat (.int m.1)), some (.dat (.int m.2)), a9, a10] (⟨.arg, ds⟩ :: ⟨.live, xs.map ax⟩ :: R) = .nx [some (.own 0), a1, some (.own 1), a3, some (.own (q + 2)), a5, a6, some (.dat (.int m.1)), some (.dat (.int m.2)), some (.dat (.int o)), a10] (⟨.arg, ds1⟩ :: ⟨.live, xs.map ax⟩ :: R) := by
    have := hv_sem (a1 := a1) (a2 := some (.own 1)) (a3 := a3) (a4 := some (.own (q + 2))) (a5 := a5) (a6 := a6) (a8 := some (.dat (.int m.2))) (a9 := a9) (a10 := a10) s0 s1 (μ := ⟨.arg, ds⟩ :: ⟨.live, xs.map ax⟩ :: R)
    simp only [b_ok, b_exc, st_ok, st_exc, sq_nx, sq_rt, sq_bk, sq_ct, sq_exc, of_some, nox_ok, lk_dat, lk_fre, kp_dat, kp_fre, asB_b, asI_i, dB_, tR, s_nil, s_cons, s_pass, s_ret, s_xpr, s_set, s_setO, s_unp, s_sti, s_ifs, s_fo, s_rai, e_var, e_lit, e_dct, e_glb, e_bin, e_neg, e_nt, e_cmp, e_chn, e_bop, c_one, c_and, c_or, e_ife, e_tup, e_lst, e_idx, e_sli, e_blt, e_isi, k_nil, k_cons, bl_nil, bl_cons, a_nil, a_cons, o_nil, o_var, o_lit, intO_i, av_dat, av_fre, av_own, av_var, av_lit, av_glb, av_bin, av_idx, av_lst, av_tup, av_cal, av_blt, av_lend, i_seq, i_rng, sl_0, sl_s, lks_nil, s_par, pn_nil, pn_f, pn_t, st_nil, st_cons, s_app2, ow_0, ow_s, cm_eqi, cm_nei, cm_nes, cm_eqs, cm_neb, rv_dat, rv_fre, lk_0, lk_1, lk_2, i3_0, i3_1, i3_2, t3_1, t3_2, ka_dat, ka_fre, ka_own, tn_fre, tg_nm, bi_add, bi_sub, cm_lt, cm_le, cm_gt, cm_ge, cm_is, bt_len, bt_lenT, bt_int, bt_list, bt_tuple, bt_min, List.set_cons_zero, List.set_cons_succ, cond_true, cond_false, tg_2, tn_own, pn_o, t2_0, t2_1, av_neg, av_nt, av_cmp, av_ife, av_sli, av_lc, av_dct, av_bop, o_bin, o_neg, lk_0a, lk_1a, lk_2a, tn_fd, tn_ff, tn_fo, tn_fn, pn_ff, pn_fo, e_cal go, this, q1]
  have ko : okMul m.2 o = true := okMul_of (b := 64) gm.a2 (by omega) (by decide) (by decide) (by decide)
  obtain ⟨h, h0, h1, he, hb0, hb1, x2⟩ : ∃ h : Int, 1 ≤ h ∧ h ≤ 10 ∧ m.1 / h * h = m.1 ∧ -M60 ≤ m.2 * h ∧ m.2 * h ≤ M60 ∧ (den GP irP2).s [some (.own 0), a1, some (.own 1), a3, some (.own (q + 2)), a5, a6, some (.dat (.int m.1)), some (.dat (.int m.2)), some (.dat (.int o)), a10] (⟨.arg, ds1⟩ :: ⟨.live, xs.map ax⟩ :: R) = .nx [some (.own 0), a1, some (.own 1), a3, some (.own (q + 2)), a5, a6, some (.dat (.int m.1)), some (.dat (.int m.2)), some (.dat (.int h)), a10] (⟨.arg, ds1⟩ :: ⟨.live, xs.map ax⟩ :: R) := by
    by_cases hc : 1000000000000000000000000000000000000000000000000000000000000 < (if m.2 * o < 0 then -(m.2 * o) else m.2 * o)
    · refine ⟨1, by decide, by decide, by rw [Int.ediv_one, Int.mul_one], by rw [Int.mul_one]; exact gm.t0, by rw [Int.mul_one]; exact gm.t1, ?_⟩
      simp only [b_ok, b_exc, st_ok, st_exc, sq_nx, sq_rt, sq_bk, sq_ct, sq_exc, of_some, nox_ok, lk_dat, lk_fre, kp_dat, kp_fre, asB_b, asI_i, dB_, tR, s_nil, s_cons, s_pass, s_ret, s_xpr, s_set, s_setO, s_unp, s_sti, s_ifs, s_fo, s_rai, e_var, e_lit, e_dct, e_glb, e_bin, e_neg, e_nt, e_cmp, e_chn, e_bop, c_one, c_and, c_or, e_ife, e_tup, e_lst, e_idx, e_sli, e_blt, e_isi, k_nil, k_cons, bl_nil, bl_cons, a_nil, a_cons, o_nil, o_var, o_lit, intO_i, av_dat, av_fre, av_own, av_var, av_lit, av_glb, av_bin, av_idx, av_lst, av_tup, av_cal, av_blt, av_lend, i_seq, i_rng, sl_0, sl_s, lks_nil, s_par, pn_nil, pn_f, pn_t, st_nil, st_cons, s_app2, ow_0, ow_s, cm_eqi, cm_nei, cm_nes, cm_eqs, cm_neb, rv_dat, rv_fre, lk_0, lk_1, lk_2, i3_0, i3_1, i3_2, t3_1, t3_2, ka_dat, ka_fre, ka_own, tn_fre, tg_nm, bi_add, bi_sub, cm_lt, cm_le, cm_gt, cm_ge, cm_is, bt_len, bt_lenT, bt_int, bt_list, bt_tuple, bt_min, List.set_cons_zero, List.set_cons_succ, cond_true, cond_false, tg_2, tn_own, pn_o, t2_0, t2_1, av_neg, av_nt, av_cmp, av_ife, av_sli, av_lc, av_dct, av_bop, o_bin, o_neg, lk_0a, lk_1a, lk_2a, tn_fd, tn_ff, tn_fo, tn_fn, pn_ff, pn_fo, bi_mul ko, lks_dat lks_nil, bt_abs, bi_pow k60, e60, decide_eq_true hc]
    · have hc2 : ¬ M60 < (if m.2 * o < 0 then -(m.2 * o) else m.2 * o) := hc
      have hm : (0 : Int) ≤ M60 := by decide
      refine ⟨o, o0, o1, oe, by split at hc2 <;> omega, by split at hc2 <;> omega, ?_⟩
      simp only [b_ok, b_exc, st_ok, st_exc, sq_nx, sq_rt, sq_bk, sq_ct, sq_exc, of_some, nox_ok, lk_dat, lk_fre, kp_dat, kp_fre, asB_b, asI_i, dB_, tR, s_nil, s_cons, s_pass, s_ret, s_xpr, s_set, s_setO, s_unp, s_sti, s_ifs, s_fo, s_rai, e_var, e_lit, e_dct, e_glb, e_bin, e_neg, e_nt, e_cmp, e_chn, e_bop, c_one, c_and, c_or, e_ife, e_tup, e_lst, e_idx, e_sli, e_blt, e_isi, k_nil, k_cons, bl_nil, bl_cons, a_nil, a_cons, o_nil, o_var, o_lit, intO_i, av_dat, av_fre, av_own, av_var, av_lit, av_glb, av_bin, av_idx, av_lst, av_tup, av_cal, av_blt, av_lend, i_seq, i_rng, sl_0, sl_s, lks_nil, s_par, pn_nil, pn_f, pn_t, st_nil, st_cons, s_app2, ow_0, ow_s, cm_eqi, cm_nei, cm_nes, cm_eqs, cm_neb, rv_dat, rv_fre, lk_0, lk_1, lk_2, i3_0, i3_1, i3_2, t3_1, t3_2, ka_dat, ka_fre, ka_own, tn_fre, tg_nm, bi_add, bi_sub, cm_lt, cm_le, cm_gt, cm_ge, cm_is, bt_len, bt_lenT, bt_int, bt_list, bt_tuple, bt_min, List.set_cons_zero, List.set_cons_succ, cond_true, cond_false, tg_2, tn_own, pn_o, t2_0, t2_1, av_neg, av_nt, av_cmp, av_ife, av_sli, av_lc, av_dct, av_bop, o_bin, o_neg, lk_0a, lk_1a, lk_2a, tn_fd, tn_ff, tn_fo, tn_fn, pn_ff, pn_fo, bi_mul ko, lks_dat lks_nil, bt_abs, bi_pow k60, e60, decide_eq_false hc]
  have kd : okDiv h = true := okDiv_of (b := 64) (by omega) (by omega) (by decide) (by decide)
  have kh : okMul m.2 h = true := okMul_of (b := 64) gm.a2 (by omega) (by decide) (by decide) (by decide)
  have lk : look1 (.own (q + 2)) (⟨.arg, ds1⟩ :: ⟨.live, xs.map ax⟩ :: R) = .ok (.list (row.map md)) (⟨.arg, ds1⟩ :: ⟨.live, xs.map ax⟩ :: R) := lk_own (c := ⟨.live, row.map md⟩) (by simpa using hq)
  have hrl := d.len
  have hc : bin2 .Add (.list (row.map md)) (.list [.tuple [.int h, .int m.2], .tuple [.int (m.1 / h), .int (m.2 * h)]]) = some (.fre (row.map md ++ [.tuple [.int h, .int m.2], .tuple [.int (m.1 / h), .int (m.2 * h)]])) := bi_cat (size7 (by simp; omega))
  have hmap : row.map md ++ [.tuple [.int h, .int m.2], .tuple [.int (m.1 / h), .int (m.2 * h)]] = (row ++ [(h, m.2), (m.1 / h, m.2 * h)]).map md := by simp
  rw [hmap] at hc
  have x3 : (den GP irP3).s [some (.own 0), a1, some (.own 1), a3, some (.own (q + 2)), a5, a6, some (.dat (.int m.1)), some (.dat (.int m.2)), some (.dat (.int h)), a10] (⟨.arg, ds1⟩ :: ⟨.live, xs.map ax⟩ :: R) = .nx [some (.own 0), a1, some (.own 1), a3, some (.own (R.length + 2)), a5, a6, some (.dat (.int m.1)), some (.dat (.int m.2)), some (.dat (.int h)), a10] (⟨.arg, ds1⟩ :: ⟨.live, xs.map ax⟩ :: (R ++ [⟨.live, (row ++ [(h, m.2), (m.1 / h, m.2 * h)]).map md⟩])) := by
    have hlen : (⟨.arg, ds1⟩ :: ⟨.live, xs.map ax⟩ :: R : List Cell).length = R.length + 2 := rfl
    simp only [b_ok, b_exc, st_ok, st_exc, sq_nx, sq_rt, sq_bk, sq_ct, sq_exc, of_some, nox_ok, lk_dat, lk_fre, kp_dat, kp_fre, asB_b, asI_i, dB_, tR, s_nil, s_cons, s_pass, s_ret, s_xpr, s_set, s_setO, s_unp, s_sti, s_ifs, s_fo, s_rai, e_var, e_lit, e_dct, e_glb, e_bin, e_neg, e_nt, e_cmp, e_chn, e_bop, c_one, c_and, c_or, e_ife, e_tup, e_lst, e_idx, e_sli, e_blt, e_isi, k_nil, k_cons, bl_nil, bl_cons, a_nil, a_cons, o_nil, o_var, o_lit, intO_i, av_dat, av_fre, av_own, av_var, av_lit, av_glb, av_bin, av_idx, av_lst, av_tup, av_cal, av_blt, av_lend, i_seq, i_rng, sl_0, sl_s, lks_nil, s_par, pn_nil, pn_f, pn_t, st_nil, st_cons, s_app2, ow_0, ow_s, cm_eqi, cm_nei, cm_nes, cm_eqs, cm_neb, rv_dat, rv_fre, lk_0, lk_1, lk_2, i3_0, i3_1, i3_2, t3_1, t3_2, ka_dat, ka_fre, ka_own, tn_fre, tg_nm, bi_add, bi_sub, cm_lt, cm_le, cm_gt, cm_ge, cm_is, bt_len, bt_lenT, bt_int, bt_list, bt_tuple, bt_min, List.set_cons_zero, List.set_cons_succ, cond_true, cond_false, tg_2, tn_own, pn_o, t2_0, t2_1, av_neg, av_nt, av_cmp, av_ife, av_sli, av_lc, av_dct, av_bop, o_bin, o_neg, lk_0a, lk_1a, lk_2a, tn_fd, tn_ff, tn_fo, tn_fn, pn_ff, pn_fo, lk, bi_div kd, bi_mul kh, hc, hlen, List.cons_append]
  have g2 : 1 ≤ m.1 / h := by
    have : 0 ≤ m.1 / h := Int.ediv_nonneg (by omega) (by omega)
    rcases Int.lt_or_eq_of_le this with q | q
    · omega
    · rw [← q] at he
      omega
  have g3 : m.1 / h ≤ m.1 := Int.ediv_le_self _ (by omega)
  have ev : Eqv (ms ++ [m]) (row ++ [(h, m.2), (m.1 / h, m.2 * h)]) := d.e.app (eqv_part (m := m.1) (d := m.2) h0 s0 he)
  have hM : (10 : Int) ≤ M40 := by decide
  have gd : ∀ x ∈ row ++ [(h, m.2), (m.1 / h, m.2 * h)], GoodM x := fun x hx => by
    rcases List.mem_append.mp hx with hx | hx
    · exact d.good x hx
    · simp only [List.mem_cons, List.not_mem_nil, or_false] at hx
      rcases hx with rfl | rfl
      · exact ⟨h0, by show h ≤ M40; omega, gm.t0, gm.t1⟩
      · exact ⟨g2, by show m.1 / h ≤ M40; omega, hb0, hb1⟩
  obtain ⟨r, ds2, r0, r1, p2, q2⟩ := call_take (st := .arg) (by decide) p1 (by omega) (m := 4) (by omega) (by decide) (⟨.live, xs.map ax⟩ :: (R ++ [⟨.live, (row ++ [(h, m.2), (m.1 / h, m.2 * h)]).map md⟩]))
  by_cases hr : r = 0
  · obtain ⟨u, ds3, u0, u1, p3, q3⟩ := call_take (st := .arg) (by decide) p2 (by omega) (m := 100) (by omega) (by decide) (⟨.live, xs.map ax⟩ :: (R ++ [⟨.live, (row ++ [(h, m.2), (m.1 / h, m.2 * h)]).map md⟩]))
    have ka : appR (R.length + 2) (.tuple [.int 1, .int u]) (⟨.arg, ds3⟩ :: ⟨.live, xs.map ax⟩ :: (R ++ [⟨.live, (row ++ [(h, m.2), (m.1 / h, m.2 * h)]).map md⟩])) = some (⟨.arg, ds3⟩ :: ⟨.live, xs.map ax⟩ :: (R ++ [⟨.live, (row ++ [(h, m.2), (m.1 / h, m.2 * h)] ++ [(1, u)]).map md⟩])) := by
      rw [app_of (c := ⟨.live, (row ++ [(h, m.2), (m.1 / h, m.2 * h)]).map md⟩) (by simp) (fun z => nomatch z) (by simp; omega)]
      simp
    have hm2 : (100 : Int) ≤ M60 := by decide
    have hm1 : (1 : Int) ≤ M40 := by decide
    refine ⟨row ++ [(h, m.2), (m.1 / h, m.2 * h)] ++ [(1, u)], ds3, R ++ [⟨.live, (row ++ [(h, m.2), (m.1 / h, m.2 * h)] ++ [(1, u)]).map md⟩], R.length, some (.dat (.int h)), a10, ⟨eqv_one ev, fun x hx => ?_, by simp; omega⟩, p3, by simp, ?_⟩
    · rcases List.mem_append.mp hx with hx | hx
      · exact gd x hx
      · rw [List.mem_singleton.mp hx]
        exact ⟨by show (1 : Int) ≤ 1; omega, hm1, by show -M60 ≤ u; omega, by show u ≤ M60; omega⟩
    · have hr' : decide (r = 0) = true := decide_eq_true hr
      rw [s_cons, x1, sq_nx, s_cons, x2, sq_nx, s_cons, x3, sq_nx, s_cons]
      simp only [b_ok, b_exc, st_ok, st_exc, sq_nx, sq_rt, sq_bk, sq_ct, sq_exc, of_some, nox_ok, lk_dat, lk_fre, kp_dat, kp_fre, asB_b, asI_i, dB_, tR, s_nil, s_cons, s_pass, s_ret, s_xpr, s_set, s_setO, s_unp, s_sti, s_ifs, s_fo, s_rai, e_var, e_lit, e_dct, e_glb, e_bin, e_neg, e_nt, e_cmp, e_chn, e_bop, c_one, c_and, c_or, e_ife, e_tup, e_lst, e_idx, e_sli, e_blt, e_isi, k_nil, k_cons, bl_nil, bl_cons, a_nil, a_cons, o_nil, o_var, o_lit, intO_i, av_dat, av_fre, av_own, av_var, av_lit, av_glb, av_bin, av_idx, av_lst, av_tup, av_cal, av_blt, av_lend, i_seq, i_rng, sl_0, sl_s, lks_nil, s_par, pn_nil, pn_f, pn_t, st_nil, st_cons, s_app2, ow_0, ow_s, cm_eqi, cm_nei, cm_nes, cm_eqs, cm_neb, rv_dat, rv_fre, lk_0, lk_1, lk_2, i3_0, i3_1, i3_2, t3_1, t3_2, ka_dat, ka_fre, ka_own, tn_fre, tg_nm, bi_add, bi_sub, cm_lt, cm_le, cm_gt, cm_ge, cm_is, bt_len, bt_lenT, bt_int, bt_list, bt_tuple, bt_min, List.set_cons_zero, List.set_cons_succ, cond_true, cond_false, tg_2, tn_own, pn_o, t2_0, t2_1, av_neg, av_nt, av_cmp, av_ife, av_sli, av_lc, av_dct, av_bop, o_bin, o_neg, lk_0a, lk_1a, lk_2a, tn_fd, tn_ff, tn_fo, tn_fn, pn_ff, pn_fo, e_cal gt, q2, q3, hr', ka]
  · have hr' : decide (r = 0) = false := decide_eq_false hr
    refine ⟨row ++ [(h, m.2), (m.1 / h, m.2 * h)], ds2, R ++ [⟨.live, (row ++ [(h, m.2), (m.1 / h, m.2 * h)]).map md⟩], R.length, some (.dat (.int h)), a10, ⟨ev, gd, by simp; omega⟩, p2.mono (by omega), by simp, ?_⟩
    rw [s_cons, x1, sq_nx, s_cons, x2, sq_nx, s_cons, x3, sq_nx, s_cons]
    simp only [b_ok, b_exc, st_ok, st_exc, sq_nx, sq_rt, sq_bk, sq_ct, sq_exc, of_some, nox_ok, lk_dat, lk_fre, kp_dat, kp_fre, asB_b, asI_i, dB_, tR, s_nil, s_cons, s_pass, s_ret, s_xpr, s_set, s_setO, s_unp, s_sti, s_ifs, s_fo, s_rai, e_var, e_lit, e_dct, e_glb, e_bin, e_neg, e_nt, e_cmp, e_chn, e_bop, c_one, c_and, c_or, e_ife, e_tup, e_lst, e_idx, e_sli, e_blt, e_isi, k_nil, k_cons, bl_nil, bl_cons, a_nil, a_cons, o_nil, o_var, o_lit, intO_i, av_dat, av_fre, av_own, av_var, av_lit, av_glb, av_bin, av_idx, av_lst, av_tup, av_cal, av_blt, av_lend, i_seq, i_rng, sl_0, sl_s, lks_nil, s_par, pn_nil, pn_f, pn_t, st_nil, st_cons, s_app2, ow_0, ow_s, cm_eqi, cm_nei, cm_nes, cm_eqs, cm_neb, rv_dat, rv_fre, lk_0, lk_1, lk_2, i3_0, i3_1, i3_2, t3_1, t3_2, ka_dat, ka_fre, ka_own, tn_fre, tg_nm, bi_add, bi_sub, cm_lt, cm_le, cm_gt, cm_ge, cm_is, bt_len, bt_lenT, bt_int, bt_list, bt_tuple, bt_min, List.set_cons_zero, List.set_cons_succ, cond_true, cond_false, tg_2, tn_own, pn_o, t2_0, t2_1, av_neg, av_nt, av_cmp, av_ife, av_sli, av_lc, av_dct, av_bop, o_bin, o_neg, lk_0a, lk_1a, lk_2a, tn_fd, tn_ff, tn_fo, tn_fn, pn_ff, pn_fo, e_cal gt, q2, hr']
theorem p_loop : ∀ (rest : List Md) {n : Nat} {ds : List D} {xs : List (List Md)} {ms row : List Md} {R : List Cell} {q : Nat} {a7 a8 a9 a10 : Option SV}, Pen n ds → n + 3 * rest.length ≤ 999970000 → Ps ms row → (∀ m ∈ rest, GoodM m) → ms.length + rest.length ≤ 1000 → R[q]? = some ⟨.live, row.map md⟩ →
    ∃ (row' : List Md) (ds' : List D) (R' : List Cell) (q' : Nat) (b7 b8 b9 b10 : Option SV), Ps (ms ++ rest) row' ∧ Pen (n + 3 * rest.length) ds' ∧ R'[q']? = some ⟨.live, row'.map md⟩ ∧
      forR (Tg.cons (.nm 7) (.cons (.nm 8) .nil)).f.one (den GP irPIn).s (rest.map md) [some (.own 0), a1, some (.own 1), a3, some (.own (q + 2)), a5, a6, a7, a8, a9, a10] (⟨.arg, ds⟩ :: ⟨.live, xs.map ax⟩ :: R) =
      .nx [some (.own 0), a1, some (.own 1), a3, some (.own (q' + 2)), a5, a6, b7, b8, b9, b10] (⟨.arg, ds'⟩ :: ⟨.live, xs.map ax⟩ :: R')
  | [], n, ds, xs, ms, row, R, q, a7, a8, a9, a10, p, _, d, _, _, hq => ⟨row, ds, R, q, a7, a8, a9, a10, by rw [List.append_nil]; exact d, p, hq, rfl⟩
  | m :: rest, n, ds, xs, ms, row, R, q, a7, a8, a9, a10, p, hn, d, g, hl, hq => by
    rw [List.length_cons] at hn hl
    obtain ⟨row1, ds1, R1, q1, b9, b10, d1, p1, h1, e1⟩ := p_step (a1 := a1) (a3 := a3) (a5 := a5) (a6 := a6) (xs := xs) (m := m) (a7 := a7) (a8 := a8) (a9 := a9) (a10 := a10) p (by omega) d (g m (List.mem_cons_self ..)) (by omega) hq
    obtain ⟨row', ds', R', q', c7, c8, c9, c10, d', p', h', e'⟩ := p_loop rest (a7 := some (.dat (.int m.1))) (a8 := some (.dat (.int m.2))) (a9 := b9) (a10 := b10) p1 (by omega) d1 (fun x hx => g x (List.mem_cons_of_mem _ hx)) (by simp; omega) h1
    refine ⟨row', ds', R', q', c7, c8, c9, c10, by simpa using d', p'.mono (by rw [List.length_cons]; omega), h', ?_⟩
    rw [← e']
    exact for_nx rfl e1
end
section
variable {a1 : Option SV}
theorem p_out {n : Nat} {ds : List D} {xs : List (List Md)} {ms : List Md} {R : List Cell} {a4 a5 a6 a7 a8 a9 a10 : Option SV} (p : Pen n ds) (hn : n ≤ 999960000) (g : ∀ m ∈ ms, GoodM m) (hl : ms.length ≤ 1000) (hx : xs.length ≤ 1000) :
    ∃ (row : List Md) (ds' : List D) (R' : List Cell) (b4 b7 b8 b9 b10 : Option SV), Ps ms row ∧ Pen (n + 3 * ms.length) ds' ∧
      (den GP irPOut).s [some (.own 0), a1, some (.own 1), some (.dat (ax ms)), a4, a5, a6, a7, a8, a9, a10] (⟨.arg, ds⟩ :: ⟨.live, xs.map ax⟩ :: R) =
      .nx [some (.own 0), a1, some (.own 1), some (.dat (ax ms)), b4, a5, a6, b7, b8, b9, b10] (⟨.arg, ds'⟩ :: ⟨.live, (xs ++ [row]).map ax⟩ :: R') := by
  have hq : (R ++ [(⟨.live, ([] : List Md).map md⟩ : Cell)])[R.length]? = some ⟨.live, ([] : List Md).map md⟩ := by simp
  have d0 : Ps [] [] := ⟨Eqv.refl (fun _ h => nomatch h), (fun _ h => nomatch h), by simp⟩
  obtain ⟨row, ds2, R2, q2, b7, b8, b9, b10, d2, p2, h2, e2⟩ := p_loop (a1 := a1) (a3 := some (.dat (ax ms))) (a5 := a5) (a6 := a6) ms (xs := xs) (q := R.length) (a7 := a7) (a8 := a8) (a9 := a9) (a10 := a10) p (by omega) d0 g (by simp; omega) hq
  simp only [List.map_nil] at e2
  have hlen : (⟨.arg, ds⟩ :: ⟨.live, xs.map ax⟩ :: R : List Cell).length = R.length + 2 := rfl
  have kp : (SV.own (q2 + 2)).keep (⟨.arg, ds2⟩ :: ⟨.live, xs.map ax⟩ :: R2) = .ok (ax row) (⟨.arg, ds2⟩ :: ⟨.live, xs.map ax⟩ :: R2.set q2 ⟨.froz, row.map md⟩) := fz_of (by simpa using h2)
  have ka : appR 1 (ax row) (⟨.arg, ds2⟩ :: ⟨.live, xs.map ax⟩ :: R2.set q2 ⟨.froz, row.map md⟩) = some (⟨.arg, ds2⟩ :: ⟨.live, (xs ++ [row]).map ax⟩ :: R2.set q2 ⟨.froz, row.map md⟩) := by
    rw [app_of (c := ⟨.live, xs.map ax⟩) rfl (fun z => nomatch z) (by rw [List.length_map]; omega)]
    simp
  refine ⟨row, ds2, R2.set q2 ⟨.froz, row.map md⟩, some (.own (q2 + 2)), b7, b8, b9, b10, d2, p2, ?_⟩
  have ei : ∀ (ρ : Rho) (μ : List Cell), (den GP (.iSeq (.var 3))).i [some (.own 0), a1, some (.own 1), some (.dat (ax ms)), some (.own (R.length + 2)), a5, a6, a7, a8, a9, a10] μ = .ok (ms.map md) μ := fun ρ μ => by
    simp only [b_ok, b_exc, st_ok, st_exc, sq_nx, sq_rt, sq_bk, sq_ct, sq_exc, of_some, nox_ok, lk_dat, lk_fre, kp_dat, kp_fre, asB_b, asI_i, dB_, tR, s_nil, s_cons, s_pass, s_ret, s_xpr, s_set, s_setO, s_unp, s_sti, s_ifs, s_fo, s_rai, e_var, e_lit, e_dct, e_glb, e_bin, e_neg, e_nt, e_cmp, e_chn, e_bop, c_one, c_and, c_or, e_ife, e_tup, e_lst, e_idx, e_sli, e_blt, e_isi, k_nil, k_cons, bl_nil, bl_cons, a_nil, a_cons, o_nil, o_var, o_lit, intO_i, av_dat, av_fre, av_own, av_var, av_lit, av_glb, av_bin, av_idx, av_lst, av_tup, av_cal, av_blt, av_lend, i_seq, i_rng, sl_0, sl_s, lks_nil, s_par, pn_nil, pn_f, pn_t, st_nil, st_cons, s_app2, ow_0, ow_s, cm_eqi, cm_nei, cm_nes, cm_eqs, cm_neb, rv_dat, rv_fre, lk_0, lk_1, lk_2, i3_0, i3_1, i3_2, t3_1, t3_2, ka_dat, ka_fre, ka_own, tn_fre, tg_nm, bi_add, bi_sub, cm_lt, cm_le, cm_gt, cm_ge, cm_is, bt_len, bt_lenT, bt_int, bt_list, bt_tuple, bt_min, List.set_cons_zero, List.set_cons_succ, cond_true, cond_false, tg_2, tn_own, pn_o, t2_0, t2_1, av_neg, av_nt, av_cmp, av_ife, av_sli, av_lc, av_dct, av_bop, o_bin, o_neg, lk_0a, lk_1a, lk_2a, tn_fd, tn_ff, tn_fo, tn_fn, pn_ff, pn_fo, itemsD]
  rw [s_cons]
  simp only [s_setO, e_lst, k_nil, b_ok, tn_fre, st_ok, sq_nx, hlen, List.cons_append, List.set_cons_zero, List.set_cons_succ]
  rw [s_cons, s_fo, ei [], st_ok, show forR (Tg.cons (.nm 7) (.cons (.nm 8) .nil)).f.one (den GP irPIn).s (ms.map md) _ _ = _ from e2, sq_nx]
  simp only [b_ok, b_exc, st_ok, st_exc, sq_nx, sq_rt, sq_bk, sq_ct, sq_exc, of_some, nox_ok, lk_dat, lk_fre, kp_dat, kp_fre, asB_b, asI_i, dB_, tR, s_nil, s_cons, s_pass, s_ret, s_xpr, s_set, s_setO, s_unp, s_sti, s_ifs, s_fo, s_rai, e_var, e_lit, e_dct, e_glb, e_bin, e_neg, e_nt, e_cmp, e_chn, e_bop, c_one, c_and, c_or, e_ife, e_tup, e_lst, e_idx, e_sli, e_blt, e_isi, k_nil, k_cons, bl_nil, bl_cons, a_nil, a_cons, o_nil, o_var, o_lit, intO_i, av_dat, av_fre, av_own, av_var, av_lit, av_glb, av_bin, av_idx, av_lst, av_tup, av_cal, av_blt, av_lend, i_seq, i_rng, sl_0, sl_s, lks_nil, s_par, pn_nil, pn_f, pn_t, st_nil, st_cons, s_app2, ow_0, ow_s, cm_eqi, cm_nei, cm_nes, cm_eqs, cm_neb, rv_dat, rv_fre, lk_0, lk_1, lk_2, i3_0, i3_1, i3_2, t3_1, t3_2, ka_dat, ka_fre, ka_own, tn_fre, tg_nm, bi_add, bi_sub, cm_lt, cm_le, cm_gt, cm_ge, cm_is, bt_len, bt_lenT, bt_int, bt_list, bt_tuple, bt_min, List.set_cons_zero, List.set_cons_succ, cond_true, cond_false, tg_2, tn_own, pn_o, t2_0, t2_1, av_neg, av_nt, av_cmp, av_ife, av_sli, av_lc, av_dct, av_bop, o_bin, o_neg, lk_0a, lk_1a, lk_2a, tn_fd, tn_ff, tn_fo, tn_fn, pn_ff, pn_fo, kp, ka]
/-- the axes on the way -/
structure Pa (as xs : List (List Md)) : Prop where
  e : Eqv as.flatten xs.flatten
  good : ∀ m ∈ xs.flatten, GoodM m
  len : xs.flatten.length ≤ 3 * as.flatten.length
  ax : xs.length = as.length
theorem p_outs : ∀ (rest : List (List Md)) {n : Nat} {ds : List D} {as xs : List (List Md)} {R : List Cell} {a3 a4 a5 a6 a7 a8 a9 a10 : Option SV}, Pen n ds → n + 3 * rest.flatten.length ≤ 999950000 → Pa as xs → (∀ m ∈ rest.flatten, GoodM m) → rest.flatten.length ≤ 1000 → as.length + rest.length ≤ 1000 →
    ∃ (xs' : List (List Md)) (ds' : List D) (R' : List Cell) (b3 b4 b7 b8 b9 b10 : Option SV), Pa (as ++ rest) xs' ∧ Pen (n + 3 * rest.flatten.length) ds' ∧
      forR (Tg.nm 3).f.one (den GP irPOut).s (rest.map ax) [some (.own 0), a1, some (.own 1), a3, a4, a5, a6, a7, a8, a9, a10] (⟨.arg, ds⟩ :: ⟨.live, xs.map ax⟩ :: R) =
      .nx [some (.own 0), a1, some (.own 1), b3, b4, a5, a6, b7, b8, b9, b10] (⟨.arg, ds'⟩ :: ⟨.live, xs'.map ax⟩ :: R')
  | [], n, ds, as, xs, R, a3, a4, a5, a6, a7, a8, a9, a10, p, _, d, _, _, _ => ⟨xs, ds, R, a3, a4, a7, a8, a9, a10, by rw [List.append_nil]; exact d, p, rfl⟩
  | ms :: rest, n, ds, as, xs, R, a3, a4, a5, a6, a7, a8, a9, a10, p, hn, d, g, hl, hx => by
    rw [List.flatten_cons, List.length_append] at hn hl
    rw [List.length_cons] at hx
    have hax := d.ax
    have hlen := d.len
    rw [List.flatten_cons] at g
    obtain ⟨row, ds1, R1, b4, b7, b8, b9, b10, d1, p1, e1⟩ := p_out (a1 := a1) (xs := xs) (ms := ms) (R := R) (a4 := a4) (a5 := a5) (a6 := a6) (a7 := a7) (a8 := a8) (a9 := a9) (a10 := a10) p (by omega) (fun m hm => g m (List.mem_append_left _ hm)) (by omega) (by omega)
    have d1l := d1.len
    have pn : Pa (as ++ [ms]) (xs ++ [row]) := ⟨by rw [List.flatten_append, List.flatten_append]; simpa using d.e.app d1.e, fun m hm => by
      rw [List.flatten_append] at hm
      rcases List.mem_append.mp hm with q | q
      · exact d.good m q
      · exact d1.good m (by simpa using q), by simp at hlen ⊢; omega, by simp [hax]⟩
    obtain ⟨xs', ds', R', c3, c4, c7, c8, c9, c10, d', p', e'⟩ := p_outs rest (R := R1) (a3 := some (.dat (ax ms))) (a4 := b4) (a5 := a5) (a6 := a6) (a7 := b7) (a8 := b8) (a9 := b9) (a10 := b10) p1 (by omega) pn (fun m hm => g m (List.mem_append_right _ hm)) (by omega) (by simp; omega)
    refine ⟨xs', ds', R', c3, c4, c7, c8, c9, c10, by simpa using d', p'.mono (by rw [List.flatten_cons, List.length_append]; omega), ?_⟩
    rw [← e']
    exact for_nx rfl e1
end
abbrev irPEnd : IR := .ret (.ife (.cmp .LtE (.blt .len (.cons (.var 2) (.nil))) (.lit (.int 8))) (.sli (.var 2) (.nil) (.lit (.int 8))) (.var 1))
abbrev irPCut : IR := .ifs (.bop .And (.cons (.cmp .NotEq (.var 2) (.lst (.nil))) (.cons (.cmp .Eq (.cal 2 (.cons (.lend 0) (.cons (.lit (.int 3)) (.nil)))) (.lit (.int 0))) (.nil)))) (.cons (.set 5 (.cal 2 (.cons (.lend 0) (.cons (.blt .len (.cons (.var 2) (.nil))) (.nil))))) (.cons (.set 6 (.cal 2 (.cons (.lend 0) (.cons (.bin .Add (.blt .len (.cons (.idx (.var 2) (.var 5)) (.nil))) (.lit (.int 1))) (.nil))))) (.cons (.setO 2 (.bin .Add (.bin .Add (.sli (.var 2) (.nil) (.var 5)) (.lst (.cons (.sli (.idx (.var 2) (.var 5)) (.nil) (.var 6)) (.cons (.sli (.idx (.var 2) (.var 5)) (.var 6) (.nil)) (.nil))))) (.sli (.var 2) (.bin .Add (.var 5) (.lit (.int 1))) (.nil)))) (.nil)))) (.nil)
theorem drop_pre {α : Type} : ∀ (a : List α) (x : α) (b : List α), (a ++ x :: b).drop (a.length + 1) = b
  | [], _, _ => rfl
  | _ :: a, x, b => drop_pre a x b
theorem split_at {α : Type} {xs : List α} {i : Nat} (h : i < xs.length) : ∃ pre x post, xs = pre ++ x :: post ∧ pre.length = i := by
  refine ⟨xs.take i, xs[i], xs.drop (i + 1), ?_, by rw [List.length_take]; omega⟩
  rw [← List.drop_eq_getElem_cons h, List.take_append_drop]
theorem p_cut {n : Nat} {ds : List D} {xs : List (List Md)} {R : List Cell} {a1 a3 a4 a5 a6 a7 a8 a9 a10 : Option SV} (p : Pen n ds) (hn : n ≤ 999940000) (hx : xs.length ≤ 900) (hf : xs.flatten.length ≤ 10000) :
    ∃ (xs' : List (List Md)) (ds' : List D) (μ' : List Cell) (k : Nat) (b5 b6 : Option SV), xs'.flatten = xs.flatten ∧ xs'.length ≤ 1000 ∧ Pen (n + 3) ds' ∧ μ'[k + 1]? = some ⟨.live, xs'.map ax⟩ ∧ μ'[0]? = some ⟨.arg, ds'⟩ ∧
      (den GP irPCut).s [some (.own 0), a1, some (.own 1), a3, a4, a5, a6, a7, a8, a9, a10] (⟨.arg, ds⟩ :: ⟨.live, xs.map ax⟩ :: R) = .nx [some (.own 0), a1, some (.own (k + 1)), a3, a4, b5, b6, a7, a8, a9, a10] μ' := by
  have gt : GP.ces[2]? = some c2 := rfl
  have cn : cmp2 .NotEq (.list (xs.map ax)) (.list []) = some (!(xs.map ax).isEmpty) := cm_neNil (sh_axs xs)
  cases hxs : xs with
  | nil =>
    refine ⟨[], ds, ⟨.arg, ds⟩ :: ⟨.live, []⟩ :: R, 0, a5, a6, rfl, by simp, p.mono (by omega), rfl, rfl, ?_⟩
    rw [hxs] at cn
    have cn' : cmp2 .NotEq (.list ([] : List D)) (.list []) = some false := cn
    simp only [b_ok, b_exc, st_ok, st_exc, sq_nx, sq_rt, sq_bk, sq_ct, sq_exc, of_some, nox_ok, lk_dat, lk_fre, kp_dat, kp_fre, asB_b, asI_i, dB_, tR, s_nil, s_cons, s_pass, s_ret, s_xpr, s_set, s_setO, s_unp, s_sti, s_ifs, s_fo, s_rai, e_var, e_lit, e_dct, e_glb, e_bin, e_neg, e_nt, e_cmp, e_chn, e_bop, c_one, c_and, c_or, e_ife, e_tup, e_lst, e_idx, e_sli, e_blt, e_isi, k_nil, k_cons, bl_nil, bl_cons, a_nil, a_cons, o_nil, o_var, o_lit, intO_i, av_dat, av_fre, av_own, av_var, av_lit, av_glb, av_bin, av_idx, av_lst, av_tup, av_cal, av_blt, av_lend, i_seq, i_rng, sl_0, sl_s, lks_nil, s_par, pn_nil, pn_f, pn_t, st_nil, st_cons, s_app2, ow_0, ow_s, cm_eqi, cm_nei, cm_nes, cm_eqs, cm_neb, rv_dat, rv_fre, lk_0, lk_1, lk_2, i3_0, i3_1, i3_2, t3_1, t3_2, ka_dat, ka_fre, ka_own, tn_fre, tg_nm, bi_add, bi_sub, cm_lt, cm_le, cm_gt, cm_ge, cm_is, bt_len, bt_lenT, bt_int, bt_list, bt_tuple, bt_min, List.set_cons_zero, List.set_cons_succ, cond_true, cond_false, tg_2, tn_own, pn_o, t2_0, t2_1, av_neg, av_nt, av_cmp, av_ife, av_sli, av_lc, av_dct, av_bop, o_bin, o_neg, lk_0a, lk_1a, lk_2a, tn_fd, tn_ff, tn_fo, tn_fn, pn_ff, pn_fo, List.map_nil, cn']
  | cons y ys =>
    rw [← hxs]
    have ce : (xs.map ax).isEmpty = false := by rw [hxs]; rfl
    have hpos : 0 < xs.length := by rw [hxs]; simp
    rw [ce] at cn
    obtain ⟨r, ds1, r0, r1, p1, q1⟩ := call_take (st := .arg) (by decide) p (by omega) (m := 3) (by omega) (by decide) (⟨.live, xs.map ax⟩ :: R)
    by_cases hr : r = 0
    · have hr' : decide (r = 0) = true := decide_eq_true hr
      obtain ⟨k, ds2, k0, k1, p2, q2⟩ := call_take (st := .arg) (by decide) p1 (by omega) (m := ((xs.map ax).length : Int)) (by simp; omega) (by simp; omega) (⟨.live, xs.map ax⟩ :: R)
      have kl : k.toNat < xs.length := by simp at k1; omega
      obtain ⟨pre, ms, post, hsp, hpl⟩ := split_at kl
      have hk : k = (pre.length : Int) := by omega
      have hml : ms.length ≤ 10000 := by
        rw [hsp] at hf
        simp at hf
        omega
      obtain ⟨j, ds3, j0, j1, p3, q3⟩ := call_take (st := .arg) (by decide) p2 (by omega) (m := ((ms.map md).length : Int) + 1) (by omega) (by simp; omega) (⟨.live, xs.map ax⟩ :: R)
      have ix : idxD (.list (xs.map ax)) (.int k) = some (ax ms) := by
        show atI (xs.map ax) k = _
        unfold atI
        rw [ix_nn k0 (by simp; omega)]
        show (xs.map ax)[k.toNat]? = _
        rw [hsp, hk]
        simp
      have c1 : cutD (.list (xs.map ax)) none (some k) = some (.fre (pre.map ax)) := by
        rw [cut_hi k0 (by simp; omega), hk, hsp]
        simp
      have c2 : cutD (.list (xs.map ax)) (some (k + 1)) none = some (.fre (post.map ax)) := by
        rw [cut_lo (by omega) (by simp; omega), hk, hsp, show ((pre.length : Int) + 1).toNat = pre.length + 1 from by omega, List.map_append, List.map_cons, show pre.length = (pre.map ax).length from by simp, drop_pre]
      have c3 : cutD (ax ms) none (some j) = some (.fre ((ms.map md).take j.toNat)) := cut_hi j0 (by omega)
      have c4 : cutD (ax ms) (some j) none = some (.fre ((ms.map md).drop j.toNat)) := cut_lo j0 (by omega)
      have s1 : bin2 .Add (.list (pre.map ax)) (.list [.list ((ms.map md).take j.toNat), .list ((ms.map md).drop j.toNat)]) = some (.fre (pre.map ax ++ [.list ((ms.map md).take j.toNat), .list ((ms.map md).drop j.toNat)])) := bi_cat (size7 (by simp; omega))
      have hsl : xs.length = pre.length + (post.length + 1) := by rw [hsp]; simp
      have s2 : bin2 .Add (.list (pre.map ax ++ [.list ((ms.map md).take j.toNat), .list ((ms.map md).drop j.toNat)])) (.list (post.map ax)) = some (.fre (pre.map ax ++ [.list ((ms.map md).take j.toNat), .list ((ms.map md).drop j.toNat)] ++ post.map ax)) := bi_cat (size7 (by simp; omega))
      have s3 : pre.map ax ++ [.list ((ms.map md).take j.toNat), .list ((ms.map md).drop j.toNat)] ++ post.map ax = (pre ++ [ms.take j.toNat, ms.drop j.toNat] ++ post).map ax := by simp
      rw [s3] at s2
      refine ⟨pre ++ [ms.take j.toNat, ms.drop j.toNat] ++ post, ds3, (⟨.arg, ds3⟩ :: ⟨.live, xs.map ax⟩ :: R) ++ [⟨.live, (pre ++ [ms.take j.toNat, ms.drop j.toNat] ++ post).map ax⟩], R.length + 1, some (.dat (.int k)), some (.dat (.int j)), ?_, by simp; omega, p3, by simp, rfl, ?_⟩
      · rw [hsp]
        simp only [List.flatten_append, List.flatten_cons, List.flatten_nil, List.append_nil, List.append_assoc]
        rw [← List.append_assoc (List.take _ ms), List.take_append_drop]
      · have hlen : (⟨.arg, ds3⟩ :: ⟨.live, xs.map ax⟩ :: R : List Cell).length = R.length + 2 := rfl
        have bl : bltD .len [ax ms] = some (.dat (.int ((ms.map md).length : Int))) := rfl
        simp only [b_ok, b_exc, st_ok, st_exc, sq_nx, sq_rt, sq_bk, sq_ct, sq_exc, of_some, nox_ok, lk_dat, lk_fre, kp_dat, kp_fre, asB_b, asI_i, dB_, tR, s_nil, s_cons, s_pass, s_ret, s_xpr, s_set, s_setO, s_unp, s_sti, s_ifs, s_fo, s_rai, e_var, e_lit, e_dct, e_glb, e_bin, e_neg, e_nt, e_cmp, e_chn, e_bop, c_one, c_and, c_or, e_ife, e_tup, e_lst, e_idx, e_sli, e_blt, e_isi, k_nil, k_cons, bl_nil, bl_cons, a_nil, a_cons, o_nil, o_var, o_lit, intO_i, av_dat, av_fre, av_own, av_var, av_lit, av_glb, av_bin, av_idx, av_lst, av_tup, av_cal, av_blt, av_lend, i_seq, i_rng, sl_0, sl_s, lks_nil, s_par, pn_nil, pn_f, pn_t, st_nil, st_cons, s_app2, ow_0, ow_s, cm_eqi, cm_nei, cm_nes, cm_eqs, cm_neb, rv_dat, rv_fre, lk_0, lk_1, lk_2, i3_0, i3_1, i3_2, t3_1, t3_2, ka_dat, ka_fre, ka_own, tn_fre, tg_nm, bi_add, bi_sub, cm_lt, cm_le, cm_gt, cm_ge, cm_is, bt_len, bt_lenT, bt_int, bt_list, bt_tuple, bt_min, List.set_cons_zero, List.set_cons_succ, cond_true, cond_false, tg_2, tn_own, pn_o, t2_0, t2_1, av_neg, av_nt, av_cmp, av_ife, av_sli, av_lc, av_dct, av_bop, o_bin, o_neg, lk_0a, lk_1a, lk_2a, tn_fd, tn_ff, tn_fo, tn_fn, pn_ff, pn_fo, cn, Bool.not_false, e_cal gt, q1, hr', lks_own (c := ⟨.live, xs.map ax⟩) (k := 1) (μ := ⟨.arg, ds1⟩ :: ⟨.live, xs.map ax⟩ :: R) rfl lks_nil, lks_dat lks_nil, bl, q2, ix, q3, c1, c2, c3, c4, s1, s2, hlen]
    · have hr' : decide (r = 0) = false := decide_eq_false hr
      refine ⟨xs, ds1, ⟨.arg, ds1⟩ :: ⟨.live, xs.map ax⟩ :: R, 0, a5, a6, rfl, by omega, p1.mono (by omega), rfl, rfl, ?_⟩
      simp only [b_ok, b_exc, st_ok, st_exc, sq_nx, sq_rt, sq_bk, sq_ct, sq_exc, of_some, nox_ok, lk_dat, lk_fre, kp_dat, kp_fre, asB_b, asI_i, dB_, tR, s_nil, s_cons, s_pass, s_ret, s_xpr, s_set, s_setO, s_unp, s_sti, s_ifs, s_fo, s_rai, e_var, e_lit, e_dct, e_glb, e_bin, e_neg, e_nt, e_cmp, e_chn, e_bop, c_one, c_and, c_or, e_ife, e_tup, e_lst, e_idx, e_sli, e_blt, e_isi, k_nil, k_cons, bl_nil, bl_cons, a_nil, a_cons, o_nil, o_var, o_lit, intO_i, av_dat, av_fre, av_own, av_var, av_lit, av_glb, av_bin, av_idx, av_lst, av_tup, av_cal, av_blt, av_lend, i_seq, i_rng, sl_0, sl_s, lks_nil, s_par, pn_nil, pn_f, pn_t, st_nil, st_cons, s_app2, ow_0, ow_s, cm_eqi, cm_nei, cm_nes, cm_eqs, cm_neb, rv_dat, rv_fre, lk_0, lk_1, lk_2, i3_0, i3_1, i3_2, t3_1, t3_2, ka_dat, ka_fre, ka_own, tn_fre, tg_nm, bi_add, bi_sub, cm_lt, cm_le, cm_gt, cm_ge, cm_is, bt_len, bt_lenT, bt_int, bt_list, bt_tuple, bt_min, List.set_cons_zero, List.set_cons_succ, cond_true, cond_false, tg_2, tn_own, pn_o, t2_0, t2_1, av_neg, av_nt, av_cmp, av_ife, av_sli, av_lc, av_dct, av_bop, o_bin, o_neg, lk_0a, lk_1a, lk_2a, tn_fd, tn_ff, tn_fo, tn_fn, pn_ff, pn_fo, cn, Bool.not_false, e_cal gt, q1, hr']
/-- the same axes, parted -/
theorem parted_sem {n : Nat} {ds : List D} {xs : List (List Md)} (p : Pen n ds) (hn : n ≤ 999900000) (v : Vld xs) (hl : xs.flatten.length ≤ 60) :
    ∃ (xs' : List (List Md)) (ds' : List D) (r : Rv), Vld xs' ∧ Eqv xs.flatten xs'.flatten ∧ xs'.flatten.length ≤ 3 * xs.flatten.length ∧ Pen (n + 200) ds' ∧ (r = .fre (xs'.map ax) ∨ r = .dat (axs xs')) ∧ c9.sem [.own ds, .dat (axs xs)] = some (.ret r [ds']) := by
  have hax := v.len
  have d0 : Pa ([] : List (List Md)) [] := ⟨Eqv.refl (fun _ h => nomatch h), (fun _ h => nomatch h), by simp, rfl⟩
  obtain ⟨ys, ds1, R1, b3, b4, b7, b8, b9, b10, d1, p1, e1⟩ := p_outs (a1 := some (.dat (axs xs))) xs (as := []) (xs := []) (R := []) (a3 := none) (a4 := none) (a5 := none) (a6 := none) (a7 := none) (a8 := none) (a9 := none) (a10 := none) p (by omega) d0 v.good (by omega) (by simp; omega)
  simp only [List.map_nil, List.nil_append] at e1 d1
  have h1 := d1.len
  have h2 := d1.ax
  obtain ⟨zs, ds2, μ2, k, b5, b6, f1, f2, p2, f3, f4, e2⟩ := p_cut (a1 := some (.dat (axs xs))) (xs := ys) (R := R1) (a3 := b3) (a4 := b4) (a5 := none) (a6 := none) (a7 := b7) (a8 := b8) (a9 := b9) (a10 := b10) p1 (by omega) (by omega) (by omega)
  have ei : (den GP (.iSeq (.var 1))).i [some (.own 0), some (.dat (axs xs)), some (.own 1), none, none, none, none, none, none, none, none] [⟨.arg, ds⟩, ⟨.live, []⟩] = .ok (xs.map ax) [⟨.arg, ds⟩, ⟨.live, []⟩] := by simp only [b_ok, b_exc, st_ok, st_exc, sq_nx, sq_rt, sq_bk, sq_ct, sq_exc, of_some, nox_ok, lk_dat, lk_fre, kp_dat, kp_fre, asB_b, asI_i, dB_, tR, s_nil, s_cons, s_pass, s_ret, s_xpr, s_set, s_setO, s_unp, s_sti, s_ifs, s_fo, s_rai, e_var, e_lit, e_dct, e_glb, e_bin, e_neg, e_nt, e_cmp, e_chn, e_bop, c_one, c_and, c_or, e_ife, e_tup, e_lst, e_idx, e_sli, e_blt, e_isi, k_nil, k_cons, bl_nil, bl_cons, a_nil, a_cons, o_nil, o_var, o_lit, intO_i, av_dat, av_fre, av_own, av_var, av_lit, av_glb, av_bin, av_idx, av_lst, av_tup, av_cal, av_blt, av_lend, i_seq, i_rng, sl_0, sl_s, lks_nil, s_par, pn_nil, pn_f, pn_t, st_nil, st_cons, s_app2, ow_0, ow_s, cm_eqi, cm_nei, cm_nes, cm_eqs, cm_neb, rv_dat, rv_fre, lk_0, lk_1, lk_2, i3_0, i3_1, i3_2, t3_1, t3_2, ka_dat, ka_fre, ka_own, tn_fre, tg_nm, bi_add, bi_sub, cm_lt, cm_le, cm_gt, cm_ge, cm_is, bt_len, bt_lenT, bt_int, bt_list, bt_tuple, bt_min, List.set_cons_zero, List.set_cons_succ, cond_true, cond_false, tg_2, tn_own, pn_o, t2_0, t2_1, av_neg, av_nt, av_cmp, av_ife, av_sli, av_lc, av_dct, av_bop, o_bin, o_neg, lk_0a, lk_1a, lk_2a, tn_fd, tn_ff, tn_fo, tn_fn, pn_ff, pn_fo, itemsD]
  have hml : μ2 = ⟨.arg, ds2⟩ :: μ2.drop 1 := by
    cases μ2 with
    | nil => simp at f4
    | cons c R => simp at f4; rw [f4]; rfl
  have hout : argsSt 1 μ2 = true ∧ outC 1 μ2 = [ds2] := by
    rw [hml]
    exact ⟨rfl, rfl⟩
  have run : ∀ (w : SV) (rv : Rv), (den GP irPEnd).s [some (.own 0), some (.dat (axs xs)), some (.own (k + 1)), b3, b4, b5, b6, b7, b8, b9, b10] μ2 = .rt w μ2 → retV 1 μ2 w = some rv → c9.sem [.own ds, .dat (axs xs)] = some (.ret rv [ds2]) := fun w rv hw hv => by
    show outOf 1 ((den GP ir__law_parted).s [some (.own 0), some (.dat (axs xs)), none, none, none, none, none, none, none, none, none] [⟨.arg, ds⟩]) = _
    unfold ir__law_parted
    rw [s_cons]
    simp only [s_setO, e_lst, k_nil, b_ok, tn_fre, st_ok, sq_nx, List.length_cons, List.length_nil, List.cons_append, List.nil_append, List.set_cons_zero, List.set_cons_succ]
    rw [s_cons, s_fo, ei, st_ok, show forR (Tg.nm 3).f.one (den GP irPOut).s (xs.map ax) _ _ = _ from e1, sq_nx, s_cons, show (den GP irPCut).s _ _ = _ from e2, sq_nx, s_cons, show (den GP irPEnd).s _ _ = _ from hw, sq_rt]
    show (if argsSt 1 μ2 then (retV 1 μ2 w).map fun r => Out.ret r (outC 1 μ2) else none) = _
    rw [hout.1, hout.2, hv]
    rfl
  have lk : look1 (.own (k + 1)) μ2 = .ok (.list (zs.map ax)) μ2 := lk_own (c := ⟨.live, zs.map ax⟩) f3
  by_cases h8 : zs.length ≤ 8
  · have h8' : decide (((zs.map ax).length : Int) ≤ 8) = true := decide_eq_true (by rw [List.length_map]; omega)
    have c8 : cutD (.list (zs.map ax)) none (some 8) = some (.fre (zs.map ax)) := cut_8 8 (by rw [List.length_map]; exact h8)
    refine ⟨zs, ds2, .fre (zs.map ax), ⟨h8, by rw [f1]; omega, by rw [f1]; exact d1.good, by rw [f1, ← d1.e.sz]; exact v.sz⟩, by rw [f1]; exact d1.e, by rw [f1]; exact h1, p2.mono (by omega), .inl rfl, run (.fre (zs.map ax)) _ ?_ rfl⟩
    simp only [b_ok, b_exc, st_ok, st_exc, sq_nx, sq_rt, sq_bk, sq_ct, sq_exc, of_some, nox_ok, lk_dat, lk_fre, kp_dat, kp_fre, asB_b, asI_i, dB_, tR, s_nil, s_cons, s_pass, s_ret, s_xpr, s_set, s_setO, s_unp, s_sti, s_ifs, s_fo, s_rai, e_var, e_lit, e_dct, e_glb, e_bin, e_neg, e_nt, e_cmp, e_chn, e_bop, c_one, c_and, c_or, e_ife, e_tup, e_lst, e_idx, e_sli, e_blt, e_isi, k_nil, k_cons, bl_nil, bl_cons, a_nil, a_cons, o_nil, o_var, o_lit, intO_i, av_dat, av_fre, av_own, av_var, av_lit, av_glb, av_bin, av_idx, av_lst, av_tup, av_cal, av_blt, av_lend, i_seq, i_rng, sl_0, sl_s, lks_nil, s_par, pn_nil, pn_f, pn_t, st_nil, st_cons, s_app2, ow_0, ow_s, cm_eqi, cm_nei, cm_nes, cm_eqs, cm_neb, rv_dat, rv_fre, lk_0, lk_1, lk_2, i3_0, i3_1, i3_2, t3_1, t3_2, ka_dat, ka_fre, ka_own, tn_fre, tg_nm, bi_add, bi_sub, cm_lt, cm_le, cm_gt, cm_ge, cm_is, bt_len, bt_lenT, bt_int, bt_list, bt_tuple, bt_min, List.set_cons_zero, List.set_cons_succ, cond_true, cond_false, tg_2, tn_own, pn_o, t2_0, t2_1, av_neg, av_nt, av_cmp, av_ife, av_sli, av_lc, av_dct, av_bop, o_bin, o_neg, lk_0a, lk_1a, lk_2a, tn_fd, tn_ff, tn_fo, tn_fn, pn_ff, pn_fo, lk, lks_own (c := ⟨.live, zs.map ax⟩) f3 lks_nil, h8', c8]
  · have h8' : decide (((zs.map ax).length : Int) ≤ 8) = false := decide_eq_false (by rw [List.length_map]; omega)
    refine ⟨xs, ds2, .dat (axs xs), v, Eqv.refl v.pos, by omega, p2.mono (by omega), .inr rfl, run (.dat (axs xs)) _ ?_ rfl⟩
    simp only [b_ok, b_exc, st_ok, st_exc, sq_nx, sq_rt, sq_bk, sq_ct, sq_exc, of_some, nox_ok, lk_dat, lk_fre, kp_dat, kp_fre, asB_b, asI_i, dB_, tR, s_nil, s_cons, s_pass, s_ret, s_xpr, s_set, s_setO, s_unp, s_sti, s_ifs, s_fo, s_rai, e_var, e_lit, e_dct, e_glb, e_bin, e_neg, e_nt, e_cmp, e_chn, e_bop, c_one, c_and, c_or, e_ife, e_tup, e_lst, e_idx, e_sli, e_blt, e_isi, k_nil, k_cons, bl_nil, bl_cons, a_nil, a_cons, o_nil, o_var, o_lit, intO_i, av_dat, av_fre, av_own, av_var, av_lit, av_glb, av_bin, av_idx, av_lst, av_tup, av_cal, av_blt, av_lend, i_seq, i_rng, sl_0, sl_s, lks_nil, s_par, pn_nil, pn_f, pn_t, st_nil, st_cons, s_app2, ow_0, ow_s, cm_eqi, cm_nei, cm_nes, cm_eqs, cm_neb, rv_dat, rv_fre, lk_0, lk_1, lk_2, i3_0, i3_1, i3_2, t3_1, t3_2, ka_dat, ka_fre, ka_own, tn_fre, tg_nm, bi_add, bi_sub, cm_lt, cm_le, cm_gt, cm_ge, cm_is, bt_len, bt_lenT, bt_int, bt_list, bt_tuple, bt_min, List.set_cons_zero, List.set_cons_succ, cond_true, cond_false, tg_2, tn_own, pn_o, t2_0, t2_1, av_neg, av_nt, av_cmp, av_ife, av_sli, av_lc, av_dct, av_bop, o_bin, o_neg, lk_0a, lk_1a, lk_2a, tn_fd, tn_ff, tn_fo, tn_fn, pn_ff, pn_fo, lks_own (c := ⟨.live, zs.map ax⟩) f3 lks_nil, h8']
end K04

set_option maxHeartbeats 1000000
namespace K04
open DL
open PySem PySem.Spec PyProof.Rows L2
/-! ### apart -/
theorem apart_comm : ∀ (x y : List Md) (u : Int), apartA x y u = apartA y x u
  | [], [], _ => rfl
  | [], _ :: _, _ => rfl
  | _ :: _, [], _ => rfl
  | m :: xs, n :: ys, u => by
    rw [apartA_cons, apartA_cons]
    by_cases h1 : m.2 = n.2
    · rw [if_neg (show ¬ (m.2 ≠ n.2) by simp [h1]), if_neg (show ¬ (n.2 ≠ m.2) by simp [h1])]
      by_cases h2 : m.1 = n.1
      · rw [if_neg (show ¬ (m.1 ≠ n.1) by simp [h2]), if_neg (show ¬ (n.1 ≠ m.1) by simp [h2]), h2, apart_comm xs ys]
      · rw [if_pos h2, if_pos (show n.1 ≠ m.1 from Ne.symm h2)]
        congr 2
        by_cases h3 : n.1 < m.1
        · rw [if_pos h3, if_neg (by omega)]
        · rw [if_neg h3, if_pos (by omega)]
    · rw [if_pos h1, if_pos (show n.2 ≠ m.2 from Ne.symm h1)]
/-- one of them goes on there -/
theorem apart_lt : ∀ {x y : List Md} {u : Int}, Short x → Short y → apartA x y 1 = some u → u < size x ∨ u < size y
  | [], [], _, _, _, h => by cases h
  | [], n :: ys, u, _, hy, h => by
    cases h
    have h2 := hy.tl.1
    have pb := size_pos hy.tl.2.pos
    have := Int.mul_le_mul_of_nonneg_left pb (show 0 ≤ n.1 by omega)
    rw [show size (n :: ys) = n.1 * size ys from rfl]
    omega
  | m :: xs, [], u, hx, _, h => by
    cases h
    have h2 := hx.tl.1
    have pb := size_pos hx.tl.2.pos
    have := Int.mul_le_mul_of_nonneg_left pb (show 0 ≤ m.1 by omega)
    rw [show size (m :: xs) = m.1 * size xs from rfl]
    omega
  | m :: xs, n :: ys, u, hx, hy, h => by
    have m2 := hx.tl.1
    have n2 := hy.tl.1
    have pa := size_pos hx.tl.2.pos
    have pb := size_pos hy.tl.2.pos
    have qa := Int.mul_le_mul_of_nonneg_left pa (show 0 ≤ m.1 by omega)
    have qb := Int.mul_le_mul_of_nonneg_left pb (show 0 ≤ n.1 by omega)
    rw [show size (m :: xs) = m.1 * size xs from rfl, show size (n :: ys) = n.1 * size ys from rfl]
    rw [apartA_cons] at h
    by_cases h1 : m.2 = n.2
    · rw [if_neg (by simp [h1])] at h
      by_cases h2 : m.1 = n.1
      · rw [if_neg (by simp [h2]), apart_mul] at h
        cases e : apartA xs ys 1 with
        | none =>
          rw [e] at h
          cases h
        | some w =>
          rw [e] at h
          cases h
          rcases apart_lt hx.tl.2 hy.tl.2 e with q | q
          · have := Int.mul_lt_mul_of_pos_left q (show 0 < m.1 by omega)
            left
            rw [Int.one_mul]
            exact this
          · have := Int.mul_lt_mul_of_pos_left q (show 0 < m.1 by omega)
            right
            rw [Int.one_mul, ← h2]
            exact this
      · rw [if_pos h2] at h
        cases h
        rw [Int.one_mul]
        split <;> omega
    · rw [if_pos h1] at h
      cases h
      left
      omega
theorem apart_call {a b : List (List Md)} (va : Vld a) (vb : Vld b) : c21.sem [.dat (axs a), .dat (axs b)] = some (.ret (.dat (optD (apartA (short a.flatten) (short b.flatten) 1))) []) := by
  have g1 : (⟨cs21, con, exc, sub⟩ : Ge).ces[17]? = some c17 := rfl
  have g2 : (⟨cs21, con, exc, sub⟩ : Ge).ces[20]? = some c20 := rfl
  have g3 : (⟨cs21, con, exc, sub⟩ : Ge).ces[18]? = some c18 := rfl
  have ga := short_good va.good va.sz (Nat.le_trans va.many (by decide))
  have gb := short_good vb.good vb.sz (Nat.le_trans vb.many (by decide))
  have sa : size (short a.flatten) ≤ M40 := by rw [(short_ok va.pos).2.2]; exact va.sz
  have e3 : callR c18 [.dat (ax (short a.flatten)), .dat (ax (short b.flatten))] [] = .ok (.dat (optD (apartA (short a.flatten) (short b.flatten) 1))) [] := call_dat (r := .dat (optD (apartA (short a.flatten) (short b.flatten) 1))) rfl rfl rfl (apart_sem ga gb sa) (.inr rfl)
  show outOf 0 ((den ⟨cs21, con, exc, sub⟩ ir_apart).s [some (.dat (axs a)), some (.dat (axs b))] []) = _
  unfold ir_apart
  simp only [b_ok, b_exc, st_ok, st_exc, sq_nx, sq_rt, sq_bk, sq_ct, sq_exc, of_some, nox_ok, lk_dat, lk_fre, kp_dat, kp_fre, asB_b, asI_i, dB_, tR, s_nil, s_cons, s_pass, s_ret, s_xpr, s_set, s_setO, s_unp, s_sti, s_ifs, s_fo, s_rai, e_var, e_lit, e_dct, e_glb, e_bin, e_neg, e_nt, e_cmp, e_chn, e_bop, c_one, c_and, c_or, e_ife, e_tup, e_lst, e_idx, e_sli, e_blt, e_isi, k_nil, k_cons, bl_nil, bl_cons, a_nil, a_cons, o_nil, o_var, o_lit, intO_i, av_dat, av_fre, av_own, av_var, av_lit, av_glb, av_bin, av_idx, av_lst, av_tup, av_cal, av_blt, av_lend, i_seq, i_rng, sl_0, sl_s, lks_nil, s_par, pn_nil, pn_f, pn_t, st_nil, st_cons, s_app2, ow_0, ow_s, cm_eqi, cm_nei, cm_nes, cm_eqs, cm_neb, rv_dat, rv_fre, lk_0, lk_1, lk_2, i3_0, i3_1, i3_2, t3_1, t3_2, ka_dat, ka_fre, ka_own, tn_fre, tg_nm, bi_add, bi_sub, cm_lt, cm_le, cm_gt, cm_ge, cm_is, bt_len, bt_lenT, bt_int, bt_list, bt_tuple, bt_min, List.set_cons_zero, List.set_cons_succ, cond_true, cond_false, tg_2, tn_own, pn_o, t2_0, t2_1, av_neg, av_nt, av_cmp, av_ife, av_sli, av_lc, av_dct, av_bop, o_bin, o_neg, lk_0a, lk_1a, lk_2a, tn_fd, tn_ff, tn_fo, tn_fn, pn_ff, pn_fo, e_cal g1, e_cal g2, e_cal g3, call_need va, call_need vb, call_joined va, call_joined vb, e3]
  rfl
theorem isint_sem2 (d : D) (lo hi : Int) : c24.sem [.dat d, .dat (.int lo), .dat (.int hi)] = some (.ret (.dat (.bool (isint d lo hi))) []) := by
  show outOf 0 ((den _ ir__law_is_int).s [some (.dat d), some (.dat (.int lo)), some (.dat (.int hi))] []) = _
  unfold ir__law_is_int
  cases d with
  | int i =>
    by_cases h1 : lo ≤ i
    · by_cases h2 : i ≤ hi
      · simp only [b_ok, b_exc, st_ok, st_exc, sq_nx, sq_rt, sq_bk, sq_ct, sq_exc, of_some, nox_ok, lk_dat, lk_fre, kp_dat, kp_fre, asB_b, asI_i, dB_, tR, s_nil, s_cons, s_pass, s_ret, s_xpr, s_set, s_setO, s_unp, s_sti, s_ifs, s_fo, s_rai, e_var, e_lit, e_dct, e_glb, e_bin, e_neg, e_nt, e_cmp, e_chn, e_bop, c_one, c_and, c_or, e_ife, e_tup, e_lst, e_idx, e_sli, e_blt, e_isi, k_nil, k_cons, bl_nil, bl_cons, a_nil, a_cons, o_nil, o_var, o_lit, intO_i, av_dat, av_fre, av_own, av_var, av_lit, av_glb, av_bin, av_idx, av_lst, av_tup, av_cal, av_blt, av_lend, i_seq, i_rng, sl_0, sl_s, lks_nil, s_par, pn_nil, pn_f, pn_t, st_nil, st_cons, s_app2, ow_0, ow_s, cm_eqi, cm_nei, cm_nes, cm_eqs, cm_neb, rv_dat, rv_fre, lk_0, lk_1, lk_2, i3_0, i3_1, i3_2, t3_1, t3_2, ka_dat, ka_fre, ka_own, tn_fre, tg_nm, bi_add, bi_sub, cm_lt, cm_le, cm_gt, cm_ge, cm_is, bt_len, bt_lenT, bt_int, bt_list, bt_tuple, bt_min, List.set_cons_zero, List.set_cons_succ, cond_true, cond_false, tg_2, tn_own, pn_o, t2_0, t2_1, av_neg, av_nt, av_cmp, av_ife, av_sli, av_lc, av_dct, av_bop, o_bin, o_neg, lk_0a, lk_1a, lk_2a, tn_fd, tn_ff, tn_fo, tn_fn, pn_ff, pn_fo, List.any_cons, List.any_nil, isTy, Bool.or_false, Bool.not_false, decide_eq_true h1, decide_eq_true h2]
        simp [outOf, argsSt, retV, outC, isint, h1, h2]
      · simp only [b_ok, b_exc, st_ok, st_exc, sq_nx, sq_rt, sq_bk, sq_ct, sq_exc, of_some, nox_ok, lk_dat, lk_fre, kp_dat, kp_fre, asB_b, asI_i, dB_, tR, s_nil, s_cons, s_pass, s_ret, s_xpr, s_set, s_setO, s_unp, s_sti, s_ifs, s_fo, s_rai, e_var, e_lit, e_dct, e_glb, e_bin, e_neg, e_nt, e_cmp, e_chn, e_bop, c_one, c_and, c_or, e_ife, e_tup, e_lst, e_idx, e_sli, e_blt, e_isi, k_nil, k_cons, bl_nil, bl_cons, a_nil, a_cons, o_nil, o_var, o_lit, intO_i, av_dat, av_fre, av_own, av_var, av_lit, av_glb, av_bin, av_idx, av_lst, av_tup, av_cal, av_blt, av_lend, i_seq, i_rng, sl_0, sl_s, lks_nil, s_par, pn_nil, pn_f, pn_t, st_nil, st_cons, s_app2, ow_0, ow_s, cm_eqi, cm_nei, cm_nes, cm_eqs, cm_neb, rv_dat, rv_fre, lk_0, lk_1, lk_2, i3_0, i3_1, i3_2, t3_1, t3_2, ka_dat, ka_fre, ka_own, tn_fre, tg_nm, bi_add, bi_sub, cm_lt, cm_le, cm_gt, cm_ge, cm_is, bt_len, bt_lenT, bt_int, bt_list, bt_tuple, bt_min, List.set_cons_zero, List.set_cons_succ, cond_true, cond_false, tg_2, tn_own, pn_o, t2_0, t2_1, av_neg, av_nt, av_cmp, av_ife, av_sli, av_lc, av_dct, av_bop, o_bin, o_neg, lk_0a, lk_1a, lk_2a, tn_fd, tn_ff, tn_fo, tn_fn, pn_ff, pn_fo, List.any_cons, List.any_nil, isTy, Bool.or_false, Bool.not_false, decide_eq_true h1, decide_eq_false h2]
        simp [outOf, argsSt, retV, outC, isint, h1, h2]
    · simp only [b_ok, b_exc, st_ok, st_exc, sq_nx, sq_rt, sq_bk, sq_ct, sq_exc, of_some, nox_ok, lk_dat, lk_fre, kp_dat, kp_fre, asB_b, asI_i, dB_, tR, s_nil, s_cons, s_pass, s_ret, s_xpr, s_set, s_setO, s_unp, s_sti, s_ifs, s_fo, s_rai, e_var, e_lit, e_dct, e_glb, e_bin, e_neg, e_nt, e_cmp, e_chn, e_bop, c_one, c_and, c_or, e_ife, e_tup, e_lst, e_idx, e_sli, e_blt, e_isi, k_nil, k_cons, bl_nil, bl_cons, a_nil, a_cons, o_nil, o_var, o_lit, intO_i, av_dat, av_fre, av_own, av_var, av_lit, av_glb, av_bin, av_idx, av_lst, av_tup, av_cal, av_blt, av_lend, i_seq, i_rng, sl_0, sl_s, lks_nil, s_par, pn_nil, pn_f, pn_t, st_nil, st_cons, s_app2, ow_0, ow_s, cm_eqi, cm_nei, cm_nes, cm_eqs, cm_neb, rv_dat, rv_fre, lk_0, lk_1, lk_2, i3_0, i3_1, i3_2, t3_1, t3_2, ka_dat, ka_fre, ka_own, tn_fre, tg_nm, bi_add, bi_sub, cm_lt, cm_le, cm_gt, cm_ge, cm_is, bt_len, bt_lenT, bt_int, bt_list, bt_tuple, bt_min, List.set_cons_zero, List.set_cons_succ, cond_true, cond_false, tg_2, tn_own, pn_o, t2_0, t2_1, av_neg, av_nt, av_cmp, av_ife, av_sli, av_lc, av_dct, av_bop, o_bin, o_neg, lk_0a, lk_1a, lk_2a, tn_fd, tn_ff, tn_fo, tn_fn, pn_ff, pn_fo, List.any_cons, List.any_nil, isTy, Bool.or_false, Bool.not_false, decide_eq_false h1]
      simp [outOf, argsSt, retV, outC, isint, h1]
  | _ =>
    simp only [b_ok, b_exc, st_ok, st_exc, sq_nx, sq_rt, sq_bk, sq_ct, sq_exc, of_some, nox_ok, lk_dat, lk_fre, kp_dat, kp_fre, asB_b, asI_i, dB_, tR, s_nil, s_cons, s_pass, s_ret, s_xpr, s_set, s_setO, s_unp, s_sti, s_ifs, s_fo, s_rai, e_var, e_lit, e_dct, e_glb, e_bin, e_neg, e_nt, e_cmp, e_chn, e_bop, c_one, c_and, c_or, e_ife, e_tup, e_lst, e_idx, e_sli, e_blt, e_isi, k_nil, k_cons, bl_nil, bl_cons, a_nil, a_cons, o_nil, o_var, o_lit, intO_i, av_dat, av_fre, av_own, av_var, av_lit, av_glb, av_bin, av_idx, av_lst, av_tup, av_cal, av_blt, av_lend, i_seq, i_rng, sl_0, sl_s, lks_nil, s_par, pn_nil, pn_f, pn_t, st_nil, st_cons, s_app2, ow_0, ow_s, cm_eqi, cm_nei, cm_nes, cm_eqs, cm_neb, rv_dat, rv_fre, lk_0, lk_1, lk_2, i3_0, i3_1, i3_2, t3_1, t3_2, ka_dat, ka_fre, ka_own, tn_fre, tg_nm, bi_add, bi_sub, cm_lt, cm_le, cm_gt, cm_ge, cm_is, bt_len, bt_lenT, bt_int, bt_list, bt_tuple, bt_min, List.set_cons_zero, List.set_cons_succ, cond_true, cond_false, tg_2, tn_own, pn_o, t2_0, t2_1, av_neg, av_nt, av_cmp, av_ife, av_sli, av_lc, av_dct, av_bop, o_bin, o_neg, lk_0a, lk_1a, lk_2a, tn_fd, tn_ff, tn_fo, tn_fn, pn_ff, pn_fo, List.any_cons, List.any_nil, isTy, Bool.or_false, Bool.not_true]
    rfl
theorem same_none : c22.sem [.dat .none, .dat .none] = some (.ret (.dat (.bool true)) []) := by
  show outOf 0 ((den ⟨cs22 ++ [⟨"_law_same", 2, recF cs22 con exc sub "_law_same" 2 ir__law_same 4 3⟩], con, exc, sub⟩ ir__law_same).s [some (.dat .none), some (.dat .none), none, none] []) = _
  unfold ir__law_same
  simp only [b_ok, b_exc, st_ok, st_exc, sq_nx, sq_rt, sq_bk, sq_ct, sq_exc, of_some, nox_ok, lk_dat, lk_fre, kp_dat, kp_fre, asB_b, asI_i, dB_, tR, s_nil, s_cons, s_pass, s_ret, s_xpr, s_set, s_setO, s_unp, s_sti, s_ifs, s_fo, s_rai, e_var, e_lit, e_dct, e_glb, e_bin, e_neg, e_nt, e_cmp, e_chn, e_bop, c_one, c_and, c_or, e_ife, e_tup, e_lst, e_idx, e_sli, e_blt, e_isi, k_nil, k_cons, bl_nil, bl_cons, a_nil, a_cons, o_nil, o_var, o_lit, intO_i, av_dat, av_fre, av_own, av_var, av_lit, av_glb, av_bin, av_idx, av_lst, av_tup, av_cal, av_blt, av_lend, i_seq, i_rng, sl_0, sl_s, lks_nil, s_par, pn_nil, pn_f, pn_t, st_nil, st_cons, s_app2, ow_0, ow_s, cm_eqi, cm_nei, cm_nes, cm_eqs, cm_neb, rv_dat, rv_fre, lk_0, lk_1, lk_2, i3_0, i3_1, i3_2, t3_1, t3_2, ka_dat, ka_fre, ka_own, tn_fre, tg_nm, bi_add, bi_sub, cm_lt, cm_le, cm_gt, cm_ge, cm_is, bt_len, bt_lenT, bt_int, bt_list, bt_tuple, bt_min, List.set_cons_zero, List.set_cons_succ, cond_true, cond_false, tg_2, tn_own, pn_o, t2_0, t2_1, av_neg, av_nt, av_cmp, av_ife, av_sli, av_lc, av_dct, av_bop, o_bin, o_neg, lk_0a, lk_1a, lk_2a, tn_fd, tn_ff, tn_fo, tn_fn, pn_ff, pn_fo, isN, List.any_cons, List.any_nil, isTy, Bool.or_false, Bool.or_true, Bool.false_or, Bool.true_or, decide_true, Bool.not_true]
  rfl
theorem same_int (a : Int) : c22.sem [.dat (.int a), .dat (.int a)] = some (.ret (.dat (.bool true)) []) := by
  show outOf 0 ((den ⟨cs22 ++ [⟨"_law_same", 2, recF cs22 con exc sub "_law_same" 2 ir__law_same 4 3⟩], con, exc, sub⟩ ir__law_same).s [some (.dat (.int a)), some (.dat (.int a)), none, none] []) = _
  unfold ir__law_same
  simp only [b_ok, b_exc, st_ok, st_exc, sq_nx, sq_rt, sq_bk, sq_ct, sq_exc, of_some, nox_ok, lk_dat, lk_fre, kp_dat, kp_fre, asB_b, asI_i, dB_, tR, s_nil, s_cons, s_pass, s_ret, s_xpr, s_set, s_setO, s_unp, s_sti, s_ifs, s_fo, s_rai, e_var, e_lit, e_dct, e_glb, e_bin, e_neg, e_nt, e_cmp, e_chn, e_bop, c_one, c_and, c_or, e_ife, e_tup, e_lst, e_idx, e_sli, e_blt, e_isi, k_nil, k_cons, bl_nil, bl_cons, a_nil, a_cons, o_nil, o_var, o_lit, intO_i, av_dat, av_fre, av_own, av_var, av_lit, av_glb, av_bin, av_idx, av_lst, av_tup, av_cal, av_blt, av_lend, i_seq, i_rng, sl_0, sl_s, lks_nil, s_par, pn_nil, pn_f, pn_t, st_nil, st_cons, s_app2, ow_0, ow_s, cm_eqi, cm_nei, cm_nes, cm_eqs, cm_neb, rv_dat, rv_fre, lk_0, lk_1, lk_2, i3_0, i3_1, i3_2, t3_1, t3_2, ka_dat, ka_fre, ka_own, tn_fre, tg_nm, bi_add, bi_sub, cm_lt, cm_le, cm_gt, cm_ge, cm_is, bt_len, bt_lenT, bt_int, bt_list, bt_tuple, bt_min, List.set_cons_zero, List.set_cons_succ, cond_true, cond_false, tg_2, tn_own, pn_o, t2_0, t2_1, av_neg, av_nt, av_cmp, av_ife, av_sli, av_lc, av_dct, av_bop, o_bin, o_neg, lk_0a, lk_1a, lk_2a, tn_fd, tn_ff, tn_fo, tn_fn, pn_ff, pn_fo, isN, List.any_cons, List.any_nil, isTy, Bool.or_false, Bool.or_true, Bool.false_or, Bool.true_or, decide_true, Bool.not_true]
  rfl
theorem call_same (o : Option Int) {μ : List Cell} : callR c22 [.dat (optD o), .dat (optD o)] μ = .ok (.dat (.bool true)) μ := by
  refine call_dat (r := .dat (.bool true)) (as := [.dat (optD o), .dat (optD o)]) rfl rfl rfl ?_ (.inr rfl)
  cases o with
  | none => exact same_none
  | some u => exact same_int u
/-! ### modes are equal or not -/
theorem eqv_md (m n : Md) : PyData.eqv (md m) (md n) = decide (m = n) := by
  have h : (m = n) ↔ (m.1 = n.1 ∧ m.2 = n.2) := ⟨fun z => by rw [z]; exact ⟨rfl, rfl⟩, fun z => Prod.ext z.1 z.2⟩
  simp only [PyData.eqv, PyData.eqvAll, Bool.and_true]
  by_cases h1 : m.1 = n.1 <;> by_cases h2 : m.2 = n.2 <;> simp [h, h1, h2]
theorem eqv_all : ∀ a b : List Md, PyData.eqvAll (a.map md) (b.map md) = decide (a = b)
  | [], [] => by simp [PyData.eqvAll]
  | [], n :: b => by simp [PyData.eqvAll]
  | m :: a, [] => by simp [PyData.eqvAll]
  | m :: a, n :: b => by
    rw [List.map_cons, List.map_cons, PyData.eqvAll, eqv_md, eqv_all a b]
    by_cases h1 : m = n <;> by_cases h2 : a = b <;> simp [h1, h2]
theorem cm_eqAx (a b : List Md) : cmp2 .Eq (ax a) (ax b) = some (decide (a = b)) := by
  rw [cm_eq (by intro x z; cases z) (sh_ax a) (sh_ax b), show PyData.eqv (ax a) (ax b) = PyData.eqvAll (a.map md) (b.map md) from by simp [PyData.eqv], eqv_all]
theorem cm_isn {m : D} : cmp2 .IsNot m .none = some (!isN m) := by cases m <;> rfl
/-! ### what is told is right -/
theorem lrg_ok (G : Ge) {x : IR} {ρ : Rho} {μ : List Cell} {n : Int} (h : (den G x).e ρ μ = .ok (.dat (.int n)) μ) (h0 : 0 ≤ n) (h1 : n ≤ 1000) : (den G (.lrg x)).e ρ μ = .ok (.fre (rangeD 0 n.toNat)) μ := by
  have hs : (smallI n && decide (n ≤ 10000000)) = true := by
    unfold smallI
    simp only [Bool.and_eq_true, decide_eq_true_eq]
    omega
  rw [e_lrg, h, b_ok, asI_i, b_ok, if_pos hs]
def allI (P : Int → Prop) (L : List D) : Prop := ∀ d ∈ L, ∃ i : Int, d = .int i ∧ P i
theorem range_all {P : Int → Prop} : ∀ (n : Nat) (lo : Int), (∀ i : Int, lo ≤ i → i < lo + n → P i) → allI P (rangeD lo n)
  | 0, _, _ => fun d hd => nomatch hd
  | n + 1, lo, h => fun d hd => by
    rcases List.mem_cons.mp hd with rfl | hd
    · exact ⟨lo, rfl, h lo (by omega) (by omega)⟩
    · exact range_all n (lo + 1) (fun i h0 h1 => h i (by omega) (by omega)) d hd
noncomputable abbrev GT : Ge := ⟨cs26, con, exc, sub⟩
abbrev irTK : IR := .lc [("_law_again", 10)] (.nm 10) (.iRng (.cons (.lit (.int 8)) (.nil))) (.nil) (.cal 2 (.cons (.lend 0) (.cons (.var 4) (.nil))))
theorem tk_loop {a1 a2 a3 a5 a6 a7 a8 a9 : Option SV} {m : Int} (h0 : 1 ≤ m) (h1 : m.natAbs < 2 ^ 8000) {st : CS} (hst : st = .live ∨ st = .arg) {R : List Cell} : ∀ (L : List D) {n : Nat} {ds : List D}, Pen n ds → n + L.length ≤ 999000000 → ∃ (l : List D) (ds' : List D), allI (fun i => 0 ≤ i ∧ i < m) l ∧ l.length = L.length ∧ Pen (n + L.length) ds' ∧
    lcR (Tg.nm 10).f.one (fun _ μ2 => .ok true μ2) (fun ρ1 μ2 => ((den GT (.cal 2 (.cons (.lend 0) (.cons (.var 4) (.nil))))).e ρ1 μ2).bind fun v μ3 => (v.keep μ3).bind fun d μ4 => .ok [d] μ4) [some (.own 0), a1, a2, a3, some (.dat (.int m)), a5, a6, a7, a8, a9, none] L (⟨st, ds⟩ :: R) = .ok l (⟨st, ds'⟩ :: R)
  | [], n, ds, p, _ => ⟨[], ds, (fun _ h => nomatch h), rfl, p, rfl⟩
  | d :: L, n, ds, p, hn => by
    rw [List.length_cons] at hn
    have gt : GT.ces[2]? = some c2 := rfl
    obtain ⟨r, ds1, r0, r1, p1, e1⟩ := call_take hst p (by omega) (m := m) (by omega) h1 R
    obtain ⟨l, ds2, hl, ll, p2, e2⟩ := tk_loop h0 h1 hst L p1 (by omega)
    refine ⟨.int r :: l, ds2, fun x hx => ?_, by rw [List.length_cons, List.length_cons, ll], p2.mono (by rw [List.length_cons]; omega), ?_⟩
    · rcases List.mem_cons.mp hx with rfl | hx
      · exact ⟨r, rfl, r0, r1⟩
      · exact hl x hx
    · refine lc_step (b := true) (ρ1 := [some (.own 0), a1, a2, a3, some (.dat (.int m)), a5, a6, a7, a8, a9, some (.dat d)]) (y := [.int r]) rfl rfl (te_ok (v := .dat (.int r)) ?_ rfl) e2
      simp only [b_ok, b_exc, st_ok, st_exc, sq_nx, sq_rt, sq_bk, sq_ct, sq_exc, of_some, nox_ok, lk_dat, lk_fre, kp_dat, kp_fre, asB_b, asI_i, dB_, tR, s_nil, s_cons, s_pass, s_ret, s_xpr, s_set, s_setO, s_unp, s_sti, s_ifs, s_fo, s_rai, e_var, e_lit, e_dct, e_glb, e_bin, e_neg, e_nt, e_cmp, e_chn, e_bop, c_one, c_and, c_or, e_ife, e_tup, e_lst, e_idx, e_sli, e_blt, e_isi, k_nil, k_cons, bl_nil, bl_cons, a_nil, a_cons, o_nil, o_var, o_lit, intO_i, av_dat, av_fre, av_own, av_var, av_lit, av_glb, av_bin, av_idx, av_lst, av_tup, av_cal, av_blt, av_lend, i_seq, i_rng, sl_0, sl_s, lks_nil, s_par, pn_nil, pn_f, pn_t, st_nil, st_cons, s_app2, ow_0, ow_s, cm_eqi, cm_nei, cm_nes, cm_eqs, cm_neb, rv_dat, rv_fre, lk_0, lk_1, lk_2, i3_0, i3_1, i3_2, t3_1, t3_2, ka_dat, ka_fre, ka_own, tn_fre, tg_nm, bi_add, bi_sub, cm_lt, cm_le, cm_gt, cm_ge, cm_is, bt_len, bt_lenT, bt_int, bt_list, bt_tuple, bt_min, List.set_cons_zero, List.set_cons_succ, cond_true, cond_false, tg_2, tn_own, pn_o, t2_0, t2_1, av_neg, av_nt, av_cmp, av_ife, av_sli, av_lc, av_dct, av_bop, o_bin, o_neg, lk_0a, lk_1a, lk_2a, tn_fd, tn_ff, tn_fo, tn_fn, pn_ff, pn_fo, e_cal gt, e1]
structure Two (a b : List (List Md)) : Prop where
  va : Vld a
  vb : Vld b
theorem told_facts {a b : List (List Md)} (va : Vld a) (vb : Vld b) : (apartA (short a.flatten) (short b.flatten) 1 = none ∧ short a.flatten = short b.flatten ∧ size a.flatten = size b.flatten ∧ ∀ i, worth a.flatten i = worth b.flatten i) ∨
    ∃ u, apartA (short a.flatten) (short b.flatten) 1 = some u ∧ short a.flatten ≠ short b.flatten ∧ 1 ≤ u ∧ u ≤ size a.flatten ∧ u ≤ size b.flatten ∧ (u < size a.flatten ∨ u < size b.flatten) ∧ (∀ i, 0 ≤ i → i < u → worth a.flatten i = worth b.flatten i) ∧ (u < size a.flatten → u < size b.flatten → worth a.flatten u ≠ worth b.flatten u) := by
  obtain ⟨sa, wa, za⟩ := short_ok va.pos
  obtain ⟨sb, wb, zb⟩ := short_ok vb.pos
  rcases apart_one sa sb with ⟨h1, h2⟩ | ⟨u, h1, h2⟩
  · refine .inl ⟨h1, h2, by rw [← za, ← zb, h2], fun i => by rw [← wa, ← wb, h2]⟩
  · have hl := apart_lt sa sb h1
    rw [za, zb] at hl
    have hle := h2.le
    rw [za, zb] at hle
    refine .inr ⟨u, h1, fun e => ?_, h2.u0, hle.1, hle.2, hl, fun i i0 i1 => by rw [← wa, ← wb]; exact h2.agree i i0 i1, fun q1 q2 => by rw [← wa, ← wb]; exact h2.differ (by rw [za]; exact q1) (by rw [zb]; exact q2)⟩
    have hsz : size a.flatten = size b.flatten := by rw [← za, ← zb, e]
    have q1 : u < size a.flatten := by omega
    exact h2.differ (by rw [za]; exact q1) (by rw [zb]; omega) (by rw [e])
theorem bt_min2l (a b : Int) : bltD .min1 [.list [.int a, .int b]] = some (.dat (.int (if b < a then b else a))) := rfl
theorem bt_max2l (a b : Int) : bltD .max1 [.list [.int a, .int b]] = some (.dat (.int (if b > a then b else a))) := rfl
theorem lw_step {a b : List (List Md)} (va : Vld a) (vb : Vld b) {i : Int} (h0 : 0 ≤ i) (h1 : i.natAbs < 2 ^ 133) {μ : List Cell} : callR c25 [.dat (ax a.flatten), .dat (.int i)] μ = .ok (.dat (.int (worth a.flatten i))) μ ∧ callR c25 [.dat (ax b.flatten), .dat (.int i)] μ = .ok (.dat (.int (worth b.flatten i))) μ :=
  ⟨call_worth va.good h0 h1, call_worth vb.good h0 h1⟩
abbrev irPK : IR := .lc [("_law_index", 9)] (.nm 9) (.iSeq (.var 5)) (.cmp .NotEq (.cal 25 (.cons (.var 6) (.cons (.var 9) (.nil)))) (.cal 25 (.cons (.var 7) (.cons (.var 9) (.nil))))) (.var 9)
/-- no pick at which they differ -/
theorem pk_none {a b : List (List Md)} (va : Vld a) (vb : Vld b) {a0 a1 a2 a3 a4 a8 a9 a10 : Option SV} {L : List D} (hl : L.length ≤ 1000) (h : allI (fun i => 0 ≤ i ∧ i.natAbs < 2 ^ 133 ∧ worth a.flatten i = worth b.flatten i) L) {μ : List Cell} :
    (den GT irPK).e [a0, a1, a2, a3, a4, some (.dat (.list L)), some (.dat (ax a.flatten)), some (.dat (ax b.flatten)), a8, a9, a10] μ = .ok (.fre []) μ := by
  have gw : GT.ces[25]? = some c25 := rfl
  refine lc_okT (ds := L) (μ1 := μ) (by simp) (by simp only [b_ok, b_exc, st_ok, st_exc, sq_nx, sq_rt, sq_bk, sq_ct, sq_exc, of_some, nox_ok, lk_dat, lk_fre, kp_dat, kp_fre, asB_b, asI_i, dB_, tR, s_nil, s_cons, s_pass, s_ret, s_xpr, s_set, s_setO, s_unp, s_sti, s_ifs, s_fo, s_rai, e_var, e_lit, e_dct, e_glb, e_bin, e_neg, e_nt, e_cmp, e_chn, e_bop, c_one, c_and, c_or, e_ife, e_tup, e_lst, e_idx, e_sli, e_blt, e_isi, k_nil, k_cons, bl_nil, bl_cons, a_nil, a_cons, o_nil, o_var, o_lit, intO_i, av_dat, av_fre, av_own, av_var, av_lit, av_glb, av_bin, av_idx, av_lst, av_tup, av_cal, av_blt, av_lend, i_seq, i_rng, sl_0, sl_s, lks_nil, s_par, pn_nil, pn_f, pn_t, st_nil, st_cons, s_app2, ow_0, ow_s, cm_eqi, cm_nei, cm_nes, cm_eqs, cm_neb, rv_dat, rv_fre, lk_0, lk_1, lk_2, i3_0, i3_1, i3_2, t3_1, t3_2, ka_dat, ka_fre, ka_own, tn_fre, tg_nm, bi_add, bi_sub, cm_lt, cm_le, cm_gt, cm_ge, cm_is, bt_len, bt_lenT, bt_int, bt_list, bt_tuple, bt_min, List.set_cons_zero, List.set_cons_succ, cond_true, cond_false, tg_2, tn_own, pn_o, t2_0, t2_1, av_neg, av_nt, av_cmp, av_ife, av_sli, av_lc, av_dct, av_bop, o_bin, o_neg, lk_0a, lk_1a, lk_2a, tn_fd, tn_ff, tn_fo, tn_fn, pn_ff, pn_fo, itemsD]) ?_ (by omega)
  have : ([] : List D) = (L.filter fun _ => false).map id := by simp
  rw [this]
  refine lcR_filt fun d hd => ?_
  obtain ⟨i, rfl, i0, i1, e⟩ := h d hd
  obtain ⟨w1, w2⟩ := lw_step va vb (i := i) i0 i1 (μ := μ)
  refine ⟨[a0, a1, a2, a3, a4, some (.dat (.list L)), some (.dat (ax a.flatten)), some (.dat (ax b.flatten)), a8, some (.dat (.int i)), a10], rfl, ?_, fun z => nomatch z⟩
  simp only [b_ok, b_exc, st_ok, st_exc, sq_nx, sq_rt, sq_bk, sq_ct, sq_exc, of_some, nox_ok, lk_dat, lk_fre, kp_dat, kp_fre, asB_b, asI_i, dB_, tR, s_nil, s_cons, s_pass, s_ret, s_xpr, s_set, s_setO, s_unp, s_sti, s_ifs, s_fo, s_rai, e_var, e_lit, e_dct, e_glb, e_bin, e_neg, e_nt, e_cmp, e_chn, e_bop, c_one, c_and, c_or, e_ife, e_tup, e_lst, e_idx, e_sli, e_blt, e_isi, k_nil, k_cons, bl_nil, bl_cons, a_nil, a_cons, o_nil, o_var, o_lit, intO_i, av_dat, av_fre, av_own, av_var, av_lit, av_glb, av_bin, av_idx, av_lst, av_tup, av_cal, av_blt, av_lend, i_seq, i_rng, sl_0, sl_s, lks_nil, s_par, pn_nil, pn_f, pn_t, st_nil, st_cons, s_app2, ow_0, ow_s, cm_eqi, cm_nei, cm_nes, cm_eqs, cm_neb, rv_dat, rv_fre, lk_0, lk_1, lk_2, i3_0, i3_1, i3_2, t3_1, t3_2, ka_dat, ka_fre, ka_own, tn_fre, tg_nm, bi_add, bi_sub, cm_lt, cm_le, cm_gt, cm_ge, cm_is, bt_len, bt_lenT, bt_int, bt_list, bt_tuple, bt_min, List.set_cons_zero, List.set_cons_succ, cond_true, cond_false, tg_2, tn_own, pn_o, t2_0, t2_1, av_neg, av_nt, av_cmp, av_ife, av_sli, av_lc, av_dct, av_bop, o_bin, o_neg, lk_0a, lk_1a, lk_2a, tn_fd, tn_ff, tn_fo, tn_fn, pn_ff, pn_fo, e_cal gw, w1, w2, e, decide_true, Bool.not_true]
abbrev irQ1 : IR := .par [(6, false), (7, false), (8, false)] (.cons (.cal 5 (.cons (.var 1) (.nil))) (.cons (.cal 5 (.cons (.var 2) (.nil))) (.cons (.cal 21 (.cons (.var 1) (.cons (.var 2) (.nil)))) (.nil))))
abbrev irQ2 : IR := .set 3 (.lst (.cons (.cal 10 (.cons (.var 6) (.nil))) (.cons (.cal 10 (.cons (.var 7) (.nil))) (.nil))))
abbrev irQ3 : IR := .ifs (.cmp .NotEq (.cmp .Is (.var 8) (.lit .none)) (.cmp .Eq (.cal 23 (.cons (.var 6) (.nil))) (.cal 23 (.cons (.var 7) (.nil))))) (.cons (.ret (.lit (.bool false))) (.nil)) (.nil)
abbrev irQ4 : IR := .ifs (.nt (.cal 22 (.cons (.cal 21 (.cons (.var 2) (.cons (.var 1) (.nil)))) (.cons (.var 8) (.nil))))) (.cons (.ret (.lit (.bool false))) (.nil)) (.nil)
abbrev irQ5 : IR := .set 4 (.ife (.cmp .Is (.var 8) (.lit .none)) (.blt .min1 (.cons (.var 3) (.nil))) (.var 8))
abbrev irQ6 : IR := .ifs (.bop .And (.cons (.cmp .IsNot (.var 8) (.lit .none)) (.cons (.nt (.cal 24 (.cons (.var 8) (.cons (.lit (.int 0)) (.cons (.bin .Sub (.blt .max1 (.cons (.var 3) (.nil))) (.lit (.int 1))) (.nil)))))) (.nil)))) (.cons (.ret (.lit (.bool false))) (.nil)) (.nil)
abbrev irQ7 : IR := .ifs (.bop .And (.cons (.cmp .IsNot (.var 8) (.lit .none)) (.cons (.cmp .Lt (.var 8) (.blt .min1 (.cons (.var 3) (.nil)))) (.cons (.cmp .Eq (.cal 25 (.cons (.var 6) (.cons (.var 8) (.nil)))) (.cal 25 (.cons (.var 7) (.cons (.var 8) (.nil))))) (.nil))))) (.cons (.ret (.lit (.bool false))) (.nil)) (.nil)
abbrev irQ8 : IR := .ifs (.bop .Or (.cons (.bop .And (.cons (.cmp .IsNot (.var 8) (.lit .none)) (.cons (.cmp .Gt (.var 8) (.blt .min1 (.cons (.var 3) (.nil)))) (.nil)))) (.cons (.bop .And (.cons (.cmp .Is (.var 8) (.lit .none)) (.cons (.cmp .NotEq (.idx (.var 3) (.lit (.int 0))) (.idx (.var 3) (.lit (.int 1)))) (.nil)))) (.nil)))) (.cons (.ret (.lit (.bool false))) (.nil)) (.nil)
abbrev irQ9 : IR := .set 5 (.lrg (.blt .min2 (.cons (.var 4) (.cons (.lit (.int 40)) (.nil)))))
abbrev irQa : IR := .ifs (.cmp .Gt (.var 4) (.lit (.int 40))) (.cons (.set 5 (.bin .Add irTK (.lst (.cons (.bin .Sub (.var 4) (.lit (.int 1))) (.cons (.bin .FloorDiv (.var 4) (.lit (.int 2))) (.nil)))))) (.nil)) (.nil)
abbrev irQb : IR := .ret (.cmp .Eq irPK (.lst (.nil)))
section
variable {n : Nat} {ds : List D} {a b : List (List Md)} {a0 a1 a2 a3 a4 a5 a8 a9 a10 : Option SV}
theorem q_9 {last : Int} (l0 : 1 ≤ last) {μ : List Cell} : (den GT irQ9).s [a0, a1, a2, a3, some (.dat (.int last)), a5, some (.dat (ax a.flatten)), some (.dat (ax b.flatten)), a8, a9, a10] μ = .nx [a0, a1, a2, a3, some (.dat (.int last)), some (.dat (.list (rangeD 0 (if 40 < last then (40 : Int) else last).toNat))), some (.dat (ax a.flatten)), some (.dat (ax b.flatten)), a8, a9, a10] μ := by
  have kmin : bltD .min2 [.int last, .int 40] = some (.dat (.int (if 40 < last then 40 else last))) := rfl
  have r9 : (den GT (.blt .min2 (.cons (.var 4) (.cons (.lit (.int 40)) (.nil))))).e [a0, a1, a2, a3, some (.dat (.int last)), a5, some (.dat (ax a.flatten)), some (.dat (ax b.flatten)), a8, a9, a10] μ = .ok (.dat (.int (if 40 < last then 40 else last))) μ := by
    simp only [b_ok, b_exc, st_ok, st_exc, sq_nx, sq_rt, sq_bk, sq_ct, sq_exc, of_some, nox_ok, lk_dat, lk_fre, kp_dat, kp_fre, asB_b, asI_i, dB_, tR, s_nil, s_cons, s_pass, s_ret, s_xpr, s_set, s_setO, s_unp, s_sti, s_ifs, s_fo, s_rai, e_var, e_lit, e_dct, e_glb, e_bin, e_neg, e_nt, e_cmp, e_chn, e_bop, c_one, c_and, c_or, e_ife, e_tup, e_lst, e_idx, e_sli, e_blt, e_isi, k_nil, k_cons, bl_nil, bl_cons, a_nil, a_cons, o_nil, o_var, o_lit, intO_i, av_dat, av_fre, av_own, av_var, av_lit, av_glb, av_bin, av_idx, av_lst, av_tup, av_cal, av_blt, av_lend, i_seq, i_rng, sl_0, sl_s, lks_nil, s_par, pn_nil, pn_f, pn_t, st_nil, st_cons, s_app2, ow_0, ow_s, cm_eqi, cm_nei, cm_nes, cm_eqs, cm_neb, rv_dat, rv_fre, lk_0, lk_1, lk_2, i3_0, i3_1, i3_2, t3_1, t3_2, ka_dat, ka_fre, ka_own, tn_fre, tg_nm, bi_add, bi_sub, cm_lt, cm_le, cm_gt, cm_ge, cm_is, bt_len, bt_lenT, bt_int, bt_list, bt_tuple, bt_min, List.set_cons_zero, List.set_cons_succ, cond_true, cond_false, tg_2, tn_own, pn_o, t2_0, t2_1, av_neg, av_nt, av_cmp, av_ife, av_sli, av_lc, av_dct, av_bop, o_bin, o_neg, lk_0a, lk_1a, lk_2a, tn_fd, tn_ff, tn_fo, tn_fn, pn_ff, pn_fo, lks_dat lks_nil, lks_dat (lks_dat lks_nil), kmin]
  have r9' := lrg_ok GT r9 (by split <;> omega) (by split <;> omega)
  rw [s_set, r9', b_ok, tn_ff, st_ok]
  rfl
theorem q_b (va : Vld a) (vb : Vld b) {L : List D} (hl : L.length ≤ 1000) (h : allI (fun i => 0 ≤ i ∧ i.natAbs < 2 ^ 133 ∧ worth a.flatten i = worth b.flatten i) L) {μ : List Cell} : (den GT (.cons irQb .nil)).s [a0, a1, a2, a3, a4, some (.dat (.list L)), some (.dat (ax a.flatten)), some (.dat (ax b.flatten)), a8, a9, a10] μ = .rt (.dat (.bool true)) μ := by
  have pk := pk_none va vb (a0 := a0) (a1 := a1) (a2 := a2) (a3 := a3) (a4 := a4) (a8 := a8) (a9 := a9) (a10 := a10) hl h (μ := μ)
  simp only [b_ok, b_exc, st_ok, st_exc, sq_nx, sq_rt, sq_bk, sq_ct, sq_exc, of_some, nox_ok, lk_dat, lk_fre, kp_dat, kp_fre, asB_b, asI_i, dB_, tR, s_nil, s_cons, s_pass, s_ret, s_xpr, s_set, s_setO, s_unp, s_sti, s_ifs, s_fo, s_rai, e_var, e_lit, e_dct, e_glb, e_bin, e_neg, e_nt, e_cmp, e_chn, e_bop, c_one, c_and, c_or, e_ife, e_tup, e_lst, e_idx, e_sli, e_blt, e_isi, k_nil, k_cons, bl_nil, bl_cons, a_nil, a_cons, o_nil, o_var, o_lit, intO_i, av_dat, av_fre, av_own, av_var, av_lit, av_glb, av_bin, av_idx, av_lst, av_tup, av_cal, av_blt, av_lend, i_seq, i_rng, sl_0, sl_s, lks_nil, s_par, pn_nil, pn_f, pn_t, st_nil, st_cons, s_app2, ow_0, ow_s, cm_eqi, cm_nei, cm_nes, cm_eqs, cm_neb, rv_dat, rv_fre, lk_0, lk_1, lk_2, i3_0, i3_1, i3_2, t3_1, t3_2, ka_dat, ka_fre, ka_own, tn_fre, tg_nm, bi_add, bi_sub, cm_lt, cm_le, cm_gt, cm_ge, cm_is, bt_len, bt_lenT, bt_int, bt_list, bt_tuple, bt_min, List.set_cons_zero, List.set_cons_succ, cond_true, cond_false, tg_2, tn_own, pn_o, t2_0, t2_1, av_neg, av_nt, av_cmp, av_ife, av_sli, av_lc, av_dct, av_bop, o_bin, o_neg, lk_0a, lk_1a, lk_2a, tn_fd, tn_ff, tn_fo, tn_fn, pn_ff, pn_fo, pk, cm_eqNil sh_nil, List.isEmpty_nil]
theorem q_a {last : Int} (l0 : 1 ≤ last) (l1 : last ≤ M40) (p : Pen n ds) (hn : n ≤ 998000000) {L0 : List D} (h4 : 40 < last) : ∃ (l : List D) (ds1 : List D), allI (fun i => 0 ≤ i ∧ i < last) l ∧ l.length = 8 ∧ Pen (n + 8) ds1 ∧ (den GT irQa).s [some (.own 0), a1, a2, a3, some (.dat (.int last)), some (.dat (.list L0)), some (.dat (ax a.flatten)), some (.dat (ax b.flatten)), a8, a9, none] [⟨.arg, ds⟩] = .nx [some (.own 0), a1, a2, a3, some (.dat (.int last)), some (.dat (.list (l ++ [.int (last - 1), .int (last / 2)]))), some (.dat (ax a.flatten)), some (.dat (ax b.flatten)), a8, a9, none] [⟨.arg, ds1⟩] := by
  have kd : okDiv 2 = true := by decide
  have hM : M40.natAbs < 2 ^ 133 := by decide
  have lb : last.natAbs < 2 ^ 133 := by omega
  obtain ⟨l, ds1, hl, ll, p1, e1⟩ := tk_loop (a1 := a1) (a2 := a2) (a3 := a3) (a5 := some (.dat (.list L0))) (a6 := some (.dat (ax a.flatten))) (a7 := some (.dat (ax b.flatten))) (a8 := a8) (a9 := a9) (m := last) l0 (Nat.lt_of_lt_of_le lb (Nat.pow_le_pow_right (by decide) (by decide))) (st := .arg) (.inr rfl) (R := []) (rangeD 0 8) p (by rw [show (rangeD 0 8).length = 8 from rfl]; omega)
  have l8 : l.length = 8 := ll
  have lc : (den GT irTK).e [some (.own 0), a1, a2, a3, some (.dat (.int last)), some (.dat (.list L0)), some (.dat (ax a.flatten)), some (.dat (ax b.flatten)), a8, a9, none] [⟨.arg, ds⟩] = .ok (.fre l) [⟨.arg, ds1⟩] := by
    refine lc_ok (ds := rangeD 0 8) (μ1 := [⟨.arg, ds⟩]) ?_ e1 (by decide)
    simp only [b_ok, b_exc, st_ok, st_exc, sq_nx, sq_rt, sq_bk, sq_ct, sq_exc, of_some, nox_ok, lk_dat, lk_fre, kp_dat, kp_fre, asB_b, asI_i, dB_, tR, s_nil, s_cons, s_pass, s_ret, s_xpr, s_set, s_setO, s_unp, s_sti, s_ifs, s_fo, s_rai, e_var, e_lit, e_dct, e_glb, e_bin, e_neg, e_nt, e_cmp, e_chn, e_bop, c_one, c_and, c_or, e_ife, e_tup, e_lst, e_idx, e_sli, e_blt, e_isi, k_nil, k_cons, bl_nil, bl_cons, a_nil, a_cons, o_nil, o_var, o_lit, intO_i, av_dat, av_fre, av_own, av_var, av_lit, av_glb, av_bin, av_idx, av_lst, av_tup, av_cal, av_blt, av_lend, i_seq, i_rng, sl_0, sl_s, lks_nil, s_par, pn_nil, pn_f, pn_t, st_nil, st_cons, s_app2, ow_0, ow_s, cm_eqi, cm_nei, cm_nes, cm_eqs, cm_neb, rv_dat, rv_fre, lk_0, lk_1, lk_2, i3_0, i3_1, i3_2, t3_1, t3_2, ka_dat, ka_fre, ka_own, tn_fre, tg_nm, bi_add, bi_sub, cm_lt, cm_le, cm_gt, cm_ge, cm_is, bt_len, bt_lenT, bt_int, bt_list, bt_tuple, bt_min, List.set_cons_zero, List.set_cons_succ, cond_true, cond_false, tg_2, tn_own, pn_o, t2_0, t2_1, av_neg, av_nt, av_cmp, av_ife, av_sli, av_lc, av_dct, av_bop, o_bin, o_neg, lk_0a, lk_1a, lk_2a, tn_fd, tn_ff, tn_fo, tn_fn, pn_ff, pn_fo, lks_dat lks_nil, show rngD [.int 8] = some (rangeD 0 8) from rfl]
  have hc : bin2 .Add (.list l) (.list [.int (last - 1), .int (last / 2)]) = some (.fre (l ++ [.int (last - 1), .int (last / 2)])) := bi_cat (size7 (by simp; omega))
  refine ⟨l, ds1, hl, l8, p1, ?_⟩
  simp only [b_ok, b_exc, st_ok, st_exc, sq_nx, sq_rt, sq_bk, sq_ct, sq_exc, of_some, nox_ok, lk_dat, lk_fre, kp_dat, kp_fre, asB_b, asI_i, dB_, tR, s_nil, s_cons, s_pass, s_ret, s_xpr, s_set, s_setO, s_unp, s_sti, s_ifs, s_fo, s_rai, e_var, e_lit, e_dct, e_glb, e_bin, e_neg, e_nt, e_cmp, e_chn, e_bop, c_one, c_and, c_or, e_ife, e_tup, e_lst, e_idx, e_sli, e_blt, e_isi, k_nil, k_cons, bl_nil, bl_cons, a_nil, a_cons, o_nil, o_var, o_lit, intO_i, av_dat, av_fre, av_own, av_var, av_lit, av_glb, av_bin, av_idx, av_lst, av_tup, av_cal, av_blt, av_lend, i_seq, i_rng, sl_0, sl_s, lks_nil, s_par, pn_nil, pn_f, pn_t, st_nil, st_cons, s_app2, ow_0, ow_s, cm_eqi, cm_nei, cm_nes, cm_eqs, cm_neb, rv_dat, rv_fre, lk_0, lk_1, lk_2, i3_0, i3_1, i3_2, t3_1, t3_2, ka_dat, ka_fre, ka_own, tn_fre, tg_nm, bi_add, bi_sub, cm_lt, cm_le, cm_gt, cm_ge, cm_is, bt_len, bt_lenT, bt_int, bt_list, bt_tuple, bt_min, List.set_cons_zero, List.set_cons_succ, cond_true, cond_false, tg_2, tn_own, pn_o, t2_0, t2_1, av_neg, av_nt, av_cmp, av_ife, av_sli, av_lc, av_dct, av_bop, o_bin, o_neg, lk_0a, lk_1a, lk_2a, tn_fd, tn_ff, tn_fo, tn_fn, pn_ff, pn_fo, decide_eq_true h4, lc, bi_div kd, hc]
theorem q_fin (va : Vld a) (vb : Vld b) {last : Int} (l0 : 1 ≤ last) (l1 : last ≤ M40) (hw : ∀ i, 0 ≤ i → i < last → worth a.flatten i = worth b.flatten i) (p : Pen n ds) (hn : n ≤ 998000000) : ∃ ds', Pen (n + 8) ds' ∧ (den GT (.cons irQ9 (.cons irQa (.cons irQb .nil)))).s [some (.own 0), a1, a2, a3, some (.dat (.int last)), a5, some (.dat (ax a.flatten)), some (.dat (ax b.flatten)), a8, a9, none] [⟨.arg, ds⟩] = .rt (.dat (.bool true)) [⟨.arg, ds'⟩] := by
  have hM : M40.natAbs < 2 ^ 133 := by decide
  have lb : last.natAbs < 2 ^ 133 := by omega
  by_cases h4 : 40 < last
  · obtain ⟨l, ds1, hl, l8, p1, xa⟩ := q_a (a := a) (b := b) (a1 := a1) (a2 := a2) (a3 := a3) (a8 := a8) (a9 := a9) l0 l1 p hn (L0 := rangeD 0 (if 40 < last then (40 : Int) else last).toNat) h4
    have hb : allI (fun i => 0 ≤ i ∧ i.natAbs < 2 ^ 133 ∧ worth a.flatten i = worth b.flatten i) (l ++ [.int (last - 1), .int (last / 2)]) := fun d hd => by
      rcases List.mem_append.mp hd with hd | hd
      · obtain ⟨i, rfl, i0, i1⟩ := hl d hd
        exact ⟨i, rfl, i0, by omega, hw i i0 i1⟩
      · simp only [List.mem_cons, List.not_mem_nil, or_false] at hd
        rcases hd with rfl | rfl
        · exact ⟨last - 1, rfl, by omega, by omega, hw _ (by omega) (by omega)⟩
        · exact ⟨last / 2, rfl, by omega, by omega, hw _ (by omega) (by omega)⟩
    refine ⟨ds1, p1, ?_⟩
    rw [s_cons, q_9 l0, sq_nx, s_cons, xa, sq_nx, q_b va vb (by simp; omega) hb]
  · have xa : (den GT irQa).s [some (.own 0), a1, a2, a3, some (.dat (.int last)), some (.dat (.list (rangeD 0 (if 40 < last then (40 : Int) else last).toNat))), some (.dat (ax a.flatten)), some (.dat (ax b.flatten)), a8, a9, none] [⟨.arg, ds⟩] = .nx [some (.own 0), a1, a2, a3, some (.dat (.int last)), some (.dat (.list (rangeD 0 (if 40 < last then (40 : Int) else last).toNat))), some (.dat (ax a.flatten)), some (.dat (ax b.flatten)), a8, a9, none] [⟨.arg, ds⟩] := by
      simp only [b_ok, b_exc, st_ok, st_exc, sq_nx, sq_rt, sq_bk, sq_ct, sq_exc, of_some, nox_ok, lk_dat, lk_fre, kp_dat, kp_fre, asB_b, asI_i, dB_, tR, s_nil, s_cons, s_pass, s_ret, s_xpr, s_set, s_setO, s_unp, s_sti, s_ifs, s_fo, s_rai, e_var, e_lit, e_dct, e_glb, e_bin, e_neg, e_nt, e_cmp, e_chn, e_bop, c_one, c_and, c_or, e_ife, e_tup, e_lst, e_idx, e_sli, e_blt, e_isi, k_nil, k_cons, bl_nil, bl_cons, a_nil, a_cons, o_nil, o_var, o_lit, intO_i, av_dat, av_fre, av_own, av_var, av_lit, av_glb, av_bin, av_idx, av_lst, av_tup, av_cal, av_blt, av_lend, i_seq, i_rng, sl_0, sl_s, lks_nil, s_par, pn_nil, pn_f, pn_t, st_nil, st_cons, s_app2, ow_0, ow_s, cm_eqi, cm_nei, cm_nes, cm_eqs, cm_neb, rv_dat, rv_fre, lk_0, lk_1, lk_2, i3_0, i3_1, i3_2, t3_1, t3_2, ka_dat, ka_fre, ka_own, tn_fre, tg_nm, bi_add, bi_sub, cm_lt, cm_le, cm_gt, cm_ge, cm_is, bt_len, bt_lenT, bt_int, bt_list, bt_tuple, bt_min, List.set_cons_zero, List.set_cons_succ, cond_true, cond_false, tg_2, tn_own, pn_o, t2_0, t2_1, av_neg, av_nt, av_cmp, av_ife, av_sli, av_lc, av_dct, av_bop, o_bin, o_neg, lk_0a, lk_1a, lk_2a, tn_fd, tn_ff, tn_fo, tn_fn, pn_ff, pn_fo, decide_eq_false h4]
    have hb : allI (fun i => 0 ≤ i ∧ i.natAbs < 2 ^ 133 ∧ worth a.flatten i = worth b.flatten i) (rangeD 0 (if 40 < last then (40 : Int) else last).toNat) := by
      rw [if_neg h4]
      exact range_all _ 0 fun i i0 i1 => ⟨i0, by omega, hw i i0 (by omega)⟩
    have hl : (rangeD 0 (if 40 < last then (40 : Int) else last).toNat).length ≤ 1000 := by
      have : ∀ (n : Nat) (lo : Int), (rangeD lo n).length = n := fun n => by
        induction n with
        | zero => intro lo; rfl
        | succ n ih =>
          intro lo
          show (rangeD (lo + 1) n).length + 1 = n + 1
          rw [ih]
      rw [this, if_neg h4]
      omega
    refine ⟨ds, p.mono (by omega), ?_⟩
    rw [s_cons, q_9 l0, sq_nx, s_cons, xa, sq_nx, q_b va vb hl hb]
end
theorem told_core {n : Nat} {ds : List D} {a b : List (List Md)} (p : Pen n ds) (hn : n ≤ 998000000) (va : Vld a) (vb : Vld b) {d : D} {last : Int}
    (eA : callR c21 [.dat (axs a), .dat (axs b)] [⟨.arg, ds⟩] = .ok (.dat d) [⟨.arg, ds⟩]) (eB : callR c21 [.dat (axs b), .dat (axs a)] [⟨.arg, ds⟩] = .ok (.dat d) [⟨.arg, ds⟩]) (eS : callR c22 [.dat d, .dat d] [⟨.arg, ds⟩] = .ok (.dat (.bool true)) [⟨.arg, ds⟩])
    (l0 : 1 ≤ last) (l1 : last ≤ M40) (hw : ∀ i, 0 ≤ i → i < last → worth a.flatten i = worth b.flatten i)
    (x3 : (den GT irQ3).s [some (.own 0), some (.dat (axs a)), some (.dat (axs b)), some (.dat (.list [.int (size a.flatten), .int (size b.flatten)])), none, none, some (.dat (ax a.flatten)), some (.dat (ax b.flatten)), some (.dat d), none, none] [⟨.arg, ds⟩] = .nx [some (.own 0), some (.dat (axs a)), some (.dat (axs b)), some (.dat (.list [.int (size a.flatten), .int (size b.flatten)])), none, none, some (.dat (ax a.flatten)), some (.dat (ax b.flatten)), some (.dat d), none, none] [⟨.arg, ds⟩])
    (x5 : (den GT irQ5).s [some (.own 0), some (.dat (axs a)), some (.dat (axs b)), some (.dat (.list [.int (size a.flatten), .int (size b.flatten)])), none, none, some (.dat (ax a.flatten)), some (.dat (ax b.flatten)), some (.dat d), none, none] [⟨.arg, ds⟩] = .nx [some (.own 0), some (.dat (axs a)), some (.dat (axs b)), some (.dat (.list [.int (size a.flatten), .int (size b.flatten)])), some (.dat (.int last)), none, some (.dat (ax a.flatten)), some (.dat (ax b.flatten)), some (.dat d), none, none] [⟨.arg, ds⟩])
    (x6 : ∀ x ∈ [irQ6, irQ7, irQ8], (den GT x).s [some (.own 0), some (.dat (axs a)), some (.dat (axs b)), some (.dat (.list [.int (size a.flatten), .int (size b.flatten)])), some (.dat (.int last)), none, some (.dat (ax a.flatten)), some (.dat (ax b.flatten)), some (.dat d), none, none] [⟨.arg, ds⟩] = .nx [some (.own 0), some (.dat (axs a)), some (.dat (axs b)), some (.dat (.list [.int (size a.flatten), .int (size b.flatten)])), some (.dat (.int last)), none, some (.dat (ax a.flatten)), some (.dat (ax b.flatten)), some (.dat d), none, none] [⟨.arg, ds⟩]) :
    ∃ ds', Pen (n + 8) ds' ∧ c26.sem [.own ds, .dat (axs a), .dat (axs b)] = some (.ret (.dat (.bool true)) [ds']) := by
  have gf : GT.ces[5]? = some c5 := rfl
  have ga : GT.ces[21]? = some c21 := rfl
  have gm : GT.ces[10]? = some c10 := rfl
  have gsm : GT.ces[22]? = some c22 := rfl
  have ma := va.many
  have mb := vb.many
  have m1 := call_many (ms := a.flatten) (μ := [⟨.arg, ds⟩]) va.s
  have m2 := call_many (ms := b.flatten) (μ := [⟨.arg, ds⟩]) vb.s
  have q1 : (den GT irQ1).s [some (.own 0), some (.dat (axs a)), some (.dat (axs b)), none, none, none, none, none, none, none, none] [⟨.arg, ds⟩] = .nx [some (.own 0), some (.dat (axs a)), some (.dat (axs b)), none, none, none, some (.dat (ax a.flatten)), some (.dat (ax b.flatten)), some (.dat d), none, none] [⟨.arg, ds⟩] := by
    simp only [b_ok, b_exc, st_ok, st_exc, sq_nx, sq_rt, sq_bk, sq_ct, sq_exc, of_some, nox_ok, lk_dat, lk_fre, kp_dat, kp_fre, asB_b, asI_i, dB_, tR, s_nil, s_cons, s_pass, s_ret, s_xpr, s_set, s_setO, s_unp, s_sti, s_ifs, s_fo, s_rai, e_var, e_lit, e_dct, e_glb, e_bin, e_neg, e_nt, e_cmp, e_chn, e_bop, c_one, c_and, c_or, e_ife, e_tup, e_lst, e_idx, e_sli, e_blt, e_isi, k_nil, k_cons, bl_nil, bl_cons, a_nil, a_cons, o_nil, o_var, o_lit, intO_i, av_dat, av_fre, av_own, av_var, av_lit, av_glb, av_bin, av_idx, av_lst, av_tup, av_cal, av_blt, av_lend, i_seq, i_rng, sl_0, sl_s, lks_nil, s_par, pn_nil, pn_f, pn_t, st_nil, st_cons, s_app2, ow_0, ow_s, cm_eqi, cm_nei, cm_nes, cm_eqs, cm_neb, rv_dat, rv_fre, lk_0, lk_1, lk_2, i3_0, i3_1, i3_2, t3_1, t3_2, ka_dat, ka_fre, ka_own, tn_fre, tg_nm, bi_add, bi_sub, cm_lt, cm_le, cm_gt, cm_ge, cm_is, bt_len, bt_lenT, bt_int, bt_list, bt_tuple, bt_min, List.set_cons_zero, List.set_cons_succ, cond_true, cond_false, tg_2, tn_own, pn_o, t2_0, t2_1, av_neg, av_nt, av_cmp, av_ife, av_sli, av_lc, av_dct, av_bop, o_bin, o_neg, lk_0a, lk_1a, lk_2a, tn_fd, tn_ff, tn_fo, tn_fn, pn_ff, pn_fo, List.map_cons, List.map_nil, e_cal gf, e_cal ga, call_flat (show a.flatten.length ≤ 10000 by omega), call_flat (show b.flatten.length ≤ 10000 by omega), eA]
  have q2 : (den GT irQ2).s [some (.own 0), some (.dat (axs a)), some (.dat (axs b)), none, none, none, some (.dat (ax a.flatten)), some (.dat (ax b.flatten)), some (.dat d), none, none] [⟨.arg, ds⟩] = .nx [some (.own 0), some (.dat (axs a)), some (.dat (axs b)), some (.dat (.list [.int (size a.flatten), .int (size b.flatten)])), none, none, some (.dat (ax a.flatten)), some (.dat (ax b.flatten)), some (.dat d), none, none] [⟨.arg, ds⟩] := by
    simp only [b_ok, b_exc, st_ok, st_exc, sq_nx, sq_rt, sq_bk, sq_ct, sq_exc, of_some, nox_ok, lk_dat, lk_fre, kp_dat, kp_fre, asB_b, asI_i, dB_, tR, s_nil, s_cons, s_pass, s_ret, s_xpr, s_set, s_setO, s_unp, s_sti, s_ifs, s_fo, s_rai, e_var, e_lit, e_dct, e_glb, e_bin, e_neg, e_nt, e_cmp, e_chn, e_bop, c_one, c_and, c_or, e_ife, e_tup, e_lst, e_idx, e_sli, e_blt, e_isi, k_nil, k_cons, bl_nil, bl_cons, a_nil, a_cons, o_nil, o_var, o_lit, intO_i, av_dat, av_fre, av_own, av_var, av_lit, av_glb, av_bin, av_idx, av_lst, av_tup, av_cal, av_blt, av_lend, i_seq, i_rng, sl_0, sl_s, lks_nil, s_par, pn_nil, pn_f, pn_t, st_nil, st_cons, s_app2, ow_0, ow_s, cm_eqi, cm_nei, cm_nes, cm_eqs, cm_neb, rv_dat, rv_fre, lk_0, lk_1, lk_2, i3_0, i3_1, i3_2, t3_1, t3_2, ka_dat, ka_fre, ka_own, tn_fre, tg_nm, bi_add, bi_sub, cm_lt, cm_le, cm_gt, cm_ge, cm_is, bt_len, bt_lenT, bt_int, bt_list, bt_tuple, bt_min, List.set_cons_zero, List.set_cons_succ, cond_true, cond_false, tg_2, tn_own, pn_o, t2_0, t2_1, av_neg, av_nt, av_cmp, av_ife, av_sli, av_lc, av_dct, av_bop, o_bin, o_neg, lk_0a, lk_1a, lk_2a, tn_fd, tn_ff, tn_fo, tn_fn, pn_ff, pn_fo, e_cal gm, m1, m2]
  have q4 : (den GT irQ4).s [some (.own 0), some (.dat (axs a)), some (.dat (axs b)), some (.dat (.list [.int (size a.flatten), .int (size b.flatten)])), none, none, some (.dat (ax a.flatten)), some (.dat (ax b.flatten)), some (.dat d), none, none] [⟨.arg, ds⟩] = .nx [some (.own 0), some (.dat (axs a)), some (.dat (axs b)), some (.dat (.list [.int (size a.flatten), .int (size b.flatten)])), none, none, some (.dat (ax a.flatten)), some (.dat (ax b.flatten)), some (.dat d), none, none] [⟨.arg, ds⟩] := by
    simp only [b_ok, b_exc, st_ok, st_exc, sq_nx, sq_rt, sq_bk, sq_ct, sq_exc, of_some, nox_ok, lk_dat, lk_fre, kp_dat, kp_fre, asB_b, asI_i, dB_, tR, s_nil, s_cons, s_pass, s_ret, s_xpr, s_set, s_setO, s_unp, s_sti, s_ifs, s_fo, s_rai, e_var, e_lit, e_dct, e_glb, e_bin, e_neg, e_nt, e_cmp, e_chn, e_bop, c_one, c_and, c_or, e_ife, e_tup, e_lst, e_idx, e_sli, e_blt, e_isi, k_nil, k_cons, bl_nil, bl_cons, a_nil, a_cons, o_nil, o_var, o_lit, intO_i, av_dat, av_fre, av_own, av_var, av_lit, av_glb, av_bin, av_idx, av_lst, av_tup, av_cal, av_blt, av_lend, i_seq, i_rng, sl_0, sl_s, lks_nil, s_par, pn_nil, pn_f, pn_t, st_nil, st_cons, s_app2, ow_0, ow_s, cm_eqi, cm_nei, cm_nes, cm_eqs, cm_neb, rv_dat, rv_fre, lk_0, lk_1, lk_2, i3_0, i3_1, i3_2, t3_1, t3_2, ka_dat, ka_fre, ka_own, tn_fre, tg_nm, bi_add, bi_sub, cm_lt, cm_le, cm_gt, cm_ge, cm_is, bt_len, bt_lenT, bt_int, bt_list, bt_tuple, bt_min, List.set_cons_zero, List.set_cons_succ, cond_true, cond_false, tg_2, tn_own, pn_o, t2_0, t2_1, av_neg, av_nt, av_cmp, av_ife, av_sli, av_lc, av_dct, av_bop, o_bin, o_neg, lk_0a, lk_1a, lk_2a, tn_fd, tn_ff, tn_fo, tn_fn, pn_ff, pn_fo, e_cal ga, e_cal gsm, eB, eS, Bool.not_true]
  obtain ⟨ds', p', ef⟩ := q_fin (a1 := some (.dat (axs a))) (a2 := some (.dat (axs b))) (a3 := some (.dat (.list [.int (size a.flatten), .int (size b.flatten)]))) (a5 := none) (a8 := some (.dat d)) (a9 := none) va vb l0 l1 hw p hn
  refine ⟨ds', p', ?_⟩
  show outOf 1 ((den GT ir__law_told_right).s [some (.own 0), some (.dat (axs a)), some (.dat (axs b)), none, none, none, none, none, none, none, none] [⟨.arg, ds⟩]) = _
  unfold ir__law_told_right
  rw [s_cons, q1, sq_nx, s_cons, q2, sq_nx, s_cons, x3, sq_nx, s_cons, q4, sq_nx, s_cons, x5, sq_nx, s_cons, x6 irQ6 (by simp), sq_nx, s_cons, x6 irQ7 (by simp), sq_nx, s_cons, x6 irQ8 (by simp), sq_nx, ef]
  rfl
theorem told_sem {n : Nat} {ds : List D} {a b : List (List Md)} (p : Pen n ds) (hn : n ≤ 998000000) (va : Vld a) (vb : Vld b) : ∃ ds', Pen (n + 8) ds' ∧ c26.sem [.own ds, .dat (axs a), .dat (axs b)] = some (.ret (.dat (.bool true)) [ds']) := by
  have gs : GT.ces[23]? = some c23 := rfl
  have gi : GT.ces[24]? = some c24 := rfl
  have gw : GT.ces[25]? = some c25 := rfl
  have ma := va.many
  have mb := vb.many
  have za := size_pos va.pos
  have zb := size_pos vb.pos
  have sa := va.sz
  have sb := vb.sz
  have hM : M40.natAbs < 2 ^ 133 := by decide
  have eA : callR c21 [.dat (axs a), .dat (axs b)] [⟨.arg, ds⟩] = .ok (.dat (optD (apartA (short a.flatten) (short b.flatten) 1))) [⟨.arg, ds⟩] := call_dat (r := .dat (optD (apartA (short a.flatten) (short b.flatten) 1))) rfl rfl rfl (apart_call va vb) (.inr rfl)
  have eB : callR c21 [.dat (axs b), .dat (axs a)] [⟨.arg, ds⟩] = .ok (.dat (optD (apartA (short a.flatten) (short b.flatten) 1))) [⟨.arg, ds⟩] := call_dat (r := .dat (optD (apartA (short a.flatten) (short b.flatten) 1))) rfl rfl rfl (by rw [apart_call vb va, apart_comm]) (.inr rfl)
  have eS := call_same (apartA (short a.flatten) (short b.flatten) 1) (μ := [⟨.arg, ds⟩])
  have s1 : callR c23 [.dat (ax a.flatten)] [⟨.arg, ds⟩] = .ok (.dat (ax (short a.flatten))) [⟨.arg, ds⟩] := call_lshort va.good va.sz (by omega)
  have s2 : callR c23 [.dat (ax b.flatten)] [⟨.arg, ds⟩] = .ok (.dat (ax (short b.flatten))) [⟨.arg, ds⟩] := call_lshort vb.good vb.sz (by omega)
  rcases told_facts va vb with ⟨h1, h2, h3, h4⟩ | ⟨u, h1, h2, u0, u1, u2, u3, h4, h5⟩
  · rw [h1] at eA eB eS
    refine told_core p hn va vb (d := .none) (last := size a.flatten) eA eB eS za sa (fun i _ _ => h4 i) ?_ ?_ fun x hx => ?_
    · simp only [b_ok, b_exc, st_ok, st_exc, sq_nx, sq_rt, sq_bk, sq_ct, sq_exc, of_some, nox_ok, lk_dat, lk_fre, kp_dat, kp_fre, asB_b, asI_i, dB_, tR, s_nil, s_cons, s_pass, s_ret, s_xpr, s_set, s_setO, s_unp, s_sti, s_ifs, s_fo, s_rai, e_var, e_lit, e_dct, e_glb, e_bin, e_neg, e_nt, e_cmp, e_chn, e_bop, c_one, c_and, c_or, e_ife, e_tup, e_lst, e_idx, e_sli, e_blt, e_isi, k_nil, k_cons, bl_nil, bl_cons, a_nil, a_cons, o_nil, o_var, o_lit, intO_i, av_dat, av_fre, av_own, av_var, av_lit, av_glb, av_bin, av_idx, av_lst, av_tup, av_cal, av_blt, av_lend, i_seq, i_rng, sl_0, sl_s, lks_nil, s_par, pn_nil, pn_f, pn_t, st_nil, st_cons, s_app2, ow_0, ow_s, cm_eqi, cm_nei, cm_nes, cm_eqs, cm_neb, rv_dat, rv_fre, lk_0, lk_1, lk_2, i3_0, i3_1, i3_2, t3_1, t3_2, ka_dat, ka_fre, ka_own, tn_fre, tg_nm, bi_add, bi_sub, cm_lt, cm_le, cm_gt, cm_ge, cm_is, bt_len, bt_lenT, bt_int, bt_list, bt_tuple, bt_min, List.set_cons_zero, List.set_cons_succ, cond_true, cond_false, tg_2, tn_own, pn_o, t2_0, t2_1, av_neg, av_nt, av_cmp, av_ife, av_sli, av_lc, av_dct, av_bop, o_bin, o_neg, lk_0a, lk_1a, lk_2a, tn_fd, tn_ff, tn_fo, tn_fn, pn_ff, pn_fo, e_cal gs, s1, s2, cm_is, cm_eqAx, isN, h2, decide_true, cm_neb, Bool.not_true]
    · simp only [b_ok, b_exc, st_ok, st_exc, sq_nx, sq_rt, sq_bk, sq_ct, sq_exc, of_some, nox_ok, lk_dat, lk_fre, kp_dat, kp_fre, asB_b, asI_i, dB_, tR, s_nil, s_cons, s_pass, s_ret, s_xpr, s_set, s_setO, s_unp, s_sti, s_ifs, s_fo, s_rai, e_var, e_lit, e_dct, e_glb, e_bin, e_neg, e_nt, e_cmp, e_chn, e_bop, c_one, c_and, c_or, e_ife, e_tup, e_lst, e_idx, e_sli, e_blt, e_isi, k_nil, k_cons, bl_nil, bl_cons, a_nil, a_cons, o_nil, o_var, o_lit, intO_i, av_dat, av_fre, av_own, av_var, av_lit, av_glb, av_bin, av_idx, av_lst, av_tup, av_cal, av_blt, av_lend, i_seq, i_rng, sl_0, sl_s, lks_nil, s_par, pn_nil, pn_f, pn_t, st_nil, st_cons, s_app2, ow_0, ow_s, cm_eqi, cm_nei, cm_nes, cm_eqs, cm_neb, rv_dat, rv_fre, lk_0, lk_1, lk_2, i3_0, i3_1, i3_2, t3_1, t3_2, ka_dat, ka_fre, ka_own, tn_fre, tg_nm, bi_add, bi_sub, cm_lt, cm_le, cm_gt, cm_ge, cm_is, bt_len, bt_lenT, bt_int, bt_list, bt_tuple, bt_min, List.set_cons_zero, List.set_cons_succ, cond_true, cond_false, tg_2, tn_own, pn_o, t2_0, t2_1, av_neg, av_nt, av_cmp, av_ife, av_sli, av_lc, av_dct, av_bop, o_bin, o_neg, lk_0a, lk_1a, lk_2a, tn_fd, tn_ff, tn_fo, tn_fn, pn_ff, pn_fo, cm_is, isN, lks_dat lks_nil, bt_min2l, ← h3, Int.lt_irrefl, if_false]
    · simp only [List.mem_cons, List.not_mem_nil, or_false] at hx
      rcases hx with rfl | rfl | rfl
      · simp only [b_ok, b_exc, st_ok, st_exc, sq_nx, sq_rt, sq_bk, sq_ct, sq_exc, of_some, nox_ok, lk_dat, lk_fre, kp_dat, kp_fre, asB_b, asI_i, dB_, tR, s_nil, s_cons, s_pass, s_ret, s_xpr, s_set, s_setO, s_unp, s_sti, s_ifs, s_fo, s_rai, e_var, e_lit, e_dct, e_glb, e_bin, e_neg, e_nt, e_cmp, e_chn, e_bop, c_one, c_and, c_or, e_ife, e_tup, e_lst, e_idx, e_sli, e_blt, e_isi, k_nil, k_cons, bl_nil, bl_cons, a_nil, a_cons, o_nil, o_var, o_lit, intO_i, av_dat, av_fre, av_own, av_var, av_lit, av_glb, av_bin, av_idx, av_lst, av_tup, av_cal, av_blt, av_lend, i_seq, i_rng, sl_0, sl_s, lks_nil, s_par, pn_nil, pn_f, pn_t, st_nil, st_cons, s_app2, ow_0, ow_s, cm_eqi, cm_nei, cm_nes, cm_eqs, cm_neb, rv_dat, rv_fre, lk_0, lk_1, lk_2, i3_0, i3_1, i3_2, t3_1, t3_2, ka_dat, ka_fre, ka_own, tn_fre, tg_nm, bi_add, bi_sub, cm_lt, cm_le, cm_gt, cm_ge, cm_is, bt_len, bt_lenT, bt_int, bt_list, bt_tuple, bt_min, List.set_cons_zero, List.set_cons_succ, cond_true, cond_false, tg_2, tn_own, pn_o, t2_0, t2_1, av_neg, av_nt, av_cmp, av_ife, av_sli, av_lc, av_dct, av_bop, o_bin, o_neg, lk_0a, lk_1a, lk_2a, tn_fd, tn_ff, tn_fo, tn_fn, pn_ff, pn_fo, cm_isn, isN, Bool.not_true]
      · simp only [b_ok, b_exc, st_ok, st_exc, sq_nx, sq_rt, sq_bk, sq_ct, sq_exc, of_some, nox_ok, lk_dat, lk_fre, kp_dat, kp_fre, asB_b, asI_i, dB_, tR, s_nil, s_cons, s_pass, s_ret, s_xpr, s_set, s_setO, s_unp, s_sti, s_ifs, s_fo, s_rai, e_var, e_lit, e_dct, e_glb, e_bin, e_neg, e_nt, e_cmp, e_chn, e_bop, c_one, c_and, c_or, e_ife, e_tup, e_lst, e_idx, e_sli, e_blt, e_isi, k_nil, k_cons, bl_nil, bl_cons, a_nil, a_cons, o_nil, o_var, o_lit, intO_i, av_dat, av_fre, av_own, av_var, av_lit, av_glb, av_bin, av_idx, av_lst, av_tup, av_cal, av_blt, av_lend, i_seq, i_rng, sl_0, sl_s, lks_nil, s_par, pn_nil, pn_f, pn_t, st_nil, st_cons, s_app2, ow_0, ow_s, cm_eqi, cm_nei, cm_nes, cm_eqs, cm_neb, rv_dat, rv_fre, lk_0, lk_1, lk_2, i3_0, i3_1, i3_2, t3_1, t3_2, ka_dat, ka_fre, ka_own, tn_fre, tg_nm, bi_add, bi_sub, cm_lt, cm_le, cm_gt, cm_ge, cm_is, bt_len, bt_lenT, bt_int, bt_list, bt_tuple, bt_min, List.set_cons_zero, List.set_cons_succ, cond_true, cond_false, tg_2, tn_own, pn_o, t2_0, t2_1, av_neg, av_nt, av_cmp, av_ife, av_sli, av_lc, av_dct, av_bop, o_bin, o_neg, lk_0a, lk_1a, lk_2a, tn_fd, tn_ff, tn_fo, tn_fn, pn_ff, pn_fo, cm_isn, isN, Bool.not_true]
      · simp only [b_ok, b_exc, st_ok, st_exc, sq_nx, sq_rt, sq_bk, sq_ct, sq_exc, of_some, nox_ok, lk_dat, lk_fre, kp_dat, kp_fre, asB_b, asI_i, dB_, tR, s_nil, s_cons, s_pass, s_ret, s_xpr, s_set, s_setO, s_unp, s_sti, s_ifs, s_fo, s_rai, e_var, e_lit, e_dct, e_glb, e_bin, e_neg, e_nt, e_cmp, e_chn, e_bop, c_one, c_and, c_or, e_ife, e_tup, e_lst, e_idx, e_sli, e_blt, e_isi, k_nil, k_cons, bl_nil, bl_cons, a_nil, a_cons, o_nil, o_var, o_lit, intO_i, av_dat, av_fre, av_own, av_var, av_lit, av_glb, av_bin, av_idx, av_lst, av_tup, av_cal, av_blt, av_lend, i_seq, i_rng, sl_0, sl_s, lks_nil, s_par, pn_nil, pn_f, pn_t, st_nil, st_cons, s_app2, ow_0, ow_s, cm_eqi, cm_nei, cm_nes, cm_eqs, cm_neb, rv_dat, rv_fre, lk_0, lk_1, lk_2, i3_0, i3_1, i3_2, t3_1, t3_2, ka_dat, ka_fre, ka_own, tn_fre, tg_nm, bi_add, bi_sub, cm_lt, cm_le, cm_gt, cm_ge, cm_is, bt_len, bt_lenT, bt_int, bt_list, bt_tuple, bt_min, List.set_cons_zero, List.set_cons_succ, cond_true, cond_false, tg_2, tn_own, pn_o, t2_0, t2_1, av_neg, av_nt, av_cmp, av_ife, av_sli, av_lc, av_dct, av_bop, o_bin, o_neg, lk_0a, lk_1a, lk_2a, tn_fd, tn_ff, tn_fo, tn_fn, pn_ff, pn_fo, cm_isn, cm_is, isN, Bool.not_true, ← h3, show ∀ x y : Int, idxD (.list [.int x, .int y]) (.int 0) = some (.int x) from fun _ _ => rfl, show ∀ x y : Int, idxD (.list [.int x, .int y]) (.int 1) = some (.int y) from fun _ _ => rfl, decide_true]
  · rw [h1] at eA eB eS
    have ub : u.natAbs < 2 ^ 133 := by omega
    refine told_core p hn va vb (d := .int u) (last := u) eA eB eS u0 (by omega) h4 ?_ ?_ fun x hx => ?_
    · simp only [b_ok, b_exc, st_ok, st_exc, sq_nx, sq_rt, sq_bk, sq_ct, sq_exc, of_some, nox_ok, lk_dat, lk_fre, kp_dat, kp_fre, asB_b, asI_i, dB_, tR, s_nil, s_cons, s_pass, s_ret, s_xpr, s_set, s_setO, s_unp, s_sti, s_ifs, s_fo, s_rai, e_var, e_lit, e_dct, e_glb, e_bin, e_neg, e_nt, e_cmp, e_chn, e_bop, c_one, c_and, c_or, e_ife, e_tup, e_lst, e_idx, e_sli, e_blt, e_isi, k_nil, k_cons, bl_nil, bl_cons, a_nil, a_cons, o_nil, o_var, o_lit, intO_i, av_dat, av_fre, av_own, av_var, av_lit, av_glb, av_bin, av_idx, av_lst, av_tup, av_cal, av_blt, av_lend, i_seq, i_rng, sl_0, sl_s, lks_nil, s_par, pn_nil, pn_f, pn_t, st_nil, st_cons, s_app2, ow_0, ow_s, cm_eqi, cm_nei, cm_nes, cm_eqs, cm_neb, rv_dat, rv_fre, lk_0, lk_1, lk_2, i3_0, i3_1, i3_2, t3_1, t3_2, ka_dat, ka_fre, ka_own, tn_fre, tg_nm, bi_add, bi_sub, cm_lt, cm_le, cm_gt, cm_ge, cm_is, bt_len, bt_lenT, bt_int, bt_list, bt_tuple, bt_min, List.set_cons_zero, List.set_cons_succ, cond_true, cond_false, tg_2, tn_own, pn_o, t2_0, t2_1, av_neg, av_nt, av_cmp, av_ife, av_sli, av_lc, av_dct, av_bop, o_bin, o_neg, lk_0a, lk_1a, lk_2a, tn_fd, tn_ff, tn_fo, tn_fn, pn_ff, pn_fo, e_cal gs, s1, s2, cm_is, cm_eqAx, isN, h2, decide_false, cm_neb, decide_true, Bool.not_true]
    · simp only [b_ok, b_exc, st_ok, st_exc, sq_nx, sq_rt, sq_bk, sq_ct, sq_exc, of_some, nox_ok, lk_dat, lk_fre, kp_dat, kp_fre, asB_b, asI_i, dB_, tR, s_nil, s_cons, s_pass, s_ret, s_xpr, s_set, s_setO, s_unp, s_sti, s_ifs, s_fo, s_rai, e_var, e_lit, e_dct, e_glb, e_bin, e_neg, e_nt, e_cmp, e_chn, e_bop, c_one, c_and, c_or, e_ife, e_tup, e_lst, e_idx, e_sli, e_blt, e_isi, k_nil, k_cons, bl_nil, bl_cons, a_nil, a_cons, o_nil, o_var, o_lit, intO_i, av_dat, av_fre, av_own, av_var, av_lit, av_glb, av_bin, av_idx, av_lst, av_tup, av_cal, av_blt, av_lend, i_seq, i_rng, sl_0, sl_s, lks_nil, s_par, pn_nil, pn_f, pn_t, st_nil, st_cons, s_app2, ow_0, ow_s, cm_eqi, cm_nei, cm_nes, cm_eqs, cm_neb, rv_dat, rv_fre, lk_0, lk_1, lk_2, i3_0, i3_1, i3_2, t3_1, t3_2, ka_dat, ka_fre, ka_own, tn_fre, tg_nm, bi_add, bi_sub, cm_lt, cm_le, cm_gt, cm_ge, cm_is, bt_len, bt_lenT, bt_int, bt_list, bt_tuple, bt_min, List.set_cons_zero, List.set_cons_succ, cond_true, cond_false, tg_2, tn_own, pn_o, t2_0, t2_1, av_neg, av_nt, av_cmp, av_ife, av_sli, av_lc, av_dct, av_bop, o_bin, o_neg, lk_0a, lk_1a, lk_2a, tn_fd, tn_ff, tn_fo, tn_fn, pn_ff, pn_fo, cm_is, isN]
    · simp only [List.mem_cons, List.not_mem_nil, or_false] at hx
      rcases hx with rfl | rfl | rfl
      · have ei : callR c24 [.dat (.int u), .dat (.int 0), .dat (.int ((if size b.flatten > size a.flatten then size b.flatten else size a.flatten) - 1))] [⟨.arg, ds⟩] = .ok (.dat (.bool true)) [⟨.arg, ds⟩] := call_dat (r := .dat (.bool true)) rfl rfl rfl (by
          rw [isint_sem2]
          have : isint (.int u) 0 ((if size b.flatten > size a.flatten then size b.flatten else size a.flatten) - 1) = true := by
            show (decide (0 ≤ u) && decide (u ≤ (if size b.flatten > size a.flatten then size b.flatten else size a.flatten) - 1)) = true
            rw [decide_eq_true (by omega), decide_eq_true (by split <;> omega)]
            rfl
          rw [this]) (.inr rfl)
        simp only [b_ok, b_exc, st_ok, st_exc, sq_nx, sq_rt, sq_bk, sq_ct, sq_exc, of_some, nox_ok, lk_dat, lk_fre, kp_dat, kp_fre, asB_b, asI_i, dB_, tR, s_nil, s_cons, s_pass, s_ret, s_xpr, s_set, s_setO, s_unp, s_sti, s_ifs, s_fo, s_rai, e_var, e_lit, e_dct, e_glb, e_bin, e_neg, e_nt, e_cmp, e_chn, e_bop, c_one, c_and, c_or, e_ife, e_tup, e_lst, e_idx, e_sli, e_blt, e_isi, k_nil, k_cons, bl_nil, bl_cons, a_nil, a_cons, o_nil, o_var, o_lit, intO_i, av_dat, av_fre, av_own, av_var, av_lit, av_glb, av_bin, av_idx, av_lst, av_tup, av_cal, av_blt, av_lend, i_seq, i_rng, sl_0, sl_s, lks_nil, s_par, pn_nil, pn_f, pn_t, st_nil, st_cons, s_app2, ow_0, ow_s, cm_eqi, cm_nei, cm_nes, cm_eqs, cm_neb, rv_dat, rv_fre, lk_0, lk_1, lk_2, i3_0, i3_1, i3_2, t3_1, t3_2, ka_dat, ka_fre, ka_own, tn_fre, tg_nm, bi_add, bi_sub, cm_lt, cm_le, cm_gt, cm_ge, cm_is, bt_len, bt_lenT, bt_int, bt_list, bt_tuple, bt_min, List.set_cons_zero, List.set_cons_succ, cond_true, cond_false, tg_2, tn_own, pn_o, t2_0, t2_1, av_neg, av_nt, av_cmp, av_ife, av_sli, av_lc, av_dct, av_bop, o_bin, o_neg, lk_0a, lk_1a, lk_2a, tn_fd, tn_ff, tn_fo, tn_fn, pn_ff, pn_fo, cm_isn, isN, Bool.not_false, lks_dat lks_nil, bt_max2l, e_cal gi, ei, Bool.not_true]
      · obtain ⟨w1, w2⟩ := lw_step va vb (i := u) (by omega) ub (μ := [⟨.arg, ds⟩])
        by_cases hq : u < (if size b.flatten < size a.flatten then size b.flatten else size a.flatten)
        · have hd : worth a.flatten u ≠ worth b.flatten u := h5 (by split at hq <;> omega) (by split at hq <;> omega)
          simp only [b_ok, b_exc, st_ok, st_exc, sq_nx, sq_rt, sq_bk, sq_ct, sq_exc, of_some, nox_ok, lk_dat, lk_fre, kp_dat, kp_fre, asB_b, asI_i, dB_, tR, s_nil, s_cons, s_pass, s_ret, s_xpr, s_set, s_setO, s_unp, s_sti, s_ifs, s_fo, s_rai, e_var, e_lit, e_dct, e_glb, e_bin, e_neg, e_nt, e_cmp, e_chn, e_bop, c_one, c_and, c_or, e_ife, e_tup, e_lst, e_idx, e_sli, e_blt, e_isi, k_nil, k_cons, bl_nil, bl_cons, a_nil, a_cons, o_nil, o_var, o_lit, intO_i, av_dat, av_fre, av_own, av_var, av_lit, av_glb, av_bin, av_idx, av_lst, av_tup, av_cal, av_blt, av_lend, i_seq, i_rng, sl_0, sl_s, lks_nil, s_par, pn_nil, pn_f, pn_t, st_nil, st_cons, s_app2, ow_0, ow_s, cm_eqi, cm_nei, cm_nes, cm_eqs, cm_neb, rv_dat, rv_fre, lk_0, lk_1, lk_2, i3_0, i3_1, i3_2, t3_1, t3_2, ka_dat, ka_fre, ka_own, tn_fre, tg_nm, bi_add, bi_sub, cm_lt, cm_le, cm_gt, cm_ge, cm_is, bt_len, bt_lenT, bt_int, bt_list, bt_tuple, bt_min, List.set_cons_zero, List.set_cons_succ, cond_true, cond_false, tg_2, tn_own, pn_o, t2_0, t2_1, av_neg, av_nt, av_cmp, av_ife, av_sli, av_lc, av_dct, av_bop, o_bin, o_neg, lk_0a, lk_1a, lk_2a, tn_fd, tn_ff, tn_fo, tn_fn, pn_ff, pn_fo, cm_isn, isN, Bool.not_false, lks_dat lks_nil, bt_min2l, decide_eq_true hq, e_cal gw, w1, w2, decide_eq_false hd]
        · simp only [b_ok, b_exc, st_ok, st_exc, sq_nx, sq_rt, sq_bk, sq_ct, sq_exc, of_some, nox_ok, lk_dat, lk_fre, kp_dat, kp_fre, asB_b, asI_i, dB_, tR, s_nil, s_cons, s_pass, s_ret, s_xpr, s_set, s_setO, s_unp, s_sti, s_ifs, s_fo, s_rai, e_var, e_lit, e_dct, e_glb, e_bin, e_neg, e_nt, e_cmp, e_chn, e_bop, c_one, c_and, c_or, e_ife, e_tup, e_lst, e_idx, e_sli, e_blt, e_isi, k_nil, k_cons, bl_nil, bl_cons, a_nil, a_cons, o_nil, o_var, o_lit, intO_i, av_dat, av_fre, av_own, av_var, av_lit, av_glb, av_bin, av_idx, av_lst, av_tup, av_cal, av_blt, av_lend, i_seq, i_rng, sl_0, sl_s, lks_nil, s_par, pn_nil, pn_f, pn_t, st_nil, st_cons, s_app2, ow_0, ow_s, cm_eqi, cm_nei, cm_nes, cm_eqs, cm_neb, rv_dat, rv_fre, lk_0, lk_1, lk_2, i3_0, i3_1, i3_2, t3_1, t3_2, ka_dat, ka_fre, ka_own, tn_fre, tg_nm, bi_add, bi_sub, cm_lt, cm_le, cm_gt, cm_ge, cm_is, bt_len, bt_lenT, bt_int, bt_list, bt_tuple, bt_min, List.set_cons_zero, List.set_cons_succ, cond_true, cond_false, tg_2, tn_own, pn_o, t2_0, t2_1, av_neg, av_nt, av_cmp, av_ife, av_sli, av_lc, av_dct, av_bop, o_bin, o_neg, lk_0a, lk_1a, lk_2a, tn_fd, tn_ff, tn_fo, tn_fn, pn_ff, pn_fo, cm_isn, isN, Bool.not_false, lks_dat lks_nil, bt_min2l, decide_eq_false hq]
      · have hq : ¬ ((if size b.flatten < size a.flatten then size b.flatten else size a.flatten) < u) := by split <;> omega
        simp only [b_ok, b_exc, st_ok, st_exc, sq_nx, sq_rt, sq_bk, sq_ct, sq_exc, of_some, nox_ok, lk_dat, lk_fre, kp_dat, kp_fre, asB_b, asI_i, dB_, tR, s_nil, s_cons, s_pass, s_ret, s_xpr, s_set, s_setO, s_unp, s_sti, s_ifs, s_fo, s_rai, e_var, e_lit, e_dct, e_glb, e_bin, e_neg, e_nt, e_cmp, e_chn, e_bop, c_one, c_and, c_or, e_ife, e_tup, e_lst, e_idx, e_sli, e_blt, e_isi, k_nil, k_cons, bl_nil, bl_cons, a_nil, a_cons, o_nil, o_var, o_lit, intO_i, av_dat, av_fre, av_own, av_var, av_lit, av_glb, av_bin, av_idx, av_lst, av_tup, av_cal, av_blt, av_lend, i_seq, i_rng, sl_0, sl_s, lks_nil, s_par, pn_nil, pn_f, pn_t, st_nil, st_cons, s_app2, ow_0, ow_s, cm_eqi, cm_nei, cm_nes, cm_eqs, cm_neb, rv_dat, rv_fre, lk_0, lk_1, lk_2, i3_0, i3_1, i3_2, t3_1, t3_2, ka_dat, ka_fre, ka_own, tn_fre, tg_nm, bi_add, bi_sub, cm_lt, cm_le, cm_gt, cm_ge, cm_is, bt_len, bt_lenT, bt_int, bt_list, bt_tuple, bt_min, List.set_cons_zero, List.set_cons_succ, cond_true, cond_false, tg_2, tn_own, pn_o, t2_0, t2_1, av_neg, av_nt, av_cmp, av_ife, av_sli, av_lc, av_dct, av_bop, o_bin, o_neg, lk_0a, lk_1a, lk_2a, tn_fd, tn_ff, tn_fo, tn_fn, pn_ff, pn_fo, cm_isn, cm_is, isN, Bool.not_false, lks_dat lks_nil, bt_min2l, decide_eq_false hq]
end K04

set_option maxHeartbeats 1000000
namespace K04
open DL
open PySem PySem.Spec PyProof.Rows L2
noncomputable abbrev GC : Ge := ⟨cs11, con, exc, sub⟩
section
variable {a0 a1 a2 a3 a4 a5 a6 a7 a8 a9 : Option SV}
theorem place_step {ds : List D} {R : List Cell} {o : Nat} {xs : List (List Md)} {ms PP : List Md} {n k : Nat} (ec : (⟨.arg, ds⟩ :: R : List Cell)[k]? = some ⟨.live, ms.map md⟩) (hms : ms.length ≤ 200) (hpl : PP.length ≤ 200) :
    (den GC (.cons (.set 2 (.bin .Add (.var 2) (.lc [("_law_j", 7)] (.nm 7) (.iRng (.cons (.blt .len (.cons (.var 6) (.nil))) (.nil))) (.nil) (.tup (.cons (.var 5) (.cons (.var 7) (.nil))))))) (.nil))).s [some (.own 0), some (.dat (axs xs)), some (.dat (ax PP)), some (.nst o), a4, some (.dat (.int n)), some (.own k), a7, a8, a9] (⟨.arg, ds⟩ :: R) =
      .nx [some (.own 0), some (.dat (axs xs)), some (.dat (ax (PP ++ (List.range' 0 ms.length).map fun j : Nat => ((n : Int), (j : Int))))), some (.nst o), a4, some (.dat (.int n)), some (.own k), a7, a8, a9] (⟨.arg, ds⟩ :: R) := by
  have hb : bltD .len [.list (ms.map md)] = some (.dat (.int (ms.length : Int))) := by rw [bt_len, List.length_map]
  have ei : (den GC (.iRng (.cons (.blt .len (.cons (.var 6) (.nil))) (.nil)))).i (([some (.own 0), some (.dat (axs xs)), some (.dat (ax PP)), some (.nst o), a4, some (.dat (.int n)), some (.own k), a7, a8, a9] : Rho)) (⟨.arg, ds⟩ :: R) = .ok (rangeD 0 ms.length) (⟨.arg, ds⟩ :: R) :=
    i_rng1 (e_blt1 rfl (look_own ec) hb) (rng_n (by omega))
  have lc : (den GC (.lc [("_law_j", 7)] (.nm 7) (.iRng (.cons (.blt .len (.cons (.var 6) (.nil))) (.nil))) (.nil) (.tup (.cons (.var 5) (.cons (.var 7) (.nil)))))).e [some (.own 0), some (.dat (axs xs)), some (.dat (ax PP)), some (.nst o), a4, some (.dat (.int n)), some (.own k), a7, a8, a9] (⟨.arg, ds⟩ :: R) = .ok (.fre ((rangeD 0 ms.length).map (tup2 n))) (⟨.arg, ds⟩ :: R) := by
    refine lc_ok (ds := rangeD 0 ms.length) ?_ (lcR_map fun d hd => ⟨[some (.own 0), some (.dat (axs xs)), some (.dat (ax PP)), some (.nst o), a4, some (.dat (.int n)), some (.own k), some (.dat d), a8, a9], rfl, ?_⟩) (by rw [range_len]; omega)
    · exact ei
    · simp only [b_ok, b_exc, st_ok, st_exc, sq_nx, sq_rt, sq_bk, sq_ct, sq_exc, of_some, nox_ok, lk_dat, lk_fre, kp_dat, kp_fre, asB_b, asI_i, dB_, tR, s_nil, s_cons, s_pass, s_ret, s_xpr, s_set, s_setO, s_unp, s_sti, s_ifs, s_fo, s_rai, e_var, e_lit, e_dct, e_glb, e_bin, e_neg, e_nt, e_cmp, e_chn, e_bop, c_one, c_and, c_or, e_ife, e_tup, e_lst, e_idx, e_sli, e_blt, e_isi, k_nil, k_cons, bl_nil, bl_cons, a_nil, a_cons, o_nil, o_var, o_lit, intO_i, av_dat, av_fre, av_own, av_var, av_lit, av_glb, av_bin, av_idx, av_lst, av_tup, av_cal, av_blt, av_lend, i_seq, i_rng, sl_0, sl_s, lks_nil, s_par, pn_nil, pn_f, pn_t, st_nil, st_cons, s_app2, ow_0, ow_s, cm_eqi, cm_nei, cm_nes, cm_eqs, cm_neb, rv_dat, rv_fre, lk_0, lk_1, lk_2, i3_0, i3_1, i3_2, t3_1, t3_2, ka_dat, ka_fre, ka_own, tn_fre, tg_nm, bi_add, bi_sub, cm_lt, cm_le, cm_gt, cm_ge, cm_is, bt_len, bt_lenT, bt_int, bt_list, bt_tuple, bt_min, List.set_cons_zero, List.set_cons_succ, cond_true, cond_false, tg_2, tn_own, pn_o, t2_0, t2_1, av_neg, av_nt, av_cmp, av_ife, av_sli, av_lc, av_dct, av_bop, o_bin, o_neg, lk_0a, lk_1a, lk_2a, tn_fd, tn_ff, tn_fo, tn_fn, pn_ff, pn_fo, lks1, lks1f, lks2, lks2f, lks2a, lks2b, lks3]
  rw [show (rangeD 0 ms.length).map (tup2 n) = _ from pairs_map n ms.length 0] at lc
  have hc : bin2 .Add (ax PP) (.list (((List.range' 0 ms.length).map fun j : Nat => ((n : Int), (j : Int))).map md)) = some (.fre ((PP ++ (List.range' 0 ms.length).map fun j : Nat => ((n : Int), (j : Int))).map md)) := by
    rw [show ax PP = PyData.list (PP.map md) from rfl, bi_cat (size7 (by rw [List.length_map, List.length_map, pn_len]; omega)), List.map_append]
  simp only [b_ok, b_exc, st_ok, st_exc, sq_nx, sq_rt, sq_bk, sq_ct, sq_exc, of_some, nox_ok, lk_dat, lk_fre, kp_dat, kp_fre, asB_b, asI_i, dB_, tR, s_nil, s_cons, s_pass, s_ret, s_xpr, s_set, s_setO, s_unp, s_sti, s_ifs, s_fo, s_rai, e_var, e_lit, e_dct, e_glb, e_bin, e_neg, e_nt, e_cmp, e_chn, e_bop, c_one, c_and, c_or, e_ife, e_tup, e_lst, e_idx, e_sli, e_blt, e_isi, k_nil, k_cons, bl_nil, bl_cons, a_nil, a_cons, o_nil, o_var, o_lit, intO_i, av_dat, av_fre, av_own, av_var, av_lit, av_glb, av_bin, av_idx, av_lst, av_tup, av_cal, av_blt, av_lend, i_seq, i_rng, sl_0, sl_s, lks_nil, s_par, pn_nil, pn_f, pn_t, st_nil, st_cons, s_app2, ow_0, ow_s, cm_eqi, cm_nei, cm_nes, cm_eqs, cm_neb, rv_dat, rv_fre, lk_0, lk_1, lk_2, i3_0, i3_1, i3_2, t3_1, t3_2, ka_dat, ka_fre, ka_own, tn_fre, tg_nm, bi_add, bi_sub, cm_lt, cm_le, cm_gt, cm_ge, cm_is, bt_len, bt_lenT, bt_int, bt_list, bt_tuple, bt_min, List.set_cons_zero, List.set_cons_succ, cond_true, cond_false, tg_2, tn_own, pn_o, t2_0, t2_1, av_neg, av_nt, av_cmp, av_ife, av_sli, av_lc, av_dct, av_bop, o_bin, o_neg, lk_0a, lk_1a, lk_2a, tn_fd, tn_ff, tn_fo, tn_fn, pn_ff, pn_fo, lks1, lks1f, lks2, lks2f, lks2a, lks2b, lks3, lc, hc]
theorem places_loop {ds : List D} {R : List Cell} {o : Nat} {ks : List Nat} {xs : List (List Md)} (h : Nst (⟨.arg, ds⟩ :: R) o ks xs) (hm : xs.flatten.length ≤ 200) : ∀ (r : List Nat) (n : Nat) (PP : List Md) {a5 a6 : Option SV}, (∀ i, r[i]? = ks[n + i]?) → Plc xs PP → PP.length = (xs.take n).flatten.length →
    ∃ (PP' : List Md) (b5 b6 : Option SV), Plc xs PP' ∧ PP'.length ≤ 200 ∧ forN o 5 6 (den GC (.cons (.set 2 (.bin .Add (.var 2) (.lc [("_law_j", 7)] (.nm 7) (.iRng (.cons (.blt .len (.cons (.var 6) (.nil))) (.nil))) (.nil) (.tup (.cons (.var 5) (.cons (.var 7) (.nil))))))) (.nil))).s (ks.map pt) n (r.map pt) [some (.own 0), some (.dat (axs xs)), some (.dat (ax PP)), some (.nst o), a4, a5, a6, a7, a8, a9] (⟨.arg, ds⟩ :: R) =
      .nx [some (.own 0), some (.dat (axs xs)), some (.dat (ax PP')), some (.nst o), a4, b5, b6, a7, a8, a9] (⟨.arg, ds⟩ :: R)
  | [], n, PP, a5, a6, _, hp, hl => ⟨PP, a5, a6, hp, by rw [hl]; exact take_len n hm, forN_end h.at_⟩
  | k :: r, n, PP, a5, a6, hr, hp, hl => by
    have ek : ks[n]? = some k := (hr 0).symm
    obtain ⟨ms, ex, ec⟩ := h.getK ek
    have hms : ms.length ≤ 200 := by
      obtain ⟨p, q, e1, _⟩ := split_ix ex
      rw [e1] at hm
      simp at hm
      omega
    have hpl : PP.length ≤ 200 := by rw [hl]; exact take_len n hm
    have et : xs.take (n + 1) = xs.take n ++ [ms] := by
      rw [List.take_add_one, ex]
      rfl
    obtain ⟨PP', b5, b6, q1, q2, q3⟩ := places_loop h hm r (n + 1) (PP ++ (List.range' 0 ms.length).map fun j : Nat => ((n : Int), (j : Int))) (a5 := some (.dat (.int n))) (a6 := some (.own k)) (fun i => by
      have := hr (i + 1)
      rw [show n + 1 + i = n + (i + 1) from by omega, ← this]
      rfl) (fun q hq => by
      rcases List.mem_append.mp hq with z | z
      · exact hp q z
      · obtain ⟨j, hj, rfl⟩ := List.mem_map.mp z
        have hj2 : j < ms.length := by
          have := List.mem_range'.mp hj
          omega
        exact ⟨n, j, ms, ms[j], rfl, ex, by simp [hj2]⟩) (by rw [et, List.flatten_append, List.length_append, List.length_append, hl, pn_len]; simp)
    refine ⟨PP', b5, b6, q1, q2, ?_⟩
    rw [← q3]
    exact forN_step h.at_ (place_step ec hms hpl)
end
end K04

set_option maxHeartbeats 1000000
namespace K04
open DL
open PySem PySem.Spec PyProof.Rows L2
/-- what has been changed -/
def Chg (xs ys : List (List Md)) : Prop := Vld ys ∧ ys.flatten.length ≤ xs.flatten.length + 1
section
variable {a0 a1 a2 a3 a4 a5 a6 a7 a8 a9 : Option SV}
theorem chg_end {ds : List D} {R : List Cell} {o : Nat} {ks : List Nat} {ys : List (List Md)} (h : Nst (⟨.arg, ds⟩ :: R) o ks ys) : ∃ R', (den GC (.ret (.frz (.var 3)))).s [a0, a1, a2, some (.nst o), a4, a5, a6, a7, a8, a9] (⟨.arg, ds⟩ :: R) = .rt (.dat (axs ys)) (⟨.arg, ds⟩ :: R') := by
  obtain ⟨R', e, _⟩ := h.keep1
  exact ⟨R', by simp only [b_ok, b_exc, st_ok, st_exc, sq_nx, sq_rt, sq_bk, sq_ct, sq_exc, of_some, nox_ok, lk_dat, lk_fre, kp_dat, kp_fre, asB_b, asI_i, dB_, tR, s_nil, s_cons, s_pass, s_ret, s_xpr, s_set, s_setO, s_unp, s_sti, s_ifs, s_fo, s_rai, e_var, e_lit, e_dct, e_glb, e_bin, e_neg, e_nt, e_cmp, e_chn, e_bop, c_one, c_and, c_or, e_ife, e_tup, e_lst, e_idx, e_sli, e_blt, e_isi, k_nil, k_cons, bl_nil, bl_cons, a_nil, a_cons, o_nil, o_var, o_lit, intO_i, av_dat, av_fre, av_own, av_var, av_lit, av_glb, av_bin, av_idx, av_lst, av_tup, av_cal, av_blt, av_lend, i_seq, i_rng, sl_0, sl_s, lks_nil, s_par, pn_nil, pn_f, pn_t, st_nil, st_cons, s_app2, ow_0, ow_s, cm_eqi, cm_nei, cm_nes, cm_eqs, cm_neb, rv_dat, rv_fre, lk_0, lk_1, lk_2, i3_0, i3_1, i3_2, t3_1, t3_2, ka_dat, ka_fre, ka_own, tn_fre, tg_nm, bi_add, bi_sub, cm_lt, cm_le, cm_gt, cm_ge, cm_is, bt_len, bt_lenT, bt_int, bt_list, bt_tuple, bt_min, List.set_cons_zero, List.set_cons_succ, cond_true, cond_false, tg_2, tn_own, pn_o, t2_0, t2_1, av_neg, av_nt, av_cmp, av_ife, av_sli, av_lc, av_dct, av_bop, o_bin, o_neg, lk_0a, lk_1a, lk_2a, tn_fd, tn_ff, tn_fo, tn_fn, pn_ff, pn_fo, lks1, lks1f, lks2, lks2f, lks2a, lks2b, lks3, e_frz, e]⟩
theorem chg_small {n : Nat} {ds : List D} {R : List Cell} {o : Nat} {ks : List Nat} {xs : List (List Md)} (p : Pen n ds) (hn : n ≤ 999900000) (v : Vld xs) (hl : xs.flatten.length ≤ 100) (h : Nst (⟨.arg, ds⟩ :: R) o ks xs) : ∃ (ys : List (List Md)) (ds' : List D) (R' : List Cell) (w : SV), Chg xs ys ∧ Pen (n + 10) ds' ∧ (w = .fre (ys.map ax) ∨ w = .dat (axs ys)) ∧
    (den GC (.cons (.ifs (.bop .Or (.cons (.cmp .Eq (.blt .len (.cons (.frz (.var 3)) (.nil))) (.lit (.int 8))) (.cons (.cmp .Gt (.cal 10 (.cons (.cal 5 (.cons (.frz (.var 3)) (.nil))) (.nil))) (.bin .Pow (.lit (.int 10)) (.lit (.int 39)))) (.nil)))) (.cons (.ret (.frz (.var 3))) (.nil)) (.nil)) (.cons (.ret (.bin .Add (.frz (.var 3)) (.lst (.cons (.lst (.cons (.tup (.cons (.lit (.int 2)) (.cons (.cal 2 (.cons (.lend 0) (.cons (.lit (.int 5)) (.nil)))) (.nil)))) (.nil))) (.nil))))) (.nil)))).s [some (.own 0), some (.dat (axs xs)), a2, some (.nst o), a4, a5, a6, a7, a8, a9] (⟨.arg, ds⟩ :: R) = .rt w (⟨.arg, ds'⟩ :: R') := by
  obtain ⟨R1, e1, e2⟩ := h.keep1
  have e3 := nk_again e2
  have gf : GC.ces[5]? = some c5 := rfl
  have gm : GC.ces[10]? = some c10 := rfl
  have gt : GC.ces[2]? = some c2 := rfl
  have k39 : okPow 10 39 = true := by decide
  have c0 : (0 : Int) ≤ (10 : Int) ^ (39 : Int).toNat := by decide
  have q39 : (10 : Int) ^ (39 : Int).toNat * 10 = M40 := by decide
  have cf := call_flat (xs := xs) (μ := ⟨.arg, ds⟩ :: R1) (by omega)
  have cm := call_many (ms := xs.flatten) (μ := ⟨.arg, ds⟩ :: R1) v.s
  obtain ⟨r, ds1, r0, r1, p1, et⟩ := call_take (st := .arg) (by decide) p (by omega) (m := 5) (by decide) (by decide) R1
  have hv := v.len
  by_cases h8 : ((xs.map ax).length : Int) = 8
  · refine ⟨xs, ds, R1, _, ⟨v, by omega⟩, p.mono (by omega), .inr rfl, ?_⟩
    simp only [b_ok, b_exc, st_ok, st_exc, sq_nx, sq_rt, sq_bk, sq_ct, sq_exc, of_some, nox_ok, lk_dat, lk_fre, kp_dat, kp_fre, asB_b, asI_i, dB_, tR, s_nil, s_cons, s_pass, s_ret, s_xpr, s_set, s_setO, s_unp, s_sti, s_ifs, s_fo, s_rai, e_var, e_lit, e_dct, e_glb, e_bin, e_neg, e_nt, e_cmp, e_chn, e_bop, c_one, c_and, c_or, e_ife, e_tup, e_lst, e_idx, e_sli, e_blt, e_isi, k_nil, k_cons, bl_nil, bl_cons, a_nil, a_cons, o_nil, o_var, o_lit, intO_i, av_dat, av_fre, av_own, av_var, av_lit, av_glb, av_bin, av_idx, av_lst, av_tup, av_cal, av_blt, av_lend, i_seq, i_rng, sl_0, sl_s, lks_nil, s_par, pn_nil, pn_f, pn_t, st_nil, st_cons, s_app2, ow_0, ow_s, cm_eqi, cm_nei, cm_nes, cm_eqs, cm_neb, rv_dat, rv_fre, lk_0, lk_1, lk_2, i3_0, i3_1, i3_2, t3_1, t3_2, ka_dat, ka_fre, ka_own, tn_fre, tg_nm, bi_add, bi_sub, cm_lt, cm_le, cm_gt, cm_ge, cm_is, bt_len, bt_lenT, bt_int, bt_list, bt_tuple, bt_min, List.set_cons_zero, List.set_cons_succ, cond_true, cond_false, tg_2, tn_own, pn_o, t2_0, t2_1, av_neg, av_nt, av_cmp, av_ife, av_sli, av_lc, av_dct, av_bop, o_bin, o_neg, lk_0a, lk_1a, lk_2a, tn_fd, tn_ff, tn_fo, tn_fn, pn_ff, pn_fo, lks1, lks1f, lks2, lks2f, lks2a, lks2b, lks3, e_frz, av_frz, e1, e3, lks_dat lks_nil, decide_eq_true h8]
  · by_cases hb : (10 : Int) ^ (39 : Int).toNat < size xs.flatten
    · refine ⟨xs, ds, R1, _, ⟨v, by omega⟩, p.mono (by omega), .inr rfl, ?_⟩
      simp only [b_ok, b_exc, st_ok, st_exc, sq_nx, sq_rt, sq_bk, sq_ct, sq_exc, of_some, nox_ok, lk_dat, lk_fre, kp_dat, kp_fre, asB_b, asI_i, dB_, tR, s_nil, s_cons, s_pass, s_ret, s_xpr, s_set, s_setO, s_unp, s_sti, s_ifs, s_fo, s_rai, e_var, e_lit, e_dct, e_glb, e_bin, e_neg, e_nt, e_cmp, e_chn, e_bop, c_one, c_and, c_or, e_ife, e_tup, e_lst, e_idx, e_sli, e_blt, e_isi, k_nil, k_cons, bl_nil, bl_cons, a_nil, a_cons, o_nil, o_var, o_lit, intO_i, av_dat, av_fre, av_own, av_var, av_lit, av_glb, av_bin, av_idx, av_lst, av_tup, av_cal, av_blt, av_lend, i_seq, i_rng, sl_0, sl_s, lks_nil, s_par, pn_nil, pn_f, pn_t, st_nil, st_cons, s_app2, ow_0, ow_s, cm_eqi, cm_nei, cm_nes, cm_eqs, cm_neb, rv_dat, rv_fre, lk_0, lk_1, lk_2, i3_0, i3_1, i3_2, t3_1, t3_2, ka_dat, ka_fre, ka_own, tn_fre, tg_nm, bi_add, bi_sub, cm_lt, cm_le, cm_gt, cm_ge, cm_is, bt_len, bt_lenT, bt_int, bt_list, bt_tuple, bt_min, List.set_cons_zero, List.set_cons_succ, cond_true, cond_false, tg_2, tn_own, pn_o, t2_0, t2_1, av_neg, av_nt, av_cmp, av_ife, av_sli, av_lc, av_dct, av_bop, o_bin, o_neg, lk_0a, lk_1a, lk_2a, tn_fd, tn_ff, tn_fo, tn_fn, pn_ff, pn_fo, lks1, lks1f, lks2, lks2f, lks2a, lks2b, lks3, e_frz, av_frz, e1, e3, lks_dat lks_nil, decide_eq_false h8, e_cal gf, e_cal gm, cf, cm, bi_pow k39, decide_eq_true hb]
    · have hc : bin2 .Add (axs xs) (.list [.list [.tuple [.int 2, .int r]]]) = some (.fre ((xs ++ [[(2, r)]]).map ax)) := by
        rw [show (axs xs) = PyData.list (xs.map ax) from rfl, bi_cat (size7 (by simp; omega))]
        simp
      have ef : (xs ++ [[((2, r) : Md)]]).flatten = xs.flatten ++ [(2, r)] := by simp
      have h60 : (5 : Int) ≤ M60 := by decide
      rw [List.length_map] at h8
      refine ⟨xs ++ [[(2, r)]], ds1, R1, _, ⟨⟨by simp; omega, by rw [ef, List.length_append]; show _ + 1 ≤ 200; omega, fun m hm => ?_, ?_⟩, by rw [ef, List.length_append]; exact Nat.le_refl _⟩, p1.mono (by omega), .inl rfl, ?_⟩
      · rw [ef] at hm
        rcases List.mem_append.mp hm with z | z
        · exact v.good m z
        · rw [List.mem_singleton.mp z]
          exact ⟨by show (1 : Int) ≤ 2; decide, by show (2 : Int) ≤ M40; decide, by show -M60 ≤ r; omega, by show r ≤ M60; omega⟩
      · rw [ef, size_app]
        show size xs.flatten * (2 * 1) ≤ M40
        omega
      · rw [← List.length_map (f := ax)] at h8
        simp only [b_ok, b_exc, st_ok, st_exc, sq_nx, sq_rt, sq_bk, sq_ct, sq_exc, of_some, nox_ok, lk_dat, lk_fre, kp_dat, kp_fre, asB_b, asI_i, dB_, tR, s_nil, s_cons, s_pass, s_ret, s_xpr, s_set, s_setO, s_unp, s_sti, s_ifs, s_fo, s_rai, e_var, e_lit, e_dct, e_glb, e_bin, e_neg, e_nt, e_cmp, e_chn, e_bop, c_one, c_and, c_or, e_ife, e_tup, e_lst, e_idx, e_sli, e_blt, e_isi, k_nil, k_cons, bl_nil, bl_cons, a_nil, a_cons, o_nil, o_var, o_lit, intO_i, av_dat, av_fre, av_own, av_var, av_lit, av_glb, av_bin, av_idx, av_lst, av_tup, av_cal, av_blt, av_lend, i_seq, i_rng, sl_0, sl_s, lks_nil, s_par, pn_nil, pn_f, pn_t, st_nil, st_cons, s_app2, ow_0, ow_s, cm_eqi, cm_nei, cm_nes, cm_eqs, cm_neb, rv_dat, rv_fre, lk_0, lk_1, lk_2, i3_0, i3_1, i3_2, t3_1, t3_2, ka_dat, ka_fre, ka_own, tn_fre, tg_nm, bi_add, bi_sub, cm_lt, cm_le, cm_gt, cm_ge, cm_is, bt_len, bt_lenT, bt_int, bt_list, bt_tuple, bt_min, List.set_cons_zero, List.set_cons_succ, cond_true, cond_false, tg_2, tn_own, pn_o, t2_0, t2_1, av_neg, av_nt, av_cmp, av_ife, av_sli, av_lc, av_dct, av_bop, o_bin, o_neg, lk_0a, lk_1a, lk_2a, tn_fd, tn_ff, tn_fo, tn_fn, pn_ff, pn_fo, lks1, lks1f, lks2, lks2f, lks2a, lks2b, lks3, e_frz, av_frz, e1, e3, lks_dat lks_nil, decide_eq_false h8, e_cal gf, e_cal gm, e_cal gt, cf, cm, bi_pow k39, decide_eq_false hb, et, hc]
/-- the change within -/
theorem chg_way {n : Nat} {ds : List D} {R : List Cell} {o i j : Nat} {ks : List Nat} {xs : List (List Md)} {ms : List Md} {m : Md} {way : Int} (p : Pen n ds) (hn : n ≤ 999900000) (v : Vld xs) (h : Nst (⟨.arg, ds⟩ :: R) o ks xs) (ei : xs[i]? = some ms) (ej : ms[j]? = some m) :
    ∃ (ys : List (List Md)) (ds' : List D) (R' : List Cell), Chg xs ys ∧ Pen (n + 10) ds' ∧
    (den GC (.cons ((.ifs (.cmp .Lt (.var 4) (.lit (.int 3))) (.cons (.set 9 (.bin .Add (.var 9) (.cal 3 (.cons (.lend 0) (.cons (.lst (.cons (.lit (.int 1)) (.cons (.neg (.lit (.int 1))) (.cons (.var 8) (.nil))))) (.nil)))))) (.cons (.sti2 3 (.var 5) (.var 7) (.tup (.cons (.var 8) (.cons (.ife (.cmp .LtE (.blt .abs (.cons (.var 9) (.nil))) (.bin .Pow (.lit (.int 10)) (.lit (.int 60)))) (.var 9) (.lit (.int 7))) (.nil))))) (.nil))) (.cons (.ifs (.cmp .Eq (.var 4) (.lit (.int 3))) (.cons (.sti2 3 (.var 5) (.var 7) (.tup (.cons (.blt .max2 (.cons (.lit (.int 1)) (.cons (.bin .Sub (.var 8) (.lit (.int 1))) (.nil)))) (.cons (.var 9) (.nil))))) (.nil)) (.cons (.ifs (.cmp .Eq (.var 4) (.lit (.int 4))) (.cons (.stn 3 (.var 5) (.rev (.idxN (.var 3) (.var 5)))) (.nil)) (.cons (.ifs (.cmp .Eq (.var 4) (.lit (.int 5))) (.cons (.stn 3 (.var 5) (.sli (.idxN (.var 3) (.var 5)) (.nil) (.var 7))) (.nil)) (.cons (.set 3 (.rev (.frz (.var 3)))) (.nil))) (.nil))) (.nil))) (.nil)))) (.cons ((.ret (.frz (.var 3)))) (.nil)))).s [some (.own 0), a1, a2, some (.nst o), some (.dat (.int way)), some (.dat (.int (i : Int))), a6, some (.dat (.int (j : Int))), some (.dat (.int m.1)), some (.dat (.int m.2))] (⟨.arg, ds⟩ :: R) = .rt (.dat (axs ys)) (⟨.arg, ds'⟩ :: R') := by
  obtain ⟨hml, hmg⟩ := vld_ms v ei
  have gm := hmg m (List.mem_of_getElem? ej)
  obtain ⟨m1, m2, m3, m4⟩ := gm
  obtain ⟨k, ek, ec⟩ := h.get ei
  have go : GC.ces[3]? = some c3 := rfl
  have hj : j < ms.length := (List.getElem?_eq_some_iff.mp ej).1
  have hix : ixN (ms.map md).length (j : Int) = some j := by
    rw [ix_nn (by omega) (by rw [List.length_map]; omega), Int.toNat_natCast]
  have k60 : okPow 10 60 = true := by decide
  have e60 : (10 : Int) ^ (60 : Int).toNat = M60 := by decide
  have M7 : (7 : Int) ≤ M60 := by decide
  have M47 : M40 ≤ M60 := by decide
  have put : ∀ (ds' : List D) (s t : Int), stiV (j : Int) (.tuple [.int s, .int t]) (.own k) (⟨.arg, ds'⟩ :: R) = .ok ((⟨.arg, ds'⟩ :: R : List Cell).set k ⟨.live, (ms.set j (s, t)).map md⟩) (⟨.arg, ds'⟩ :: R) := fun ds' s t => by
    have ec' : (⟨.arg, ds'⟩ :: R : List Cell)[k]? = some ⟨.live, ms.map md⟩ := (h.pen (ds' := ds')).it i k ms ek ei
    rw [sti_of (j := j) (c := ⟨.live, ms.map md⟩) ec' (fun z => nomatch z) hix, List.map_set]
  by_cases h3 : way < 3
  · obtain ⟨d, ds1, hd, p1, e1⟩ := call_one (st := .arg) (by decide) p (by omega) (L := [.int 1, .int (-1), .int m.1]) (by simp) (by simp) R
    obtain ⟨t, rfl⟩ : ∃ t : Int, d = .int t := by
      simp only [List.mem_cons, List.not_mem_nil, or_false] at hd
      rcases hd with rfl | rfl | rfl <;> exact ⟨_, rfl⟩
    have h1 := h.pen (ds' := ds1)
    have ni := nst_idx h1 ek
    by_cases ha : (if m.2 + t < 0 then -(m.2 + t) else m.2 + t) ≤ M60
    · have g : GoodM (m.1, m.2 + t) := ⟨m1, m2, by show -M60 ≤ m.2 + t; split at ha <;> omega, by show m.2 + t ≤ M60; split at ha <;> omega⟩
      obtain ⟨R2, e2, h2⟩ := h1.put1 ek (ms.set j (m.1, m.2 + t))
      obtain ⟨R3, e3⟩ := chg_end (a0 := some (.own 0)) (a1 := a1) (a2 := a2) (a4 := some (.dat (.int way))) (a5 := some (.dat (.int (i : Int)))) (a6 := a6) (a7 := some (.dat (.int (j : Int)))) (a8 := some (.dat (.int m.1))) (a9 := some (.dat (.int (m.2 + t)))) h2
      obtain ⟨v', l'⟩ := vld_set2 v ei ej g (Int.le_refl _)
      refine ⟨_, ds1, R3, ⟨v', by omega⟩, p1.mono (by omega), ?_⟩
      have x7 : (den GC (.ifs (.cmp .Lt (.var 4) (.lit (.int 3))) (.cons (.set 9 (.bin .Add (.var 9) (.cal 3 (.cons (.lend 0) (.cons (.lst (.cons (.lit (.int 1)) (.cons (.neg (.lit (.int 1))) (.cons (.var 8) (.nil))))) (.nil)))))) (.cons (.sti2 3 (.var 5) (.var 7) (.tup (.cons (.var 8) (.cons (.ife (.cmp .LtE (.blt .abs (.cons (.var 9) (.nil))) (.bin .Pow (.lit (.int 10)) (.lit (.int 60)))) (.var 9) (.lit (.int 7))) (.nil))))) (.nil))) (.cons (.ifs (.cmp .Eq (.var 4) (.lit (.int 3))) (.cons (.sti2 3 (.var 5) (.var 7) (.tup (.cons (.blt .max2 (.cons (.lit (.int 1)) (.cons (.bin .Sub (.var 8) (.lit (.int 1))) (.nil)))) (.cons (.var 9) (.nil))))) (.nil)) (.cons (.ifs (.cmp .Eq (.var 4) (.lit (.int 4))) (.cons (.stn 3 (.var 5) (.rev (.idxN (.var 3) (.var 5)))) (.nil)) (.cons (.ifs (.cmp .Eq (.var 4) (.lit (.int 5))) (.cons (.stn 3 (.var 5) (.sli (.idxN (.var 3) (.var 5)) (.nil) (.var 7))) (.nil)) (.cons (.set 3 (.rev (.frz (.var 3)))) (.nil))) (.nil))) (.nil))) (.nil)))).s [some (.own 0), a1, a2, some (.nst o), some (.dat (.int way)), some (.dat (.int (i : Int))), a6, some (.dat (.int (j : Int))), some (.dat (.int m.1)), some (.dat (.int m.2))] (⟨.arg, ds⟩ :: R) = .nx [some (.own 0), a1, a2, some (.nst o), some (.dat (.int way)), some (.dat (.int (i : Int))), a6, some (.dat (.int (j : Int))), some (.dat (.int m.1)), some (.dat (.int (m.2 + t)))] (⟨.arg, ds1⟩ :: R2) := by
        simp only [b_ok, b_exc, st_ok, st_exc, sq_nx, sq_rt, sq_bk, sq_ct, sq_exc, of_some, nox_ok, lk_dat, lk_fre, kp_dat, kp_fre, asB_b, asI_i, dB_, tR, s_nil, s_cons, s_pass, s_ret, s_xpr, s_set, s_setO, s_unp, s_sti, s_ifs, s_fo, s_rai, e_var, e_lit, e_dct, e_glb, e_bin, e_neg, e_nt, e_cmp, e_chn, e_bop, c_one, c_and, c_or, e_ife, e_tup, e_lst, e_idx, e_sli, e_blt, e_isi, k_nil, k_cons, bl_nil, bl_cons, a_nil, a_cons, o_nil, o_var, o_lit, intO_i, av_dat, av_fre, av_own, av_var, av_lit, av_glb, av_bin, av_idx, av_lst, av_tup, av_cal, av_blt, av_lend, i_seq, i_rng, sl_0, sl_s, lks_nil, s_par, pn_nil, pn_f, pn_t, st_nil, st_cons, s_app2, ow_0, ow_s, cm_eqi, cm_nei, cm_nes, cm_eqs, cm_neb, rv_dat, rv_fre, lk_0, lk_1, lk_2, i3_0, i3_1, i3_2, t3_1, t3_2, ka_dat, ka_fre, ka_own, tn_fre, tg_nm, bi_add, bi_sub, cm_lt, cm_le, cm_gt, cm_ge, cm_is, bt_len, bt_lenT, bt_int, bt_list, bt_tuple, bt_min, List.set_cons_zero, List.set_cons_succ, cond_true, cond_false, tg_2, tn_own, pn_o, t2_0, t2_1, av_neg, av_nt, av_cmp, av_ife, av_sli, av_lc, av_dct, av_bop, o_bin, o_neg, lk_0a, lk_1a, lk_2a, tn_fd, tn_ff, tn_fo, tn_fn, pn_ff, pn_fo, lks1, lks1f, lks2, lks2f, lks2a, lks2b, lks3, e_cal go, s_sti2, e_frz, decide_eq_true h3, e1, lks_dat lks_nil, bt_abs, bi_pow k60, e60, decide_eq_true ha, ni, put ds1, e2]
      rw [s_cons, x7, sq_nx, s_cons, e3, sq_rt]
    · have g : GoodM (m.1, 7) := ⟨m1, m2, by show -M60 ≤ 7; decide, by show 7 ≤ M60; decide⟩
      obtain ⟨R2, e2, h2⟩ := h1.put1 ek (ms.set j (m.1, 7))
      obtain ⟨R3, e3⟩ := chg_end (a0 := some (.own 0)) (a1 := a1) (a2 := a2) (a4 := some (.dat (.int way))) (a5 := some (.dat (.int (i : Int)))) (a6 := a6) (a7 := some (.dat (.int (j : Int)))) (a8 := some (.dat (.int m.1))) (a9 := some (.dat (.int (m.2 + t)))) h2
      obtain ⟨v', l'⟩ := vld_set2 v ei ej g (Int.le_refl _)
      refine ⟨_, ds1, R3, ⟨v', by omega⟩, p1.mono (by omega), ?_⟩
      have x7 : (den GC (.ifs (.cmp .Lt (.var 4) (.lit (.int 3))) (.cons (.set 9 (.bin .Add (.var 9) (.cal 3 (.cons (.lend 0) (.cons (.lst (.cons (.lit (.int 1)) (.cons (.neg (.lit (.int 1))) (.cons (.var 8) (.nil))))) (.nil)))))) (.cons (.sti2 3 (.var 5) (.var 7) (.tup (.cons (.var 8) (.cons (.ife (.cmp .LtE (.blt .abs (.cons (.var 9) (.nil))) (.bin .Pow (.lit (.int 10)) (.lit (.int 60)))) (.var 9) (.lit (.int 7))) (.nil))))) (.nil))) (.cons (.ifs (.cmp .Eq (.var 4) (.lit (.int 3))) (.cons (.sti2 3 (.var 5) (.var 7) (.tup (.cons (.blt .max2 (.cons (.lit (.int 1)) (.cons (.bin .Sub (.var 8) (.lit (.int 1))) (.nil)))) (.cons (.var 9) (.nil))))) (.nil)) (.cons (.ifs (.cmp .Eq (.var 4) (.lit (.int 4))) (.cons (.stn 3 (.var 5) (.rev (.idxN (.var 3) (.var 5)))) (.nil)) (.cons (.ifs (.cmp .Eq (.var 4) (.lit (.int 5))) (.cons (.stn 3 (.var 5) (.sli (.idxN (.var 3) (.var 5)) (.nil) (.var 7))) (.nil)) (.cons (.set 3 (.rev (.frz (.var 3)))) (.nil))) (.nil))) (.nil))) (.nil)))).s [some (.own 0), a1, a2, some (.nst o), some (.dat (.int way)), some (.dat (.int (i : Int))), a6, some (.dat (.int (j : Int))), some (.dat (.int m.1)), some (.dat (.int m.2))] (⟨.arg, ds⟩ :: R) = .nx [some (.own 0), a1, a2, some (.nst o), some (.dat (.int way)), some (.dat (.int (i : Int))), a6, some (.dat (.int (j : Int))), some (.dat (.int m.1)), some (.dat (.int (m.2 + t)))] (⟨.arg, ds1⟩ :: R2) := by
        simp only [b_ok, b_exc, st_ok, st_exc, sq_nx, sq_rt, sq_bk, sq_ct, sq_exc, of_some, nox_ok, lk_dat, lk_fre, kp_dat, kp_fre, asB_b, asI_i, dB_, tR, s_nil, s_cons, s_pass, s_ret, s_xpr, s_set, s_setO, s_unp, s_sti, s_ifs, s_fo, s_rai, e_var, e_lit, e_dct, e_glb, e_bin, e_neg, e_nt, e_cmp, e_chn, e_bop, c_one, c_and, c_or, e_ife, e_tup, e_lst, e_idx, e_sli, e_blt, e_isi, k_nil, k_cons, bl_nil, bl_cons, a_nil, a_cons, o_nil, o_var, o_lit, intO_i, av_dat, av_fre, av_own, av_var, av_lit, av_glb, av_bin, av_idx, av_lst, av_tup, av_cal, av_blt, av_lend, i_seq, i_rng, sl_0, sl_s, lks_nil, s_par, pn_nil, pn_f, pn_t, st_nil, st_cons, s_app2, ow_0, ow_s, cm_eqi, cm_nei, cm_nes, cm_eqs, cm_neb, rv_dat, rv_fre, lk_0, lk_1, lk_2, i3_0, i3_1, i3_2, t3_1, t3_2, ka_dat, ka_fre, ka_own, tn_fre, tg_nm, bi_add, bi_sub, cm_lt, cm_le, cm_gt, cm_ge, cm_is, bt_len, bt_lenT, bt_int, bt_list, bt_tuple, bt_min, List.set_cons_zero, List.set_cons_succ, cond_true, cond_false, tg_2, tn_own, pn_o, t2_0, t2_1, av_neg, av_nt, av_cmp, av_ife, av_sli, av_lc, av_dct, av_bop, o_bin, o_neg, lk_0a, lk_1a, lk_2a, tn_fd, tn_ff, tn_fo, tn_fn, pn_ff, pn_fo, lks1, lks1f, lks2, lks2f, lks2a, lks2b, lks3, e_cal go, s_sti2, e_frz, decide_eq_true h3, e1, lks_dat lks_nil, bt_abs, bi_pow k60, e60, decide_eq_false ha, ni, put ds1, e2]
      rw [s_cons, x7, sq_nx, s_cons, e3, sq_rt]
  · have ni := nst_idx h ek
    by_cases h4 : way = 3
    · have g : GoodM (if m.1 - 1 > 1 then m.1 - 1 else 1, m.2) := ⟨by show 1 ≤ (if m.1 - 1 > 1 then m.1 - 1 else 1); split <;> omega, by show (if m.1 - 1 > 1 then m.1 - 1 else 1) ≤ M40; split <;> omega, m3, m4⟩
      obtain ⟨R2, e2, h2⟩ := h.put1 ek (ms.set j (if m.1 - 1 > 1 then m.1 - 1 else 1, m.2))
      obtain ⟨R3, e3⟩ := chg_end (a0 := some (.own 0)) (a1 := a1) (a2 := a2) (a4 := some (.dat (.int way))) (a5 := some (.dat (.int (i : Int)))) (a6 := a6) (a7 := some (.dat (.int (j : Int)))) (a8 := some (.dat (.int m.1))) (a9 := some (.dat (.int m.2))) h2
      obtain ⟨v', l'⟩ := vld_set2 v ei ej g (by show (if m.1 - 1 > 1 then m.1 - 1 else 1) ≤ m.1; split <;> omega)
      refine ⟨_, ds, R3, ⟨v', by omega⟩, p.mono (by omega), ?_⟩
      have x7 : (den GC (.ifs (.cmp .Lt (.var 4) (.lit (.int 3))) (.cons (.set 9 (.bin .Add (.var 9) (.cal 3 (.cons (.lend 0) (.cons (.lst (.cons (.lit (.int 1)) (.cons (.neg (.lit (.int 1))) (.cons (.var 8) (.nil))))) (.nil)))))) (.cons (.sti2 3 (.var 5) (.var 7) (.tup (.cons (.var 8) (.cons (.ife (.cmp .LtE (.blt .abs (.cons (.var 9) (.nil))) (.bin .Pow (.lit (.int 10)) (.lit (.int 60)))) (.var 9) (.lit (.int 7))) (.nil))))) (.nil))) (.cons (.ifs (.cmp .Eq (.var 4) (.lit (.int 3))) (.cons (.sti2 3 (.var 5) (.var 7) (.tup (.cons (.blt .max2 (.cons (.lit (.int 1)) (.cons (.bin .Sub (.var 8) (.lit (.int 1))) (.nil)))) (.cons (.var 9) (.nil))))) (.nil)) (.cons (.ifs (.cmp .Eq (.var 4) (.lit (.int 4))) (.cons (.stn 3 (.var 5) (.rev (.idxN (.var 3) (.var 5)))) (.nil)) (.cons (.ifs (.cmp .Eq (.var 4) (.lit (.int 5))) (.cons (.stn 3 (.var 5) (.sli (.idxN (.var 3) (.var 5)) (.nil) (.var 7))) (.nil)) (.cons (.set 3 (.rev (.frz (.var 3)))) (.nil))) (.nil))) (.nil))) (.nil)))).s [some (.own 0), a1, a2, some (.nst o), some (.dat (.int way)), some (.dat (.int (i : Int))), a6, some (.dat (.int (j : Int))), some (.dat (.int m.1)), some (.dat (.int m.2))] (⟨.arg, ds⟩ :: R) = .nx [some (.own 0), a1, a2, some (.nst o), some (.dat (.int way)), some (.dat (.int (i : Int))), a6, some (.dat (.int (j : Int))), some (.dat (.int m.1)), some (.dat (.int m.2))] (⟨.arg, ds⟩ :: R2) := by
        simp only [b_ok, b_exc, st_ok, st_exc, sq_nx, sq_rt, sq_bk, sq_ct, sq_exc, of_some, nox_ok, lk_dat, lk_fre, kp_dat, kp_fre, asB_b, asI_i, dB_, tR, s_nil, s_cons, s_pass, s_ret, s_xpr, s_set, s_setO, s_unp, s_sti, s_ifs, s_fo, s_rai, e_var, e_lit, e_dct, e_glb, e_bin, e_neg, e_nt, e_cmp, e_chn, e_bop, c_one, c_and, c_or, e_ife, e_tup, e_lst, e_idx, e_sli, e_blt, e_isi, k_nil, k_cons, bl_nil, bl_cons, a_nil, a_cons, o_nil, o_var, o_lit, intO_i, av_dat, av_fre, av_own, av_var, av_lit, av_glb, av_bin, av_idx, av_lst, av_tup, av_cal, av_blt, av_lend, i_seq, i_rng, sl_0, sl_s, lks_nil, s_par, pn_nil, pn_f, pn_t, st_nil, st_cons, s_app2, ow_0, ow_s, cm_eqi, cm_nei, cm_nes, cm_eqs, cm_neb, rv_dat, rv_fre, lk_0, lk_1, lk_2, i3_0, i3_1, i3_2, t3_1, t3_2, ka_dat, ka_fre, ka_own, tn_fre, tg_nm, bi_add, bi_sub, cm_lt, cm_le, cm_gt, cm_ge, cm_is, bt_len, bt_lenT, bt_int, bt_list, bt_tuple, bt_min, List.set_cons_zero, List.set_cons_succ, cond_true, cond_false, tg_2, tn_own, pn_o, t2_0, t2_1, av_neg, av_nt, av_cmp, av_ife, av_sli, av_lc, av_dct, av_bop, o_bin, o_neg, lk_0a, lk_1a, lk_2a, tn_fd, tn_ff, tn_fo, tn_fn, pn_ff, pn_fo, lks1, lks1f, lks2, lks2f, lks2a, lks2b, lks3, s_sti2, e_frz, decide_eq_false h3, decide_eq_true h4, lks_dat lks_nil, bt_max, ni, put ds, e2]
      rw [s_cons, x7, sq_nx, s_cons, e3, sq_rt]
    · by_cases h5 : way = 4
      · obtain ⟨R2, ks2, e2, h2⟩ := h.swap1 ek ms.reverse
        obtain ⟨R3, e3⟩ := chg_end (a0 := some (.own 0)) (a1 := a1) (a2 := a2) (a4 := some (.dat (.int way))) (a5 := some (.dat (.int (i : Int)))) (a6 := a6) (a7 := some (.dat (.int (j : Int)))) (a8 := some (.dat (.int m.1))) (a9 := some (.dat (.int m.2))) h2
        obtain ⟨v', l'⟩ := vld_set v ei (ns := ms.reverse) (fun x hx => hmg x (List.mem_reverse.mp hx)) (by rw [List.length_reverse]; exact Nat.le_refl _) (by rw [size_rev]; exact Int.le_refl _)
        refine ⟨_, ds, R3, ⟨v', by omega⟩, p.mono (by omega), ?_⟩
        have er : revD (.list (ms.map md)) = some (.fre (ms.reverse.map md)) := by
          show some (SV.fre (ms.map md).reverse) = _
          rw [List.map_reverse]
        have es : stnV (i : Int) (.fre (ms.reverse.map md)) (.nst o) (⟨.arg, ds⟩ :: R) = .ok (⟨.arg, ds⟩ :: R2) (⟨.arg, ds⟩ :: R) := by
          show DL.R.of (stnR o (i : Int) (ms.reverse.map md) (⟨.arg, ds⟩ :: R)) (⟨.arg, ds⟩ :: R) = _
          rw [e2]
          rfl
        have x7 : (den GC (.ifs (.cmp .Lt (.var 4) (.lit (.int 3))) (.cons (.set 9 (.bin .Add (.var 9) (.cal 3 (.cons (.lend 0) (.cons (.lst (.cons (.lit (.int 1)) (.cons (.neg (.lit (.int 1))) (.cons (.var 8) (.nil))))) (.nil)))))) (.cons (.sti2 3 (.var 5) (.var 7) (.tup (.cons (.var 8) (.cons (.ife (.cmp .LtE (.blt .abs (.cons (.var 9) (.nil))) (.bin .Pow (.lit (.int 10)) (.lit (.int 60)))) (.var 9) (.lit (.int 7))) (.nil))))) (.nil))) (.cons (.ifs (.cmp .Eq (.var 4) (.lit (.int 3))) (.cons (.sti2 3 (.var 5) (.var 7) (.tup (.cons (.blt .max2 (.cons (.lit (.int 1)) (.cons (.bin .Sub (.var 8) (.lit (.int 1))) (.nil)))) (.cons (.var 9) (.nil))))) (.nil)) (.cons (.ifs (.cmp .Eq (.var 4) (.lit (.int 4))) (.cons (.stn 3 (.var 5) (.rev (.idxN (.var 3) (.var 5)))) (.nil)) (.cons (.ifs (.cmp .Eq (.var 4) (.lit (.int 5))) (.cons (.stn 3 (.var 5) (.sli (.idxN (.var 3) (.var 5)) (.nil) (.var 7))) (.nil)) (.cons (.set 3 (.rev (.frz (.var 3)))) (.nil))) (.nil))) (.nil))) (.nil)))).s [some (.own 0), a1, a2, some (.nst o), some (.dat (.int way)), some (.dat (.int (i : Int))), a6, some (.dat (.int (j : Int))), some (.dat (.int m.1)), some (.dat (.int m.2))] (⟨.arg, ds⟩ :: R) = .nx [some (.own 0), a1, a2, some (.nst o), some (.dat (.int way)), some (.dat (.int (i : Int))), a6, some (.dat (.int (j : Int))), some (.dat (.int m.1)), some (.dat (.int m.2))] (⟨.arg, ds⟩ :: R2) := by
          simp only [b_ok, b_exc, st_ok, st_exc, sq_nx, sq_rt, sq_bk, sq_ct, sq_exc, of_some, nox_ok, lk_dat, lk_fre, kp_dat, kp_fre, asB_b, asI_i, dB_, tR, s_nil, s_cons, s_pass, s_ret, s_xpr, s_set, s_setO, s_unp, s_sti, s_ifs, s_fo, s_rai, e_var, e_lit, e_dct, e_glb, e_bin, e_neg, e_nt, e_cmp, e_chn, e_bop, c_one, c_and, c_or, e_ife, e_tup, e_lst, e_idx, e_sli, e_blt, e_isi, k_nil, k_cons, bl_nil, bl_cons, a_nil, a_cons, o_nil, o_var, o_lit, intO_i, av_dat, av_fre, av_own, av_var, av_lit, av_glb, av_bin, av_idx, av_lst, av_tup, av_cal, av_blt, av_lend, i_seq, i_rng, sl_0, sl_s, lks_nil, s_par, pn_nil, pn_f, pn_t, st_nil, st_cons, s_app2, ow_0, ow_s, cm_eqi, cm_nei, cm_nes, cm_eqs, cm_neb, rv_dat, rv_fre, lk_0, lk_1, lk_2, i3_0, i3_1, i3_2, t3_1, t3_2, ka_dat, ka_fre, ka_own, tn_fre, tg_nm, bi_add, bi_sub, cm_lt, cm_le, cm_gt, cm_ge, cm_is, bt_len, bt_lenT, bt_int, bt_list, bt_tuple, bt_min, List.set_cons_zero, List.set_cons_succ, cond_true, cond_false, tg_2, tn_own, pn_o, t2_0, t2_1, av_neg, av_nt, av_cmp, av_ife, av_sli, av_lc, av_dct, av_bop, o_bin, o_neg, lk_0a, lk_1a, lk_2a, tn_fd, tn_ff, tn_fo, tn_fn, pn_ff, pn_fo, lks1, lks1f, lks2, lks2f, lks2a, lks2b, lks3, s_stn, e_frz, e_rev, e_idxN, decide_eq_false h3, decide_eq_false h4, decide_eq_true h5, ni, lk_own ec, er, es]
        rw [s_cons, x7, sq_nx, s_cons, e3, sq_rt]
      · by_cases h6 : way = 5
        · obtain ⟨R2, ks2, e2, h2⟩ := h.swap1 ek (ms.take j)
          obtain ⟨R3, e3⟩ := chg_end (a0 := some (.own 0)) (a1 := a1) (a2 := a2) (a4 := some (.dat (.int way))) (a5 := some (.dat (.int (i : Int)))) (a6 := a6) (a7 := some (.dat (.int (j : Int)))) (a8 := some (.dat (.int m.1))) (a9 := some (.dat (.int m.2))) h2
          have pms : Pos ms := fun x hx => (hmg x hx).s0
          obtain ⟨v', l'⟩ := vld_set v ei (ns := ms.take j) (fun x hx => hmg x (List.mem_of_mem_take hx)) (by rw [List.length_take]; omega) (by
            have e := size_app (ms.take j) (ms.drop j)
            rw [List.take_append_drop] at e
            have h1 : 1 ≤ size (ms.take j) := size_pos fun m hm => pms m (List.mem_of_mem_take hm)
            have h2 : 1 ≤ size (ms.drop j) := size_pos fun m hm => pms m (List.mem_of_mem_drop hm)
            have h3 := Int.mul_le_mul (Int.le_refl (size (ms.take j))) h2 (by decide) (by omega)
            omega)
          refine ⟨_, ds, R3, ⟨v', by omega⟩, p.mono (by omega), ?_⟩
          have er : cutD (.list (ms.map md)) none (some (j : Int)) = some (.fre ((ms.take j).map md)) := by
            rw [cut_hi (by omega) (by rw [List.length_map]; omega), List.map_take, Int.toNat_natCast]
          have es : stnV (i : Int) (.fre ((ms.take j).map md)) (.nst o) (⟨.arg, ds⟩ :: R) = .ok (⟨.arg, ds⟩ :: R2) (⟨.arg, ds⟩ :: R) := by
            show DL.R.of (stnR o (i : Int) ((ms.take j).map md) (⟨.arg, ds⟩ :: R)) (⟨.arg, ds⟩ :: R) = _
            rw [e2]
            rfl
          have x7 : (den GC (.ifs (.cmp .Lt (.var 4) (.lit (.int 3))) (.cons (.set 9 (.bin .Add (.var 9) (.cal 3 (.cons (.lend 0) (.cons (.lst (.cons (.lit (.int 1)) (.cons (.neg (.lit (.int 1))) (.cons (.var 8) (.nil))))) (.nil)))))) (.cons (.sti2 3 (.var 5) (.var 7) (.tup (.cons (.var 8) (.cons (.ife (.cmp .LtE (.blt .abs (.cons (.var 9) (.nil))) (.bin .Pow (.lit (.int 10)) (.lit (.int 60)))) (.var 9) (.lit (.int 7))) (.nil))))) (.nil))) (.cons (.ifs (.cmp .Eq (.var 4) (.lit (.int 3))) (.cons (.sti2 3 (.var 5) (.var 7) (.tup (.cons (.blt .max2 (.cons (.lit (.int 1)) (.cons (.bin .Sub (.var 8) (.lit (.int 1))) (.nil)))) (.cons (.var 9) (.nil))))) (.nil)) (.cons (.ifs (.cmp .Eq (.var 4) (.lit (.int 4))) (.cons (.stn 3 (.var 5) (.rev (.idxN (.var 3) (.var 5)))) (.nil)) (.cons (.ifs (.cmp .Eq (.var 4) (.lit (.int 5))) (.cons (.stn 3 (.var 5) (.sli (.idxN (.var 3) (.var 5)) (.nil) (.var 7))) (.nil)) (.cons (.set 3 (.rev (.frz (.var 3)))) (.nil))) (.nil))) (.nil))) (.nil)))).s [some (.own 0), a1, a2, some (.nst o), some (.dat (.int way)), some (.dat (.int (i : Int))), a6, some (.dat (.int (j : Int))), some (.dat (.int m.1)), some (.dat (.int m.2))] (⟨.arg, ds⟩ :: R) = .nx [some (.own 0), a1, a2, some (.nst o), some (.dat (.int way)), some (.dat (.int (i : Int))), a6, some (.dat (.int (j : Int))), some (.dat (.int m.1)), some (.dat (.int m.2))] (⟨.arg, ds⟩ :: R2) := by
            simp only [b_ok, b_exc, st_ok, st_exc, sq_nx, sq_rt, sq_bk, sq_ct, sq_exc, of_some, nox_ok, lk_dat, lk_fre, kp_dat, kp_fre, asB_b, asI_i, dB_, tR, s_nil, s_cons, s_pass, s_ret, s_xpr, s_set, s_setO, s_unp, s_sti, s_ifs, s_fo, s_rai, e_var, e_lit, e_dct, e_glb, e_bin, e_neg, e_nt, e_cmp, e_chn, e_bop, c_one, c_and, c_or, e_ife, e_tup, e_lst, e_idx, e_sli, e_blt, e_isi, k_nil, k_cons, bl_nil, bl_cons, a_nil, a_cons, o_nil, o_var, o_lit, intO_i, av_dat, av_fre, av_own, av_var, av_lit, av_glb, av_bin, av_idx, av_lst, av_tup, av_cal, av_blt, av_lend, i_seq, i_rng, sl_0, sl_s, lks_nil, s_par, pn_nil, pn_f, pn_t, st_nil, st_cons, s_app2, ow_0, ow_s, cm_eqi, cm_nei, cm_nes, cm_eqs, cm_neb, rv_dat, rv_fre, lk_0, lk_1, lk_2, i3_0, i3_1, i3_2, t3_1, t3_2, ka_dat, ka_fre, ka_own, tn_fre, tg_nm, bi_add, bi_sub, cm_lt, cm_le, cm_gt, cm_ge, cm_is, bt_len, bt_lenT, bt_int, bt_list, bt_tuple, bt_min, List.set_cons_zero, List.set_cons_succ, cond_true, cond_false, tg_2, tn_own, pn_o, t2_0, t2_1, av_neg, av_nt, av_cmp, av_ife, av_sli, av_lc, av_dct, av_bop, o_bin, o_neg, lk_0a, lk_1a, lk_2a, tn_fd, tn_ff, tn_fo, tn_fn, pn_ff, pn_fo, lks1, lks1f, lks2, lks2f, lks2a, lks2b, lks3, s_stn, e_frz, e_idxN, intO_i, decide_eq_false h3, decide_eq_false h4, decide_eq_false h5, decide_eq_true h6, ni, lk_own ec, er, es]
          rw [s_cons, x7, sq_nx, s_cons, e3, sq_rt]
        · obtain ⟨R2, e2, _⟩ := h.keep1
          obtain ⟨v', l'⟩ := vld_rev v
          refine ⟨_, ds, R2, ⟨v', by omega⟩, p.mono (by omega), ?_⟩
          have er : revD (axs xs) = some (.fre (xs.reverse.map ax)) := by
            show some (SV.fre (xs.map ax).reverse) = _
            rw [List.map_reverse]
          simp only [b_ok, b_exc, st_ok, st_exc, sq_nx, sq_rt, sq_bk, sq_ct, sq_exc, of_some, nox_ok, lk_dat, lk_fre, kp_dat, kp_fre, asB_b, asI_i, dB_, tR, s_nil, s_cons, s_pass, s_ret, s_xpr, s_set, s_setO, s_unp, s_sti, s_ifs, s_fo, s_rai, e_var, e_lit, e_dct, e_glb, e_bin, e_neg, e_nt, e_cmp, e_chn, e_bop, c_one, c_and, c_or, e_ife, e_tup, e_lst, e_idx, e_sli, e_blt, e_isi, k_nil, k_cons, bl_nil, bl_cons, a_nil, a_cons, o_nil, o_var, o_lit, intO_i, av_dat, av_fre, av_own, av_var, av_lit, av_glb, av_bin, av_idx, av_lst, av_tup, av_cal, av_blt, av_lend, i_seq, i_rng, sl_0, sl_s, lks_nil, s_par, pn_nil, pn_f, pn_t, st_nil, st_cons, s_app2, ow_0, ow_s, cm_eqi, cm_nei, cm_nes, cm_eqs, cm_neb, rv_dat, rv_fre, lk_0, lk_1, lk_2, i3_0, i3_1, i3_2, t3_1, t3_2, ka_dat, ka_fre, ka_own, tn_fre, tg_nm, bi_add, bi_sub, cm_lt, cm_le, cm_gt, cm_ge, cm_is, bt_len, bt_lenT, bt_int, bt_list, bt_tuple, bt_min, List.set_cons_zero, List.set_cons_succ, cond_true, cond_false, tg_2, tn_own, pn_o, t2_0, t2_1, av_neg, av_nt, av_cmp, av_ife, av_sli, av_lc, av_dct, av_bop, o_bin, o_neg, lk_0a, lk_1a, lk_2a, tn_fd, tn_ff, tn_fo, tn_fn, pn_ff, pn_fo, lks1, lks1f, lks2, lks2f, lks2a, lks2b, lks3, e_frz, e_rev, decide_eq_false h3, decide_eq_false h4, decide_eq_false h5, decide_eq_false h6, e2, er, nk_dat]
end
theorem changed_sem {n : Nat} {ds : List D} {xs : List (List Md)} (p : Pen n ds) (hn : n ≤ 999800000) (v : Vld xs) (hl : xs.flatten.length ≤ 100) : ∃ (ys : List (List Md)) (ds' : List D) (r : Rv), Chg xs ys ∧ Pen (n + 30) ds' ∧ (r = .fre (ys.map ax) ∨ r = .dat (axs ys)) ∧ c11.sem [.own ds, .dat (axs xs)] = some (.ret r [ds']) := by
  have gt : GC.ces[2]? = some c2 := rfl
  have go : GC.ces[3]? = some c3 := rfl
  have hv := v.len
  obtain ⟨way, ds1, w0, w1, p1, e1⟩ := call_take (st := .arg) (by decide) p (by omega) (m := 7) (by decide) (by decide) []
  have lc : (den GC (.nlc [("_law_axis", 6)] 6 (.iSeq (.var 1)))).e [some (.own 0), some (.dat (axs xs)), none, none, none, none, none, none, none, none] [⟨.arg, ds⟩] = .ok (.frn (xs.map (·.map md))) [⟨.arg, ds⟩] :=
    nlc_ok (ds := xs.map ax) (by simp only [b_ok, b_exc, st_ok, st_exc, sq_nx, sq_rt, sq_bk, sq_ct, sq_exc, of_some, nox_ok, lk_dat, lk_fre, kp_dat, kp_fre, asB_b, asI_i, dB_, tR, s_nil, s_cons, s_pass, s_ret, s_xpr, s_set, s_setO, s_unp, s_sti, s_ifs, s_fo, s_rai, e_var, e_lit, e_dct, e_glb, e_bin, e_neg, e_nt, e_cmp, e_chn, e_bop, c_one, c_and, c_or, e_ife, e_tup, e_lst, e_idx, e_sli, e_blt, e_isi, k_nil, k_cons, bl_nil, bl_cons, a_nil, a_cons, o_nil, o_var, o_lit, intO_i, av_dat, av_fre, av_own, av_var, av_lit, av_glb, av_bin, av_idx, av_lst, av_tup, av_cal, av_blt, av_lend, i_seq, i_rng, sl_0, sl_s, lks_nil, s_par, pn_nil, pn_f, pn_t, st_nil, st_cons, s_app2, ow_0, ow_s, cm_eqi, cm_nei, cm_nes, cm_eqs, cm_neb, rv_dat, rv_fre, lk_0, lk_1, lk_2, i3_0, i3_1, i3_2, t3_1, t3_2, ka_dat, ka_fre, ka_own, tn_fre, tg_nm, bi_add, bi_sub, cm_lt, cm_le, cm_gt, cm_ge, cm_is, bt_len, bt_lenT, bt_int, bt_list, bt_tuple, bt_min, List.set_cons_zero, List.set_cons_succ, cond_true, cond_false, tg_2, tn_own, pn_o, t2_0, t2_1, av_neg, av_nt, av_cmp, av_ife, av_sli, av_lc, av_dct, av_bop, o_bin, o_neg, lk_0a, lk_1a, lk_2a, tn_fd, tn_ff, tn_fo, tn_fn, pn_ff, pn_fo, lks1, lks1f, lks2, lks2f, lks2a, lks2b, lks3, itemsD]) (by rw [List.length_map]; omega) (by simp) (rows_ax xs)
  obtain ⟨R1, er1⟩ : ∃ R1, (⟨.arg, ds1⟩ :: R1 : List Cell) = [⟨.arg, ds1⟩] ++ ((xs.map (·.map md)).map (fun ds => (⟨.live, ds⟩ : Cell)) ++ [⟨.nest, (List.range' [(⟨.arg, ds1⟩ : Cell)].length (xs.map (·.map md)).length).map fun k : Nat => .int k⟩]) := ⟨_, rfl⟩
  have h := nst_new [⟨.arg, ds1⟩] xs
  rw [← er1] at h
  have e2 : (den GC (.par [(3, true), (4, false)] (.cons (.nlc [("_law_axis", 6)] 6 (.iSeq (.var 1))) (.cons (.cal 2 (.cons (.lend 0) (.cons (.lit (.int 7)) (.nil)))) (.nil))))).s [some (.own 0), some (.dat (axs xs)), none, none, none, none, none, none, none, none] [⟨.arg, ds⟩] = .nx [some (.own 0), some (.dat (axs xs)), none, some (.nst ([(⟨.arg, ds1⟩ : Cell)].length + xs.length)), some (.dat (.int way)), none, none, none, none, none] (⟨.arg, ds1⟩ :: R1) := by
    rw [er1]
    simp only [b_ok, b_exc, st_ok, st_exc, sq_nx, sq_rt, sq_bk, sq_ct, sq_exc, of_some, nox_ok, lk_dat, lk_fre, kp_dat, kp_fre, asB_b, asI_i, dB_, tR, s_nil, s_cons, s_pass, s_ret, s_xpr, s_set, s_setO, s_unp, s_sti, s_ifs, s_fo, s_rai, e_var, e_lit, e_dct, e_glb, e_bin, e_neg, e_nt, e_cmp, e_chn, e_bop, c_one, c_and, c_or, e_ife, e_tup, e_lst, e_idx, e_sli, e_blt, e_isi, k_nil, k_cons, bl_nil, bl_cons, a_nil, a_cons, o_nil, o_var, o_lit, intO_i, av_dat, av_fre, av_own, av_var, av_lit, av_glb, av_bin, av_idx, av_lst, av_tup, av_cal, av_blt, av_lend, i_seq, i_rng, sl_0, sl_s, lks_nil, s_par, pn_nil, pn_f, pn_t, st_nil, st_cons, s_app2, ow_0, ow_s, cm_eqi, cm_nei, cm_nes, cm_eqs, cm_neb, rv_dat, rv_fre, lk_0, lk_1, lk_2, i3_0, i3_1, i3_2, t3_1, t3_2, ka_dat, ka_fre, ka_own, tn_fre, tg_nm, bi_add, bi_sub, cm_lt, cm_le, cm_gt, cm_ge, cm_is, bt_len, bt_lenT, bt_int, bt_list, bt_tuple, bt_min, List.set_cons_zero, List.set_cons_succ, cond_true, cond_false, tg_2, tn_own, pn_o, t2_0, t2_1, av_neg, av_nt, av_cmp, av_ife, av_sli, av_lc, av_dct, av_bop, o_bin, o_neg, lk_0a, lk_1a, lk_2a, tn_fd, tn_ff, tn_fo, tn_fn, pn_ff, pn_fo, lks1, lks1f, lks2, lks2f, lks2a, lks2b, lks3, lc, e_cal gt, e1, pn_tn, List.map_cons, List.map_nil]
    simp only [b_ok, b_exc, st_ok, st_exc, sq_nx, sq_rt, sq_bk, sq_ct, sq_exc, of_some, nox_ok, lk_dat, lk_fre, kp_dat, kp_fre, asB_b, asI_i, dB_, tR, s_nil, s_cons, s_pass, s_ret, s_xpr, s_set, s_setO, s_unp, s_sti, s_ifs, s_fo, s_rai, e_var, e_lit, e_dct, e_glb, e_bin, e_neg, e_nt, e_cmp, e_chn, e_bop, c_one, c_and, c_or, e_ife, e_tup, e_lst, e_idx, e_sli, e_blt, e_isi, k_nil, k_cons, bl_nil, bl_cons, a_nil, a_cons, o_nil, o_var, o_lit, intO_i, av_dat, av_fre, av_own, av_var, av_lit, av_glb, av_bin, av_idx, av_lst, av_tup, av_cal, av_blt, av_lend, i_seq, i_rng, sl_0, sl_s, lks_nil, s_par, pn_nil, pn_f, pn_t, st_nil, st_cons, s_app2, ow_0, ow_s, cm_eqi, cm_nei, cm_nes, cm_eqs, cm_neb, rv_dat, rv_fre, lk_0, lk_1, lk_2, i3_0, i3_1, i3_2, t3_1, t3_2, ka_dat, ka_fre, ka_own, tn_fre, tg_nm, bi_add, bi_sub, cm_lt, cm_le, cm_gt, cm_ge, cm_is, bt_len, bt_lenT, bt_int, bt_list, bt_tuple, bt_min, List.set_cons_zero, List.set_cons_succ, cond_true, cond_false, tg_2, tn_own, pn_o, t2_0, t2_1, av_neg, av_nt, av_cmp, av_ife, av_sli, av_lc, av_dct, av_bop, o_bin, o_neg, lk_0a, lk_1a, lk_2a, tn_fd, tn_ff, tn_fo, tn_fn, pn_ff, pn_fo, lks1, lks1f, lks2, lks2f, lks2a, lks2b, lks3, List.length_map]
  generalize ([(⟨.arg, ds1⟩ : Cell)].length + xs.length) = o at *
  generalize List.range' _ xs.length = ks at *
  obtain ⟨PP, b5, b6, hP, hPl, e3⟩ := places_loop (a4 := some (.dat (.int way))) (a7 := none) (a8 := none) (a9 := none) h v.many ks 0 [] (a5 := none) (a6 := none) (fun i => by rw [Nat.zero_add]) (fun _ z => nomatch z) rfl
  have x2 : (den GC (.set 2 (.lst (.nil)))).s [some (.own 0), some (.dat (axs xs)), none, some (.nst o), some (.dat (.int way)), none, none, none, none, none] (⟨.arg, ds1⟩ :: R1) = .nx [some (.own 0), some (.dat (axs xs)), some (.dat (.list [])), some (.nst o), some (.dat (.int way)), none, none, none, none, none] (⟨.arg, ds1⟩ :: R1) := by
    simp only [b_ok, b_exc, st_ok, st_exc, sq_nx, sq_rt, sq_bk, sq_ct, sq_exc, of_some, nox_ok, lk_dat, lk_fre, kp_dat, kp_fre, asB_b, asI_i, dB_, tR, s_nil, s_cons, s_pass, s_ret, s_xpr, s_set, s_setO, s_unp, s_sti, s_ifs, s_fo, s_rai, e_var, e_lit, e_dct, e_glb, e_bin, e_neg, e_nt, e_cmp, e_chn, e_bop, c_one, c_and, c_or, e_ife, e_tup, e_lst, e_idx, e_sli, e_blt, e_isi, k_nil, k_cons, bl_nil, bl_cons, a_nil, a_cons, o_nil, o_var, o_lit, intO_i, av_dat, av_fre, av_own, av_var, av_lit, av_glb, av_bin, av_idx, av_lst, av_tup, av_cal, av_blt, av_lend, i_seq, i_rng, sl_0, sl_s, lks_nil, s_par, pn_nil, pn_f, pn_t, st_nil, st_cons, s_app2, ow_0, ow_s, cm_eqi, cm_nei, cm_nes, cm_eqs, cm_neb, rv_dat, rv_fre, lk_0, lk_1, lk_2, i3_0, i3_1, i3_2, t3_1, t3_2, ka_dat, ka_fre, ka_own, tn_fre, tg_nm, bi_add, bi_sub, cm_lt, cm_le, cm_gt, cm_ge, cm_is, bt_len, bt_lenT, bt_int, bt_list, bt_tuple, bt_min, List.set_cons_zero, List.set_cons_succ, cond_true, cond_false, tg_2, tn_own, pn_o, t2_0, t2_1, av_neg, av_nt, av_cmp, av_ife, av_sli, av_lc, av_dct, av_bop, o_bin, o_neg, lk_0a, lk_1a, lk_2a, tn_fd, tn_ff, tn_fo, tn_fn, pn_ff, pn_fo, lks1, lks1f, lks2, lks2f, lks2a, lks2b, lks3]
  have x3 : (den GC (.foN 5 6 3 (.cons (.set 2 (.bin .Add (.var 2) (.lc [("_law_j", 7)] (.nm 7) (.iRng (.cons (.blt .len (.cons (.var 6) (.nil))) (.nil))) (.nil) (.tup (.cons (.var 5) (.cons (.var 7) (.nil))))))) (.nil)))).s [some (.own 0), some (.dat (axs xs)), some (.dat (.list [])), some (.nst o), some (.dat (.int way)), none, none, none, none, none] (⟨.arg, ds1⟩ :: R1) = .nx [some (.own 0), some (.dat (axs xs)), some (.dat (ax PP)), some (.nst o), some (.dat (.int way)), b5, b6, none, none, none] (⟨.arg, ds1⟩ :: R1) := by
    rw [s_foN (c := ⟨.nest, ks.map pt⟩) rfl h.at_]
    exact e3
  have en : cmp2 .Eq (ax PP) (.list []) = some PP.isEmpty := by
    rw [show ax PP = PyData.list (PP.map md) from rfl, cm_eqNil (sh_ax PP), List.isEmpty_map]
  show ∃ (ys : List (List Md)) (ds' : List D) (r : Rv), _ ∧ _ ∧ _ ∧ outOf 1 ((den GC ir__law_changed).s [some (.own 0), some (.dat (axs xs)), none, none, none, none, none, none, none, none] [⟨.arg, ds⟩]) = _
  by_cases hs : PP = [] ∨ way = 0
  · obtain ⟨ys, ds2, R2, w, hc, p2, hw, e4⟩ := chg_small (a2 := some (.dat (ax PP))) (a4 := some (.dat (.int way))) (a5 := b5) (a6 := b6) (a7 := none) (a8 := none) (a9 := none) p1 (by omega) v hl h
    have x4 : (den GC (.ifs (.bop .Or (.cons (.cmp .Eq (.var 2) (.lst (.nil))) (.cons (.cmp .Eq (.var 4) (.lit (.int 0))) (.nil)))) (.cons (.ifs (.bop .Or (.cons (.cmp .Eq (.blt .len (.cons (.frz (.var 3)) (.nil))) (.lit (.int 8))) (.cons (.cmp .Gt (.cal 10 (.cons (.cal 5 (.cons (.frz (.var 3)) (.nil))) (.nil))) (.bin .Pow (.lit (.int 10)) (.lit (.int 39)))) (.nil)))) (.cons (.ret (.frz (.var 3))) (.nil)) (.nil)) (.cons (.ret (.bin .Add (.frz (.var 3)) (.lst (.cons (.lst (.cons (.tup (.cons (.lit (.int 2)) (.cons (.cal 2 (.cons (.lend 0) (.cons (.lit (.int 5)) (.nil)))) (.nil)))) (.nil))) (.nil))))) (.nil))) (.nil))).s [some (.own 0), some (.dat (axs xs)), some (.dat (ax PP)), some (.nst o), some (.dat (.int way)), b5, b6, none, none, none] (⟨.arg, ds1⟩ :: R1) = .rt w (⟨.arg, ds2⟩ :: R2) := by
      rw [← e4]
      cases hs with
      | inl z =>
        have : PP.isEmpty = true := by rw [z]; rfl
        simp only [s_ifs, tR, e_bop, c_or, c_one, e_cmp, e_var, e_lst, k_nil, e_lit, sl_0, sl_s, b_ok, lk_dat, lk_fre, en, this, of_some, dB_, asB_b, st_ok, cond_true]
      | inr z =>
        cases hb : PP.isEmpty with
        | true => simp only [s_ifs, tR, e_bop, c_or, c_one, e_cmp, e_var, e_lst, k_nil, e_lit, sl_0, sl_s, b_ok, lk_dat, lk_fre, en, hb, of_some, dB_, asB_b, st_ok, cond_true]
        | false => simp only [s_ifs, tR, e_bop, c_or, c_one, e_cmp, e_var, e_lst, k_nil, e_lit, sl_0, sl_s, b_ok, lk_dat, lk_fre, en, hb, of_some, dB_, asB_b, st_ok, cond_true, cond_false, cm_eqi, decide_eq_true z]
    rcases hw with rfl | rfl
    · refine ⟨ys, ds2, .fre (ys.map ax), hc, p2.mono (by omega), .inl rfl, ?_⟩
      unfold ir__law_changed
      rw [s_cons, e2, sq_nx, s_cons, x2, sq_nx, s_cons, x3, sq_nx, s_cons, x4, sq_rt]
      exact out_f1
    · refine ⟨ys, ds2, .dat (axs ys), hc, p2.mono (by omega), .inr rfl, ?_⟩
      unfold ir__law_changed
      rw [s_cons, e2, sq_nx, s_cons, x2, sq_nx, s_cons, x3, sq_nx, s_cons, x4, sq_rt]
      exact out_d1
  · have hs1 : PP ≠ [] := fun z => hs (.inl z)
    have hs2 : way ≠ 0 := fun z => hs (.inr z)
    have hne : PP.isEmpty = false := by cases PP with
      | nil => exact absurd rfl hs1
      | cons _ _ => rfl
    obtain ⟨d, ds2, hd, p2, e5⟩ := call_one (st := .arg) (by decide) p1 (by omega) (L := PP.map md) (by rw [List.length_map]; exact List.length_pos_iff.mpr hs1) (by rw [List.length_map]; omega) R1
    obtain ⟨q, hq, rfl⟩ := List.mem_map.mp hd
    obtain ⟨i, j, ms, m, rfl, ei, ej⟩ := hP q hq
    have h2 := h.pen (ds' := ds2)
    obtain ⟨k, ek, ec⟩ := h2.get ei
    have ni := nst_idx h2 ek
    obtain ⟨ys, ds3, R3, hc, p3, e6⟩ := chg_way (a1 := some (.dat (axs xs))) (a2 := some (.dat (ax PP))) (a6 := b6) (way := way) p2 (by omega) v h2 ei ej
    have hj : j < ms.length := (List.getElem?_eq_some_iff.mp ej).1
    have eix : idxD (.list (ms.map md)) (.int (j : Int)) = some (md m) := by
      show atI (ms.map md) (j : Int) = _
      unfold atI
      rw [ix_nn (by omega) (by rw [List.length_map]; omega)]
      show (ms.map md)[Int.toNat (j : Int)]? = _
      rw [Int.toNat_natCast, List.getElem?_map, ej]
      rfl
    refine ⟨ys, ds3, .dat (axs ys), hc, p3.mono (by omega), .inr rfl, ?_⟩
    have x4 : (den GC (.ifs (.bop .Or (.cons (.cmp .Eq (.var 2) (.lst (.nil))) (.cons (.cmp .Eq (.var 4) (.lit (.int 0))) (.nil)))) (.cons (.ifs (.bop .Or (.cons (.cmp .Eq (.blt .len (.cons (.frz (.var 3)) (.nil))) (.lit (.int 8))) (.cons (.cmp .Gt (.cal 10 (.cons (.cal 5 (.cons (.frz (.var 3)) (.nil))) (.nil))) (.bin .Pow (.lit (.int 10)) (.lit (.int 39)))) (.nil)))) (.cons (.ret (.frz (.var 3))) (.nil)) (.nil)) (.cons (.ret (.bin .Add (.frz (.var 3)) (.lst (.cons (.lst (.cons (.tup (.cons (.lit (.int 2)) (.cons (.cal 2 (.cons (.lend 0) (.cons (.lit (.int 5)) (.nil)))) (.nil)))) (.nil))) (.nil))))) (.nil))) (.nil))).s [some (.own 0), some (.dat (axs xs)), some (.dat (ax PP)), some (.nst o), some (.dat (.int way)), b5, b6, none, none, none] (⟨.arg, ds1⟩ :: R1) = .nx [some (.own 0), some (.dat (axs xs)), some (.dat (ax PP)), some (.nst o), some (.dat (.int way)), b5, b6, none, none, none] (⟨.arg, ds1⟩ :: R1) := by
      simp only [s_ifs, tR, e_bop, c_or, c_one, e_cmp, e_var, e_lst, k_nil, e_lit, sl_0, sl_s, b_ok, lk_dat, lk_fre, en, hne, of_some, dB_, asB_b, st_ok, cond_false, cm_eqi, decide_eq_false hs2, s_nil]
    have x5 : (den GC (.unp (.cons (.nm 5) (.cons (.nm 7) (.nil))) (.cal 3 (.cons (.lend 0) (.cons (.var 2) (.nil)))))).s [some (.own 0), some (.dat (axs xs)), some (.dat (ax PP)), some (.nst o), some (.dat (.int way)), b5, b6, none, none, none] (⟨.arg, ds1⟩ :: R1) = .nx [some (.own 0), some (.dat (axs xs)), some (.dat (ax PP)), some (.nst o), some (.dat (.int way)), some (.dat (.int (i : Int))), b6, some (.dat (.int (j : Int))), none, none] (⟨.arg, ds2⟩ :: R1) := by
      simp only [b_ok, b_exc, st_ok, st_exc, sq_nx, sq_rt, sq_bk, sq_ct, sq_exc, of_some, nox_ok, lk_dat, lk_fre, kp_dat, kp_fre, asB_b, asI_i, dB_, tR, s_nil, s_cons, s_pass, s_ret, s_xpr, s_set, s_setO, s_unp, s_sti, s_ifs, s_fo, s_rai, e_var, e_lit, e_dct, e_glb, e_bin, e_neg, e_nt, e_cmp, e_chn, e_bop, c_one, c_and, c_or, e_ife, e_tup, e_lst, e_idx, e_sli, e_blt, e_isi, k_nil, k_cons, bl_nil, bl_cons, a_nil, a_cons, o_nil, o_var, o_lit, intO_i, av_dat, av_fre, av_own, av_var, av_lit, av_glb, av_bin, av_idx, av_lst, av_tup, av_cal, av_blt, av_lend, i_seq, i_rng, sl_0, sl_s, lks_nil, s_par, pn_nil, pn_f, pn_t, st_nil, st_cons, s_app2, ow_0, ow_s, cm_eqi, cm_nei, cm_nes, cm_eqs, cm_neb, rv_dat, rv_fre, lk_0, lk_1, lk_2, i3_0, i3_1, i3_2, t3_1, t3_2, ka_dat, ka_fre, ka_own, tn_fre, tg_nm, bi_add, bi_sub, cm_lt, cm_le, cm_gt, cm_ge, cm_is, bt_len, bt_lenT, bt_int, bt_list, bt_tuple, bt_min, List.set_cons_zero, List.set_cons_succ, cond_true, cond_false, tg_2, tn_own, pn_o, t2_0, t2_1, av_neg, av_nt, av_cmp, av_ife, av_sli, av_lc, av_dct, av_bop, o_bin, o_neg, lk_0a, lk_1a, lk_2a, tn_fd, tn_ff, tn_fo, tn_fn, pn_ff, pn_fo, lks1, lks1f, lks2, lks2f, lks2a, lks2b, lks3, e_cal go, e5]
    have x6 : (den GC (.unp (.cons (.nm 8) (.cons (.nm 9) (.nil))) (.idx (.idxN (.var 3) (.var 5)) (.var 7)))).s [some (.own 0), some (.dat (axs xs)), some (.dat (ax PP)), some (.nst o), some (.dat (.int way)), some (.dat (.int (i : Int))), b6, some (.dat (.int (j : Int))), none, none] (⟨.arg, ds2⟩ :: R1) = .nx [some (.own 0), some (.dat (axs xs)), some (.dat (ax PP)), some (.nst o), some (.dat (.int way)), some (.dat (.int (i : Int))), b6, some (.dat (.int (j : Int))), some (.dat (.int m.1)), some (.dat (.int m.2))] (⟨.arg, ds2⟩ :: R1) := by
      simp only [b_ok, b_exc, st_ok, st_exc, sq_nx, sq_rt, sq_bk, sq_ct, sq_exc, of_some, nox_ok, lk_dat, lk_fre, kp_dat, kp_fre, asB_b, asI_i, dB_, tR, s_nil, s_cons, s_pass, s_ret, s_xpr, s_set, s_setO, s_unp, s_sti, s_ifs, s_fo, s_rai, e_var, e_lit, e_dct, e_glb, e_bin, e_neg, e_nt, e_cmp, e_chn, e_bop, c_one, c_and, c_or, e_ife, e_tup, e_lst, e_idx, e_sli, e_blt, e_isi, k_nil, k_cons, bl_nil, bl_cons, a_nil, a_cons, o_nil, o_var, o_lit, intO_i, av_dat, av_fre, av_own, av_var, av_lit, av_glb, av_bin, av_idx, av_lst, av_tup, av_cal, av_blt, av_lend, i_seq, i_rng, sl_0, sl_s, lks_nil, s_par, pn_nil, pn_f, pn_t, st_nil, st_cons, s_app2, ow_0, ow_s, cm_eqi, cm_nei, cm_nes, cm_eqs, cm_neb, rv_dat, rv_fre, lk_0, lk_1, lk_2, i3_0, i3_1, i3_2, t3_1, t3_2, ka_dat, ka_fre, ka_own, tn_fre, tg_nm, bi_add, bi_sub, cm_lt, cm_le, cm_gt, cm_ge, cm_is, bt_len, bt_lenT, bt_int, bt_list, bt_tuple, bt_min, List.set_cons_zero, List.set_cons_succ, cond_true, cond_false, tg_2, tn_own, pn_o, t2_0, t2_1, av_neg, av_nt, av_cmp, av_ife, av_sli, av_lc, av_dct, av_bop, o_bin, o_neg, lk_0a, lk_1a, lk_2a, tn_fd, tn_ff, tn_fo, tn_fn, pn_ff, pn_fo, lks1, lks1f, lks2, lks2f, lks2a, lks2b, lks3, e_idxN, ni, lk_own ec, eix]
    unfold ir__law_changed
    rw [s_cons, e2, sq_nx, s_cons, x2, sq_nx, s_cons, x3, sq_nx, s_cons, x4, sq_nx, s_cons, x5, sq_nx, s_cons, x6, sq_nx, e6]
    exact out_d1
end K04

set_option maxHeartbeats 1000000
namespace K04
open DL
open PySem PySem.Spec PyProof.Rows L2
noncomputable abbrev GL : Ge := ⟨cs27, con, exc, sub⟩
theorem GL__law_open : GL.ces[0]? = some c0 := rfl
theorem GL__law_draw_axes : GL.ces[7]? = some c7 := rfl
theorem GL__law_draw_great : GL.ces[8]? = some c8 := rfl
theorem GL__law_parted : GL.ces[9]? = some c9 := rfl
theorem GL__law_changed : GL.ces[11]? = some c11 := rfl
theorem GL__law_told_right : GL.ces[26]? = some c26 := rfl

section
variable {a0 a1 a2 a3 a4 a5 a6 : Option SV}
theorem chg_loop {xs : List (List Md)} (v : Vld xs) (hl : xs.flatten.length ≤ 100) : ∀ (L : List D) {n : Nat} {ds : List D}, Pen n ds → n + 30 * L.length ≤ 990000000 →
    ∃ (Ys : List (List (List Md))) (ds' : List D), (∀ y ∈ Ys, Vld y) ∧ Ys.length = L.length ∧ Pen (n + 30 * L.length) ds' ∧
    lcR (Tg.nm 6).f.one (fun _ μ2 => .ok true μ2) (fun ρ1 μ2 => ((den GL (.cal 11 (.cons (.lend 1) (.cons (.var 2) (.nil))))).e ρ1 μ2).bind fun v μ3 => (v.keep μ3).bind fun d μ4 => .ok [d] μ4) [a0, some (.own 0), some (.dat (axs xs)), a3, a4, a5, none] L [⟨.live, ds⟩] = .ok (Ys.map axs) [⟨.live, ds'⟩]
  | [], n, ds, p, _ => ⟨[], ds, (fun _ h => nomatch h), rfl, p, rfl⟩
  | d :: L, n, ds, p, hn => by
    rw [List.length_cons] at hn
    obtain ⟨y, ds1, r, hc, p1, hr, e1⟩ := changed_sem p (by omega) v hl
    have e2 : callR c11 [.own 0, .dat (axs xs)] [⟨.live, ds⟩] = .ok r.sv [⟨.live, ds1⟩] := call_own (k := 0) (cl := ⟨.live, ds⟩) rfl rfl rfl rfl e1 rfl
    have ek : r.sv.keep [⟨.live, ds1⟩] = .ok (axs y) [⟨.live, ds1⟩] := by rcases hr with rfl | rfl <;> rfl
    obtain ⟨Ys, ds2, hv, hlen, p2, e3⟩ := chg_loop v hl L p1 (by omega)
    refine ⟨y :: Ys, ds2, fun z hz => ?_, by rw [List.length_cons, List.length_cons, hlen], p2.mono (by rw [List.length_cons]; omega), ?_⟩
    · rcases List.mem_cons.mp hz with rfl | hz
      · exact hc.1
      · exact hv z hz
    · refine lc_step (b := true) (ρ1 := [a0, some (.own 0), some (.dat (axs xs)), a3, a4, a5, some (.dat d)]) (y := [axs y]) rfl rfl ?_ e3
      have : (den GL (.cal 11 (.cons (.lend 1) (.cons (.var 2) (.nil))))).e [a0, some (.own 0), some (.dat (axs xs)), a3, a4, a5, some (.dat d)] [⟨.live, ds⟩] = .ok r.sv [⟨.live, ds1⟩] := by
        simp only [b_ok, b_exc, st_ok, st_exc, sq_nx, sq_rt, sq_bk, sq_ct, sq_exc, of_some, nox_ok, lk_dat, lk_fre, kp_dat, kp_fre, asB_b, asI_i, dB_, tR, s_nil, s_cons, s_pass, s_ret, s_xpr, s_set, s_setO, s_unp, s_sti, s_ifs, s_fo, s_rai, e_var, e_lit, e_dct, e_glb, e_bin, e_neg, e_nt, e_cmp, e_chn, e_bop, c_one, c_and, c_or, e_ife, e_tup, e_lst, e_idx, e_sli, e_blt, e_isi, k_nil, k_cons, bl_nil, bl_cons, a_nil, a_cons, o_nil, o_var, o_lit, intO_i, av_dat, av_fre, av_own, av_var, av_lit, av_glb, av_bin, av_idx, av_lst, av_tup, av_cal, av_blt, av_lend, i_seq, i_rng, sl_0, sl_s, lks_nil, s_par, pn_nil, pn_f, pn_t, st_nil, st_cons, s_app2, ow_0, ow_s, cm_eqi, cm_nei, cm_nes, cm_eqs, cm_neb, rv_dat, rv_fre, lk_0, lk_1, lk_2, i3_0, i3_1, i3_2, t3_1, t3_2, ka_dat, ka_fre, ka_own, tn_fre, tg_nm, bi_add, bi_sub, cm_lt, cm_le, cm_gt, cm_ge, cm_is, bt_len, bt_lenT, bt_int, bt_list, bt_tuple, bt_min, List.set_cons_zero, List.set_cons_succ, cond_true, cond_false, tg_2, tn_own, pn_o, t2_0, t2_1, av_neg, av_nt, av_cmp, av_ife, av_sli, av_lc, av_dct, av_bop, o_bin, o_neg, lk_0a, lk_1a, lk_2a, tn_fd, tn_ff, tn_fo, tn_fn, pn_ff, pn_fo, lks1, lks1f, lks2, lks2f, lks2a, lks2b, lks3, e_cal GL__law_open, e_cal GL__law_draw_axes, e_cal GL__law_draw_great, e_cal GL__law_parted, e_cal GL__law_changed, e_cal GL__law_told_right, e2]
      rw [this, b_ok, ek, b_ok]
theorem told_loop {a : List (List Md)} (va : Vld a) (hl : a.flatten.length ≤ 100) : ∀ (L : List (List (List Md))) {n : Nat} {ds : List D} {a5 : Option SV}, Pen n ds → n + 8 * L.length ≤ 990000000 → (∀ b ∈ L, Vld b) →
    ∃ (ds' : List D) (b5 : Option SV), Pen (n + 8 * L.length) ds' ∧ forR (Tg.nm 5).f.one (den GL (.cons (.ifs (.bop .Or (.cons (.nt (.cal 26 (.cons (.lend 1) (.cons (.var 2) (.cons (.var 5) (.nil)))))) (.cons (.cmp .NotEq (.blt .repr1 (.cons (.var 2) (.nil))) (.var 3)) (.nil)))) (.cons (.ret (.lit (.bool false))) (.nil)) (.nil)) (.nil))).s (L.map axs) [a0, some (.own 0), some (.dat (axs a)), some (.dat (.str (axs a).shown)), a4, a5, a6] [⟨.live, ds⟩] = .nx [a0, some (.own 0), some (.dat (axs a)), some (.dat (.str (axs a).shown)), a4, b5, a6] [⟨.live, ds'⟩]
  | [], n, ds, a5, p, _, _ => ⟨ds, a5, p, rfl⟩
  | b :: L, n, ds, a5, p, hn, hb => by
    rw [List.length_cons] at hn
    obtain ⟨ds1, p1, e1⟩ := told_sem p (by omega) va (hb b (List.mem_cons_self ..))
    have e2 : callR c26 [.own 0, .dat (axs a), .dat (axs b)] [⟨.live, ds⟩] = .ok (.dat (.bool true)) [⟨.live, ds1⟩] := call_own (k := 0) (cl := ⟨.live, ds⟩) (r := .dat (.bool true)) rfl rfl rfl rfl e1 rfl
    have e3 : bltD .repr1 [axs a] = some (.dat (.str (axs a).shown)) := bt_repr (shw_axs va hl) (by decide) (by decide)
    obtain ⟨ds2, b5, p2, e4⟩ := told_loop va hl L (a5 := some (.dat (axs b))) p1 (by omega) fun z hz => hb z (List.mem_cons_of_mem _ hz)
    refine ⟨ds2, b5, p2.mono (by rw [List.length_cons]; omega), ?_⟩
    rw [← e4]
    refine for_nx (ρ1 := [a0, some (.own 0), some (.dat (axs a)), some (.dat (.str (axs a).shown)), a4, some (.dat (axs b)), a6]) rfl ?_
    simp only [b_ok, b_exc, st_ok, st_exc, sq_nx, sq_rt, sq_bk, sq_ct, sq_exc, of_some, nox_ok, lk_dat, lk_fre, kp_dat, kp_fre, asB_b, asI_i, dB_, tR, s_nil, s_cons, s_pass, s_ret, s_xpr, s_set, s_setO, s_unp, s_sti, s_ifs, s_fo, s_rai, e_var, e_lit, e_dct, e_glb, e_bin, e_neg, e_nt, e_cmp, e_chn, e_bop, c_one, c_and, c_or, e_ife, e_tup, e_lst, e_idx, e_sli, e_blt, e_isi, k_nil, k_cons, bl_nil, bl_cons, a_nil, a_cons, o_nil, o_var, o_lit, intO_i, av_dat, av_fre, av_own, av_var, av_lit, av_glb, av_bin, av_idx, av_lst, av_tup, av_cal, av_blt, av_lend, i_seq, i_rng, sl_0, sl_s, lks_nil, s_par, pn_nil, pn_f, pn_t, st_nil, st_cons, s_app2, ow_0, ow_s, cm_eqi, cm_nei, cm_nes, cm_eqs, cm_neb, rv_dat, rv_fre, lk_0, lk_1, lk_2, i3_0, i3_1, i3_2, t3_1, t3_2, ka_dat, ka_fre, ka_own, tn_fre, tg_nm, bi_add, bi_sub, cm_lt, cm_le, cm_gt, cm_ge, cm_is, bt_len, bt_lenT, bt_int, bt_list, bt_tuple, bt_min, List.set_cons_zero, List.set_cons_succ, cond_true, cond_false, tg_2, tn_own, pn_o, t2_0, t2_1, av_neg, av_nt, av_cmp, av_ife, av_sli, av_lc, av_dct, av_bop, o_bin, o_neg, lk_0a, lk_1a, lk_2a, tn_fd, tn_ff, tn_fo, tn_fn, pn_ff, pn_fo, lks1, lks1f, lks2, lks2f, lks2a, lks2b, lks3, e_cal GL__law_open, e_cal GL__law_draw_axes, e_cal GL__law_draw_great, e_cal GL__law_parted, e_cal GL__law_changed, e_cal GL__law_told_right, e2, Bool.not_true, e3, decide_true]
theorem turn {n : Nat} {ds : List D} {xs : List (List Md)} (p : Pen n ds) (hn : n ≤ 900000000) (v : Vld xs) (hl : xs.flatten.length ≤ 32) : ∃ (ds' : List D) (b3 b4 b5 : Option SV), Pen (n + 1000) ds' ∧
    (den GL (.cons (.set 3 (.blt .repr1 (.cons (.var 2) (.nil)))) (.cons (.set 4 (.lst (.cons (.var 2) (.cons (.cal 9 (.cons (.lend 1) (.cons (.var 2) (.nil)))) (.cons (.cal 7 (.cons (.lend 1) (.cons (.lit (.int 3)) (.cons (.lit (.int 40)) (.nil))))) (.nil)))))) (.cons (.fo (.nm 5) (.iSeq (.bin .Add (.var 4) (.lc [("_law_again", 6)] (.nm 6) (.iRng (.cons (.lit (.int 4)) (.nil))) (.nil) (.cal 11 (.cons (.lend 1) (.cons (.var 2) (.nil))))))) (.cons (.ifs (.bop .Or (.cons (.nt (.cal 26 (.cons (.lend 1) (.cons (.var 2) (.cons (.var 5) (.nil)))))) (.cons (.cmp .NotEq (.blt .repr1 (.cons (.var 2) (.nil))) (.var 3)) (.nil)))) (.cons (.ret (.lit (.bool false))) (.nil)) (.nil)) (.nil))) (.nil))))).s [a0, some (.own 0), some (.dat (axs xs)), a3, a4, a5, a6] [⟨.live, ds⟩] = .nx [a0, some (.own 0), some (.dat (axs xs)), b3, b4, b5, a6] [⟨.live, ds'⟩] := by
  have hs : bltD .repr1 [axs xs] = some (.dat (.str (axs xs).shown)) := bt_repr (shw_axs v (by omega)) (by decide) (by decide)
  obtain ⟨ps, ds1, r, vp, _, _, p1, hr, e1⟩ := parted_sem p (by omega) v (by omega)
  have e2 : callR c9 [.own 0, .dat (axs xs)] [⟨.live, ds⟩] = .ok r.sv [⟨.live, ds1⟩] := call_own (k := 0) (cl := ⟨.live, ds⟩) rfl rfl rfl rfl e1 rfl
  have ek : r.sv.keep [⟨.live, ds1⟩] = .ok (axs ps) [⟨.live, ds1⟩] := by rcases hr with rfl | rfl <;> rfl
  obtain ⟨zs, ds2, vz, _, _, _, _, p2, e3⟩ := daxes_sem (lists := 3) (room := 40) p1 (by omega) (by decide) (by decide) (by decide) (by decide)
  have e4 : callR c7 [.own 0, .dat (.int 3), .dat (.int 40)] [⟨.live, ds1⟩] = .ok (.fre (zs.map ax)) [⟨.live, ds2⟩] := call_own (k := 0) (cl := ⟨.live, ds1⟩) (r := .fre (zs.map ax)) rfl rfl rfl rfl e3 rfl
  obtain ⟨Ys, ds3, hv, hlen, p3, e5⟩ := chg_loop (a0 := a0) (a3 := some (.dat (.str (axs xs).shown))) (a4 := some (.dat (.list ([xs, ps, zs].map axs)))) (a5 := a5) v (by omega) (rangeD 0 4) p2 (by rw [range_len]; omega)
  rw [range_len] at p3 hlen
  have x1 : (den GL (.set 3 (.blt .repr1 (.cons (.var 2) (.nil))))).s [a0, some (.own 0), some (.dat (axs xs)), a3, a4, a5, a6] [⟨.live, ds⟩] = .nx [a0, some (.own 0), some (.dat (axs xs)), some (.dat (.str (axs xs).shown)), a4, a5, a6] [⟨.live, ds⟩] := by
    simp only [b_ok, b_exc, st_ok, st_exc, sq_nx, sq_rt, sq_bk, sq_ct, sq_exc, of_some, nox_ok, lk_dat, lk_fre, kp_dat, kp_fre, asB_b, asI_i, dB_, tR, s_nil, s_cons, s_pass, s_ret, s_xpr, s_set, s_setO, s_unp, s_sti, s_ifs, s_fo, s_rai, e_var, e_lit, e_dct, e_glb, e_bin, e_neg, e_nt, e_cmp, e_chn, e_bop, c_one, c_and, c_or, e_ife, e_tup, e_lst, e_idx, e_sli, e_blt, e_isi, k_nil, k_cons, bl_nil, bl_cons, a_nil, a_cons, o_nil, o_var, o_lit, intO_i, av_dat, av_fre, av_own, av_var, av_lit, av_glb, av_bin, av_idx, av_lst, av_tup, av_cal, av_blt, av_lend, i_seq, i_rng, sl_0, sl_s, lks_nil, s_par, pn_nil, pn_f, pn_t, st_nil, st_cons, s_app2, ow_0, ow_s, cm_eqi, cm_nei, cm_nes, cm_eqs, cm_neb, rv_dat, rv_fre, lk_0, lk_1, lk_2, i3_0, i3_1, i3_2, t3_1, t3_2, ka_dat, ka_fre, ka_own, tn_fre, tg_nm, bi_add, bi_sub, cm_lt, cm_le, cm_gt, cm_ge, cm_is, bt_len, bt_lenT, bt_int, bt_list, bt_tuple, bt_min, List.set_cons_zero, List.set_cons_succ, cond_true, cond_false, tg_2, tn_own, pn_o, t2_0, t2_1, av_neg, av_nt, av_cmp, av_ife, av_sli, av_lc, av_dct, av_bop, o_bin, o_neg, lk_0a, lk_1a, lk_2a, tn_fd, tn_ff, tn_fo, tn_fn, pn_ff, pn_fo, lks1, lks1f, lks2, lks2f, lks2a, lks2b, lks3, hs]
  have x2 : (den GL (.set 4 (.lst (.cons (.var 2) (.cons (.cal 9 (.cons (.lend 1) (.cons (.var 2) (.nil)))) (.cons (.cal 7 (.cons (.lend 1) (.cons (.lit (.int 3)) (.cons (.lit (.int 40)) (.nil))))) (.nil))))))).s [a0, some (.own 0), some (.dat (axs xs)), some (.dat (.str (axs xs).shown)), a4, a5, a6] [⟨.live, ds⟩] = .nx [a0, some (.own 0), some (.dat (axs xs)), some (.dat (.str (axs xs).shown)), some (.dat (.list ([xs, ps, zs].map axs))), a5, a6] [⟨.live, ds2⟩] := by
    simp only [b_ok, b_exc, st_ok, st_exc, sq_nx, sq_rt, sq_bk, sq_ct, sq_exc, of_some, nox_ok, lk_dat, lk_fre, kp_dat, kp_fre, asB_b, asI_i, dB_, tR, s_nil, s_cons, s_pass, s_ret, s_xpr, s_set, s_setO, s_unp, s_sti, s_ifs, s_fo, s_rai, e_var, e_lit, e_dct, e_glb, e_bin, e_neg, e_nt, e_cmp, e_chn, e_bop, c_one, c_and, c_or, e_ife, e_tup, e_lst, e_idx, e_sli, e_blt, e_isi, k_nil, k_cons, bl_nil, bl_cons, a_nil, a_cons, o_nil, o_var, o_lit, intO_i, av_dat, av_fre, av_own, av_var, av_lit, av_glb, av_bin, av_idx, av_lst, av_tup, av_cal, av_blt, av_lend, i_seq, i_rng, sl_0, sl_s, lks_nil, s_par, pn_nil, pn_f, pn_t, st_nil, st_cons, s_app2, ow_0, ow_s, cm_eqi, cm_nei, cm_nes, cm_eqs, cm_neb, rv_dat, rv_fre, lk_0, lk_1, lk_2, i3_0, i3_1, i3_2, t3_1, t3_2, ka_dat, ka_fre, ka_own, tn_fre, tg_nm, bi_add, bi_sub, cm_lt, cm_le, cm_gt, cm_ge, cm_is, bt_len, bt_lenT, bt_int, bt_list, bt_tuple, bt_min, List.set_cons_zero, List.set_cons_succ, cond_true, cond_false, tg_2, tn_own, pn_o, t2_0, t2_1, av_neg, av_nt, av_cmp, av_ife, av_sli, av_lc, av_dct, av_bop, o_bin, o_neg, lk_0a, lk_1a, lk_2a, tn_fd, tn_ff, tn_fo, tn_fn, pn_ff, pn_fo, lks1, lks1f, lks2, lks2f, lks2a, lks2b, lks3, e_cal GL__law_open, e_cal GL__law_draw_axes, e_cal GL__law_draw_great, e_cal GL__law_parted, e_cal GL__law_changed, e_cal GL__law_told_right, e2, ek, e4, List.map_cons, List.map_nil]
  have lc : (den GL (.lc [("_law_again", 6)] (.nm 6) (.iRng (.cons (.lit (.int 4)) (.nil))) (.nil) (.cal 11 (.cons (.lend 1) (.cons (.var 2) (.nil)))))).e [a0, some (.own 0), some (.dat (axs xs)), some (.dat (.str (axs xs).shown)), some (.dat (.list ([xs, ps, zs].map axs))), a5, a6] [⟨.live, ds2⟩] = .ok (.fre (Ys.map axs)) [⟨.live, ds3⟩] := by
    refine lc_ok (ds := rangeD 0 4) (μ1 := [⟨.live, ds2⟩]) ?_ e5 (by rw [range_len]; decide)
    exact i_rng1 rfl (rng_n (n := 4) (by decide))
  have hc : bin2 .Add (.list ([xs, ps, zs].map axs)) (.list (Ys.map axs)) = some (.fre ((xs :: ps :: zs :: Ys).map axs)) := by
    rw [bi_cat (size7 (by simp; omega))]
    rfl
  have ei : (den GL (.iSeq (.bin .Add (.var 4) (.lc [("_law_again", 6)] (.nm 6) (.iRng (.cons (.lit (.int 4)) (.nil))) (.nil) (.cal 11 (.cons (.lend 1) (.cons (.var 2) (.nil)))))))).i [a0, some (.own 0), some (.dat (axs xs)), some (.dat (.str (axs xs).shown)), some (.dat (.list ([xs, ps, zs].map axs))), a5, a6] [⟨.live, ds2⟩] = .ok ((xs :: ps :: zs :: Ys).map axs) [⟨.live, ds3⟩] := by
    simp only [i_seq, e_bin, e_var, sl_s, sl_0, b_ok, lc, lk_dat, lk_fre, hc, of_some, kp_fre, itemsD]
  obtain ⟨ds4, b5, p4, e6⟩ := told_loop (a0 := a0) (a4 := some (.dat (.list ([xs, ps, zs].map axs)))) (a6 := a6) v (by omega) (xs :: ps :: zs :: Ys) (a5 := a5) p3 (by simp; omega) fun b hb => by
    rcases List.mem_cons.mp hb with rfl | hb
    · exact v
    rcases List.mem_cons.mp hb with rfl | hb
    · exact vp
    rcases List.mem_cons.mp hb with rfl | hb
    · exact vz
    · exact hv b hb
  refine ⟨ds4, some (.dat (.str (axs xs).shown)), some (.dat (.list ([xs, ps, zs].map axs))), b5, p4.mono (by simp; omega), ?_⟩
  rw [s_cons, x1, sq_nx, s_cons, x2, sq_nx, s_cons, s_fo, ei, st_ok, e6, sq_nx, s_nil]
end
theorem due : ∀ ns : List Int, ns.length ≤ 63 → (∀ z ∈ ns, Builtin.Int.intBits z ≤ 1048576) → lawF [.dat (.list (ns.map PyData.int))] = some (.ret (.dat (.bool true)) []) := fun ns _ _ => by
  obtain ⟨ds, p, e0⟩ := open_sem ns
  have x0 : callR c0 [.dat (dI ns)] [] = .ok (.fre ds) [] := call_dat (r := .fre ds) (as := [.dat (dI ns)]) rfl rfl rfl e0 (.inr rfl)
  obtain ⟨xs, ds1, vx, _, lx, _, _, p1, e1⟩ := daxes_sem (lists := 4) (room := 40) p (by omega) (by decide) (by decide) (by decide) (by decide)
  obtain ⟨ys, ds2, vy, _, ly, p2, e2⟩ := dgreat_sem (lists := 4) p1 (by omega) (by decide) (by decide)
  obtain ⟨zs, ds3, vz, _, lz, p3, e3⟩ := dgreat_sem (lists := 8) p2 (by omega) (by decide) (by decide)
  have c1 : callR c7 [.own 0, .dat (.int 4), .dat (.int 40)] [⟨.live, ds⟩] = .ok (.fre (xs.map ax)) [⟨.live, ds1⟩] := call_own (k := 0) (cl := ⟨.live, ds⟩) (r := .fre (xs.map ax)) rfl rfl rfl rfl e1 rfl
  have c2 : callR c8 [.own 0, .dat (.int 4)] [⟨.live, ds1⟩] = .ok (.fre (ys.map ax)) [⟨.live, ds2⟩] := call_own (k := 0) (cl := ⟨.live, ds1⟩) (r := .fre (ys.map ax)) rfl rfl rfl rfl e2 rfl
  have c3 : callR c8 [.own 0, .dat (.int 8)] [⟨.live, ds2⟩] = .ok (.fre (zs.map ax)) [⟨.live, ds3⟩] := call_own (k := 0) (cl := ⟨.live, ds2⟩) (r := .fre (zs.map ax)) rfl rfl rfl rfl e3 rfl
  rw [show (4 : Int).toNat = 4 from rfl] at lx ly
  rw [show (8 : Int).toNat = 8 from rfl] at lz
  obtain ⟨ds4, b3, b4, b5, p4, t1⟩ := turn (a0 := some (.dat (dI ns))) (a3 := none) (a4 := none) (a5 := none) (a6 := none) p3 (by omega) vx (by omega)
  obtain ⟨ds5, c3', c4, c5, p5, t2⟩ := turn (a0 := some (.dat (dI ns))) (a3 := b3) (a4 := b4) (a5 := b5) (a6 := none) p4 (by omega) vy (by omega)
  obtain ⟨ds6, d3, d4, d5, p6, t3⟩ := turn (a0 := some (.dat (dI ns))) (a3 := c3') (a4 := c4) (a5 := c5) (a6 := none) p5 (by omega) vz (by omega)
  have q1 : (den GL (.setO 1 (.cal 0 (.cons (.var 0) (.nil))))).s [some (.dat (dI ns)), none, none, none, none, none, none] [] = .nx [some (.dat (dI ns)), some (.own 0), none, none, none, none, none] [⟨.live, ds⟩] := by
    simp only [b_ok, b_exc, st_ok, st_exc, sq_nx, sq_rt, sq_bk, sq_ct, sq_exc, of_some, nox_ok, lk_dat, lk_fre, kp_dat, kp_fre, asB_b, asI_i, dB_, tR, s_nil, s_cons, s_pass, s_ret, s_xpr, s_set, s_setO, s_unp, s_sti, s_ifs, s_fo, s_rai, e_var, e_lit, e_dct, e_glb, e_bin, e_neg, e_nt, e_cmp, e_chn, e_bop, c_one, c_and, c_or, e_ife, e_tup, e_lst, e_idx, e_sli, e_blt, e_isi, k_nil, k_cons, bl_nil, bl_cons, a_nil, a_cons, o_nil, o_var, o_lit, intO_i, av_dat, av_fre, av_own, av_var, av_lit, av_glb, av_bin, av_idx, av_lst, av_tup, av_cal, av_blt, av_lend, i_seq, i_rng, sl_0, sl_s, lks_nil, s_par, pn_nil, pn_f, pn_t, st_nil, st_cons, s_app2, ow_0, ow_s, cm_eqi, cm_nei, cm_nes, cm_eqs, cm_neb, rv_dat, rv_fre, lk_0, lk_1, lk_2, i3_0, i3_1, i3_2, t3_1, t3_2, ka_dat, ka_fre, ka_own, tn_fre, tg_nm, bi_add, bi_sub, cm_lt, cm_le, cm_gt, cm_ge, cm_is, bt_len, bt_lenT, bt_int, bt_list, bt_tuple, bt_min, List.set_cons_zero, List.set_cons_succ, cond_true, cond_false, tg_2, tn_own, pn_o, t2_0, t2_1, av_neg, av_nt, av_cmp, av_ife, av_sli, av_lc, av_dct, av_bop, o_bin, o_neg, lk_0a, lk_1a, lk_2a, tn_fd, tn_ff, tn_fo, tn_fn, pn_ff, pn_fo, lks1, lks1f, lks2, lks2f, lks2a, lks2b, lks3, e_cal GL__law_open, e_cal GL__law_draw_axes, e_cal GL__law_draw_great, e_cal GL__law_parted, e_cal GL__law_changed, e_cal GL__law_told_right, x0, List.length_nil, List.nil_append]
  have ei : (den GL (.iSeq (.lst (.cons (.cal 7 (.cons (.lend 1) (.cons (.lit (.int 4)) (.cons (.lit (.int 40)) (.nil))))) (.cons (.cal 8 (.cons (.lend 1) (.cons (.lit (.int 4)) (.nil)))) (.cons (.cal 8 (.cons (.lend 1) (.cons (.lit (.int 8)) (.nil)))) (.nil))))))).i [some (.dat (dI ns)), some (.own 0), none, none, none, none, none] [⟨.live, ds⟩] = .ok ([xs, ys, zs].map axs) [⟨.live, ds3⟩] := by
    simp only [b_ok, b_exc, st_ok, st_exc, sq_nx, sq_rt, sq_bk, sq_ct, sq_exc, of_some, nox_ok, lk_dat, lk_fre, kp_dat, kp_fre, asB_b, asI_i, dB_, tR, s_nil, s_cons, s_pass, s_ret, s_xpr, s_set, s_setO, s_unp, s_sti, s_ifs, s_fo, s_rai, e_var, e_lit, e_dct, e_glb, e_bin, e_neg, e_nt, e_cmp, e_chn, e_bop, c_one, c_and, c_or, e_ife, e_tup, e_lst, e_idx, e_sli, e_blt, e_isi, k_nil, k_cons, bl_nil, bl_cons, a_nil, a_cons, o_nil, o_var, o_lit, intO_i, av_dat, av_fre, av_own, av_var, av_lit, av_glb, av_bin, av_idx, av_lst, av_tup, av_cal, av_blt, av_lend, i_seq, i_rng, sl_0, sl_s, lks_nil, s_par, pn_nil, pn_f, pn_t, st_nil, st_cons, s_app2, ow_0, ow_s, cm_eqi, cm_nei, cm_nes, cm_eqs, cm_neb, rv_dat, rv_fre, lk_0, lk_1, lk_2, i3_0, i3_1, i3_2, t3_1, t3_2, ka_dat, ka_fre, ka_own, tn_fre, tg_nm, bi_add, bi_sub, cm_lt, cm_le, cm_gt, cm_ge, cm_is, bt_len, bt_lenT, bt_int, bt_list, bt_tuple, bt_min, List.set_cons_zero, List.set_cons_succ, cond_true, cond_false, tg_2, tn_own, pn_o, t2_0, t2_1, av_neg, av_nt, av_cmp, av_ife, av_sli, av_lc, av_dct, av_bop, o_bin, o_neg, lk_0a, lk_1a, lk_2a, tn_fd, tn_ff, tn_fo, tn_fn, pn_ff, pn_fo, lks1, lks1f, lks2, lks2f, lks2a, lks2b, lks3, e_cal GL__law_open, e_cal GL__law_draw_axes, e_cal GL__law_draw_great, e_cal GL__law_parted, e_cal GL__law_changed, e_cal GL__law_told_right, c1, c2, c3, itemsD, List.map_cons, List.map_nil]
  show outOf 0 ((den GL ir_law).s [some (.dat (dI ns)), none, none, none, none, none, none] []) = _
  unfold ir_law
  rw [s_cons, q1, sq_nx, s_cons, s_fo, ei, st_ok, List.map_cons, List.map_cons, List.map_cons, List.map_nil, for_nx rfl t1, for_nx rfl t2, for_nx rfl t3]
  rfl
end K04

set_option maxHeartbeats 2000000
namespace K04
open DL
open PySem PySem.Spec PyProof.Rows L2
abbrev R : PySem.W.OpenRow := PySem.W.OpenLaw.row PySem.Challenge.rw_pacefold_k04_functions_compared
def fa : List He.Fa := faOf defs con exc sub
abbrev hk : PySem.W.Hook := hookN 4 fa fn
def ob (s : PySem.W.SharedT) : AlN := obsN 4 fa fn (HandSHeadRun.getT s)
theorem ob_eq (s : PySem.W.SharedT) : ob s = hk.obs s.abs := obsN_eq (HandSHeadRun.getT_eq s)
def names : List Str := ("FoldError" : Str) :: ("NoAxes" : Str) :: ("MOST_SIZE" : Str) :: ("MOST_STRIDE" : Str) :: ("MOST_AXES" : Str) :: ("MOST_MODES" : Str) :: ("is_integer" : Str) :: ("is_mode" : Str) :: ("modes_of" : Str) :: ("raw_size" : Str) :: ("is_axes" : Str) :: ("need_axes" : Str) :: ("short_axis" : Str) :: ("raw_joined" : Str) :: ("apart_at" : Str) :: ("apart" : Str) :: ("_law_open" : Str) :: ("_law_spread" : Str) :: ("_law_take" : Str) :: ("_law_same" : Str) :: ("_law_one_of" : Str) :: ("_law_is_int" : Str) :: ("_law_flat" : Str) :: ("_law_many" : Str) :: ("_law_worth" : Str) :: ("_law_short" : Str) :: ("_law_draw_size" : Str) :: ("_law_draw_stride" : Str) :: ("_law_draw_axes" : Str) :: ("_law_draw_great" : Str) :: ("_law_parted" : Str) :: ("_law_changed" : Str) :: ("_law_told_right" : Str) :: []
theorem run (w : World) : HandSHeadRun.RunEq R (PySem.W.view R.prog [37]) hk ob 6000 names w := by
  intro os
  kernel_rfl
end K04
open PySem PySem.W PySem.Calls PyProof.Rows in
theorem PySem.Challenge.cw_pacefold_k04_functions_compared_holds : PySem.Challenge.rw_pacefold_k04_functions_compared.Holds := by
  w_on; o_law
  refine HandSHeadRun.head_any (r := OpenLaw.row PySem.Challenge.rw_pacefold_k04_functions_compared) (q := view (OpenLaw.row PySem.Challenge.rw_pacefold_k04_functions_compared).prog [37]) (H := K04.hk) (ob := K04.ob) (M := 6000) (loose := K04.names) (d := HandSHeadRun.topDef (OpenLaw.row PySem.Challenge.rw_pacefold_k04_functions_compared).prog 37) (kwd := []) K04.ob_eq
    (by kernel_rfl) (fun s => by kernel_rfl) K04.run (by kernel_rfl) (by kernel_rfl) (by kernel_rfl) (by rfl) (by first | assumption | decide +kernel) (by decide +kernel) ⟨rfl, rfl, rfl, rfl, rfl, by decide +kernel⟩ ?hw ?hc
  case hw => w_witness2
  case hc =>
    refine DL.walk_ofG (l := PySem.Challenge.rw_pacefold_k04_functions_compared) (n := 63) (k := 31) (x := "_law_script") (f := K04.lawF) (defs := K04.defs) (con := K04.con) (exc := K04.exc) (sub := K04.sub) (fn := K04.fn) rfl (by decide) (by kernel_rfl) ⟨rfl, by decide, by decide⟩ K04.due ?_
    intro w mg K h s fa e
    have en : (HandSHeadRun.topDef (OpenLaw.row PySem.Challenge.rw_pacefold_k04_functions_compared).prog 37).name = ("law" : PySem.Str) := by kernel_rfl
    rw [en] at e
    exact K04.lawG s fa e

