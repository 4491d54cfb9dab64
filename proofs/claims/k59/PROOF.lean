import PyProof.Rows.All
import Wide.All
import OpenK.AllK
import Wide.FinOn
import HandS.ForMost
import HandS.ForExc
import HandS.Wide
import HandS.WideBits
import HandS.Flow
import HandS.Star
import HandS.Style
import HandS.IsInst
import HandS.TupAny
import HandS.TupMul
import HandS.CallSlots
import HandS.Defaults
import HandS.CallLocal
import HandS.RevTup
import HandS.Head0
import HandS.Head1
import HandS.Head2
import HandS.HeadEnd
import HandS.HeadHook1
import HandS.HeadHook2
import HandS.Walk
import HandS.Iter
import HandS.Comp
import HandS.Lambda
import HandS.Zip
import KE.KRevSl
import KE.GoesEnum
import KE.GoesMore
import KE.GoesZip
import KE.KDictZip
import HandS.Codes
import PySem.Challenge.RW_diskdoubt_k59_whole_pages
set_option autoImplicit false
set_option Elab.async false
set_option linter.all false
set_option maxRecDepth 100000
/-! The evaluator: values, store, syntax, meaning. -/
namespace Pv
open PySem

/-- a value: tuples by their items, changeable things by their place in the store; frl: the script's list, never changed; glo: a def or class of the module -/
inductive W where
  | non | bl (b : Bool) | int (i : Int) | str (x : Str) | tup (ws : List W) | frl (ws : List W) | ref (i : Nat) | glo (g : Nat)
  deriving Inhabited

mutual
def beqW : W → W → Bool
  | .non, .non => true
  | .bl a, .bl b => a == b
  | .int i, .int j => i == j
  | .str x, .str y => decide (x = y)
  | .tup a, .tup b => beqWs a b
  | .frl a, .frl b => beqWs a b
  | .ref i, .ref j => i == j
  | .glo i, .glo j => i == j
  | _, _ => false
def beqWs : List W → List W → Bool
  | [], [] => true
  | a :: r, b :: s => beqW a b && beqWs r s
  | _, _ => false
end

inductive O where
  | lst (ws : List W) | dct (kvs : List (W × W)) | ins (c : Nat) (fs : List (Nat × W))

abbrev Sto := List O
/-- a result: a value, an error of the class c with what it keeps, or none that is told of -/
inductive R (α : Type) where
  | ok (a : α) (S : Sto) | er (c : Nat) (f : Option W) (S : Sto) | no

/-- a mark by which a rewriting leaves what it marks alone -/
inductive Leave.{u} {α : Sort u} : α → Type
  | mk {a : α} : Leave a
def R.bind {α β : Type} (r : R α) (f : α → Sto → R β) (_ : Leave f := .mk) : R β := match r with
  | .ok a S => f a S
  | .er c x S => .er c x S
  | .no => .no
def R.map {α β : Type} (r : R α) (f : α → β) : R β := r.bind fun a S => .ok (f a) S
/-- by an option -/
def R.opt {α : Type} (S : Sto) : Option α → R α
  | some a => .ok a S
  | none => .no

abbrev En := List (Option W)
/-- a def's call: its number, the arguments -/
abbrev CL := Nat → List W → Sto → R W
abbrev Dn (α : Type) := CL → En → Sto → R α
inductive Fl where
  | nx (env : En) | rt (w : W) | ct (env : En)
abbrev Ds := Dn Fl

/-! ### syntax -/
inductive Bo where
  | add | sub | mul | fdiv | mod | pow
inductive Co where
  | eq | ne | lt | le | gt | ge | is | isn | inn | nin
inductive Ty where
  | int | bool | str | tuple | list | dict
inductive Bt where
  | len | tuple | list | int | abs | divmod | min2 | max2 | all | any | repr | str | sorted | sum | ord | min1 | max1 | dict | set
inductive Mt where
  | append | extend | pop | popi | remove | get1 | get2 | join | count | index | insert | split | zfill | update | values

mutual
inductive Ex where
  | var (i : Nat)
  | con (w : W)
  | tup (es : Xs)
  | lst (es : Xs)
  | dct (ps : Ps)
  | bin (op : Bo) (a b : Ex)
  | neg (a : Ex)
  | not (a : Ex)
  | and (a b : Ex)
  | or (a b : Ex)
  | ite (c a b : Ex)
  | cmp (op : Co) (a b : Ex)
  | cmp2 (op op' : Co) (a b c : Ex)
  | idx (a i : Ex)
  | slc (a lo hi : Ex)
  | rev (a : Ex)
  | call (f : Nat) (es : Xs)
  | blt (b : Bt) (es : Xs)
  | met (m : Mt) (o : Ex) (es : Xs)
  | isi (a : Ex) (t : Ty)
  | lc (vs : List Nat) (it : It) (tg : Tg) (c : Ex) (e : Ex)
inductive Xs where
  | nil | cons (e : Ex) (r : Xs) | star (e : Ex) (r : Xs)
inductive Ps where
  | nil | cons (k v : Ex) (r : Ps)
inductive It where
  | seq (e : Ex) | rng (a : Ex) | rng2 (a b : Ex) | rng3 (a b c : Ex) | enu (e : Ex) | zip (a b : Ex) | enz (a b : Ex) | itm (e : Ex)
inductive Tg where
  | nm (i : Nat) | tp (ts : Tgs) | sub (o i : Ex) | att (o : Ex) (f : Nat)
inductive Tgs where
  | nil | cons (t : Tg) (r : Tgs)
end

mutual
inductive St where
  | exp (e : Ex)
  | asg (t : Tg) (e : Ex)
  | par (ts : List Nat) (es : Xs)      -- a, b = x, y
  | aug (i : Nat) (op : Bo) (e : Ex)
  | ret (e : Ex)
  | retn
  | ite (c : Ex) (a b : Sts)
  | fr (it : It) (tg : Tg) (b : Sts)
  | whl (c : Ex) (b : Sts)
  | pas
  | cnt
  | rai (c : Nat) (es : Xs)
  | dead
inductive Sts where
  | nil | cons (s : St) (r : Sts)
end

/-! ### meaning: operations -/
def lim : Nat := 16777216
def wInts : List W → Option (List Int)
  | [] => some []
  | .int i :: r => (wInts r).map (i :: ·)
  | _ => none
def dpAll (f : W → Option PyData) : List W → Option (List PyData)
  | [] => some []
  | w :: r => match f w, dpAll f r with
    | some d, some ds => some (d :: ds)
    | _, _ => none
/-- a value as data, read off the store -/
def dpW : Nat → Sto → W → Option PyData
  | 0, _, _ => none
  | n + 1, S, w => match w with
    | .non => some .none
    | .bl b => some (.bool b)
    | .int i => some (.int i)
    | .str x => some (.str x)
    | .tup ws => (dpAll (dpW n S) ws).map .tuple
    | .frl ws => (dpAll (dpW n S) ws).map .list
    | .ref r => match S[r]? with
      | some (.lst ws) => (dpAll (dpW n S) ws).map .list
      | _ => none
    | .glo _ => none
def eqW (S : Sto) (x y : W) : Option Bool := match dpW 66 S x, dpW 66 S y with
  | some d, some e => if SeqAt.shaped d && SeqAt.shaped e then some (PyData.eqv d e) else none
  | _, _ => none
def flatW : W → Bool
  | .non | .bl _ | .int _ | .str _ => true
  | _ => false
def truW (S : Sto) : W → Option Bool
  | .non => some false
  | .bl b => some b
  | .int i => some (i != 0)
  | .str x => if x.length ≤ lim then some ((x.length : Int) != 0) else none
  | .tup ws => some (!ws.isEmpty)
  | .frl ws => some (!ws.isEmpty)
  | .ref r => match S[r]? with
    | some (.lst ws) => some (!ws.isEmpty)
    | some (.dct kvs) => some (!kvs.isEmpty)
    | _ => none
  | .glo _ => none
def rep (k : Nat) (ws : List W) : List W := (List.replicate k ws).flatten
/-- a new thing -/
def new (S : Sto) (o : O) : R W := .ok (.ref S.length) (S ++ [o])

def binW (op : Bo) (x y : W) (S : Sto) : R W := match op with
  | .add => (match x, y with
    | .int i, .int j => .ok (.int (i + j)) S
    | .str a, .str b => if a.length + b.length ≤ lim then .ok (.str (a ++ b)) S else .no
    | .tup a, .tup b => if a.length + b.length ≤ lim then .ok (.tup (a ++ b)) S else .no
    | .ref r, .ref q => (match S[r]?, S[q]? with
      | some (.lst a), some (.lst b) => if a.length + b.length ≤ lim then new S (.lst (a ++ b)) else .no
      | _, _ => .no)
    | _, _ => .no)
  | .sub => (match x, y with
    | .int i, .int j => .ok (.int (i - j)) S
    | _, _ => .no)
  | .mul => (match x, y with
    | .int i, .int j => if i.natAbs.log2 + j.natAbs.log2 < 1000000 then .ok (.int (i * j)) S else .no
    | .tup a, .int k => if a.length ≠ 0 ∧ 2 ≤ k ∧ k ≤ 1000 ∧ a.length ≤ 1000 then .ok (.tup (rep k.toNat a)) S else .no
    | .ref r, .int k => (match S[r]? with
      | some (.lst a) => if k < 1000000 ∧ -1000000 < k ∧ a.length * k.toNat ≤ lim then new S (.lst (rep k.toNat a)) else .no
      | _ => .no)
    | _, _ => .no)
  | .fdiv => (match x, y with
    | .int i, .int j => if 0 < j ∧ j.natAbs.log2 < 9000 then .ok (.int (i / j)) S else .no
    | _, _ => .no)
  | .mod => (match x, y with
    | .int i, .int j => if 0 < j then .ok (.int (i % j)) S else .no
    | _, _ => .no)
  | .pow => (match x, y with
    | .int i, .int j => if 0 ≤ j ∧ (i.natAbs.log2 + 1) * j.toNat ≤ 1000000 then .ok (.int (i ^ j.toNat)) S else .no
    | _, _ => .no)
def negW (x : W) (S : Sto) : R W := match x with
  | .int i => .ok (.int (-i)) S
  | _ => .no
def seqW (S : Sto) : W → Option (List W)
  | .tup ws => some ws
  | .frl ws => some ws
  | .ref r => match S[r]? with
    | some (.lst ws) => some ws
    | _ => none
  | _ => none
def isNonW : W → Bool
  | .non => true
  | _ => false
def eqFlat : W → W → Bool
  | .non, .non => true
  | .bl a, .bl b => a == b
  | .bl a, .int j => (if a then 1 else 0) == j
  | .int i, .bl b => i == (if b then 1 else 0)
  | .int i, .int j => i == j
  | .str x, .str y => decide (x = y)
  | _, _ => false
def cmpW (op : Co) (x y : W) (S : Sto) : R Bool := match op with
  | .eq => .opt S (eqW S x y)
  | .ne => .opt S ((eqW S x y).map (!·))
  | .lt => (match x, y with
    | .int i, .int j => .ok (decide (i < j)) S
    | .tup a, .tup b => (match wInts a, wInts b with
      | some m, some n => .ok (HT.lexLt m n) S
      | _, _ => .no)
    | _, _ => .no)
  | .le => (match x, y with
    | .int i, .int j => .ok (decide (i ≤ j)) S
    | _, _ => .no)
  | .gt => (match x, y with
    | .int i, .int j => .ok (decide (j < i)) S
    | _, _ => .no)
  | .ge => (match x, y with
    | .int i, .int j => .ok (decide (j ≤ i)) S
    | _, _ => .no)
  | .is => (match y with
    | .non => .ok (isNonW x) S
    | .bl b => (match x with
      | .bl c => .ok (b == c) S
      | _ => .no)
    | _ => .no)
  | .isn => (match y with
    | .non => .ok (!isNonW x) S
    | .bl b => (match x with
      | .bl c => .ok (!(b == c)) S
      | _ => .no)
    | _ => .no)
  | .inn => (match seqW S y with
    | some ws => if flatW x && ws.all flatW then .ok (ws.any fun z => eqFlat z x) S else .no
    | none => .no)
  | .nin => (match seqW S y with
    | some ws => if flatW x && ws.all flatW then .ok (!(ws.any fun z => eqFlat z x)) S else .no
    | none => .no)
def idxW (x i : W) (S : Sto) : R W := match i with
  | .int k => (match seqW S x with
    | some ws => .opt S (L2.atI ws k)
    | none => .no)
  | _ => .no
def partW : W → Option Int
  | .int i => some i
  | _ => none
def cutW (ws : List W) (lo hi : Option Int) : List W := (ws.drop (HT.sIx ws.length 0 lo)).take (HT.sIx ws.length ws.length hi - HT.sIx ws.length 0 lo)
def slcV (x : W) (l h : Option Int) (S : Sto) : R W := match x with
  | .tup ws => .ok (.tup (cutW ws l h)) S
  | .ref r => (match S[r]? with
    | some (.lst ws) => new S (.lst (cutW ws l h))
    | _ => .no)
  | _ => .no
def revW (x : W) (S : Sto) : R W := match x with
  | .tup ws => .ok (.tup ws.reverse) S
  | .ref r => (match S[r]? with
    | some (.lst ws) => new S (.lst ws.reverse)
    | _ => .no)
  | _ => .no
def lenW (S : Sto) : W → Option Nat
  | .str x => if x.length ≤ lim then some x.length else none
  | .tup ws => some ws.length
  | .frl ws => some ws.length
  | .ref r => match S[r]? with
    | some (.lst ws) => some ws.length
    | some (.dct kvs) => some kvs.length
    | _ => none
  | _ => none
def wBools : List W → Option (List Bool)
  | [] => some []
  | .bl b :: r => (wBools r).map (b :: ·)
  | _ => none
def bltW (b : Bt) (vs : List W) (S : Sto) : R W := match b, vs with
  | .len, [x] => (match lenW S x with
    | some n => .ok (.int n) S
    | none => .no)
  | .tuple, [x] => (match seqW S x with
    | some ws => .ok (.tup ws) S
    | none => .no)
  | .list, [x] => (match seqW S x with
    | some ws => new S (.lst ws)
    | none => .no)
  | .int, [x] => (match x with
    | .int i => .ok (.int i) S
    | .bl k => .ok (.int (if k then 1 else 0)) S
    | _ => .no)
  | .abs, [x] => (match x with
    | .int i => .ok (.int (if i < 0 then -i else i)) S
    | _ => .no)
  | .divmod, [x, y] => (match x, y with
    | .int i, .int j => if 0 < j ∧ j.natAbs.log2 < 9000 then .ok (.tup [.int (i / j), .int (i % j)]) S else .no
    | _, _ => .no)
  | .min2, [x, y] => (match x, y with
    | .int i, .int j => .ok (.int (if j < i then j else i)) S
    | _, _ => .no)
  | .max2, [x, y] => (match x, y with
    | .int i, .int j => .ok (.int (if j > i then j else i)) S
    | _, _ => .no)
  | .all, [x] => (match x with
    | .ref r => (match S[r]? with
      | some (.lst ws) => (match wBools ws with
        | some bs => .ok (.bl (bs.all id)) S
        | none => .no)
      | _ => .no)
    | _ => .no)
  | .any, [x] => (match x with
    | .ref r => (match S[r]? with
      | some (.lst ws) => (match wBools ws with
        | some bs => .ok (.bl (bs.any id)) S
        | none => .no)
      | _ => .no)
    | _ => .no)
  | _, _ => .no
def metW (m : Mt) (o : W) (vs : List W) (S : Sto) : R W := match m, o, vs with
  | .append, .ref r, [x] => (match S[r]? with
    | some (.lst ws) => if ws.length < lim then .ok .non (S.set r (.lst (ws ++ [x]))) else .no
    | _ => .no)
  | .extend, .ref r, [.ref q] => (match S[r]?, S[q]? with
    | some (.lst ws), some (.lst zs) => if ws.length + zs.length ≤ lim then .ok .non (S.set r (.lst (ws ++ zs))) else .no
    | _, _ => .no)
  | _, _, _ => .no
/-- kinds: 0 None, 1 a bool, 2 an int, 3 a text, 4 a tuple, 5 a list, 6 a dict -/
def tyHas : Ty → Nat → Bool
  | .int, k => k == 1 || k == 2
  | .bool, k => k == 1
  | .str, k => k == 3
  | .tuple, k => k == 4
  | .list, k => k == 5
  | .dict, k => k == 6
def kindW (S : Sto) : W → Option Nat
  | .non => some 0
  | .bl _ => some 1
  | .int _ => some 2
  | .str _ => some 3
  | .tup _ => some 4
  | .frl _ => none
  | .ref r => match S[r]? with
    | some (.lst _) => some 5
    | some (.dct _) => some 6
    | _ => none
  | .glo _ => none
def isW (S : Sto) (t : Ty) (x : W) : Option Bool := (kindW S x).map (tyHas t)

/-! ### meaning: what is walked -/
structure Its where
  chk : List (Nat × List W)
  items : List W
def chkOk (chk : List (Nat × List W)) (S : Sto) : Bool := chk.all fun p => match S[p.1]? with
  | some (.lst ws) => beqWs ws p.2
  | _ => false
def seqI (S : Sto) : W → Option Its
  | .tup ws => some ⟨[], ws⟩
  | .frl ws => some ⟨[], ws⟩
  | .ref r => match S[r]? with
    | some (.lst ws) => some ⟨[(r, ws)], ws⟩
    | _ => none
  | _ => none
def rngW (lo : Int) (c : Int) : Nat → List W
  | 0 => []
  | n + 1 => .int lo :: rngW (lo + c) c n
def okB (i : Int) : Bool := decide (-(2 ^ 60) ≤ i) && decide (i < 2 ^ 60)
def enuW : Nat → List W → List W
  | _, [] => []
  | i, w :: r => .tup [.int i, w] :: enuW (i + 1) r
def zipW : List W → List W → List W
  | a :: r, b :: s => .tup [a, b] :: zipW r s
  | _, _ => []
def rngI (lo hi : W) : Option Its := match lo, hi with
  | .int i, .int j => if okB i && okB j then some ⟨[], rngW i 1 (j - i).toNat⟩ else none
  | _, _ => none

/-! ### meaning: expressions -/
def dSeq2 {α β γ : Type} (a : Dn α) (b : Dn β) (f : α → β → Sto → R γ) : Dn γ := fun cl env S => (a cl env S).bind fun x S1 => (b cl env S1).bind fun y S2 => f x y S2
def dVar (i : Nat) : Dn W := fun _ env S => match env[i]? with
  | some (some w) => .ok w S
  | _ => .no
def dCon (w : W) : Dn W := fun _ _ S => .ok w S
def dNil : Dn (List W) := fun _ _ S => .ok [] S
def dCons (a : Dn W) (r : Dn (List W)) : Dn (List W) := dSeq2 a r fun x xs S => .ok (x :: xs) S
def dStar (a : Dn W) (r : Dn (List W)) : Dn (List W) := fun cl env S => (a cl env S).bind fun x S1 => match seqW S1 x with
  | some ws => (r cl env S1).bind fun xs S2 => .ok (ws ++ xs) S2
  | none => .no
def dTup (a : Dn (List W)) : Dn W := fun cl env S => (a cl env S).bind fun ws S1 => if ws.length ≤ lim then .ok (.tup ws) S1 else .no
def dLst (a : Dn (List W)) : Dn W := fun cl env S => (a cl env S).bind fun ws S1 => if ws.length ≤ lim then new S1 (.lst ws) else .no
def dDct0 : Dn W := fun _ _ S => new S (.dct [])
def dBin (op : Bo) (a b : Dn W) : Dn W := dSeq2 a b (binW op)
def dNeg (a : Dn W) : Dn W := fun cl env S => (a cl env S).bind negW
def dTru (a : Dn W) : Dn Bool := fun cl env S => (a cl env S).bind fun x S1 => .opt S1 (truW S1 x)
def dIf {α : Type} (c : Dn Bool) (a b : Dn α) : Dn α := fun cl env S => (c cl env S).bind fun k S1 => if k then a cl env S1 else b cl env S1
def dNotT (c : Dn Bool) : Dn Bool := fun cl env S => (c cl env S).bind fun k S1 => .ok (!k) S1
def dBl (c : Dn Bool) : Dn W := fun cl env S => (c cl env S).bind fun k S1 => .ok (.bl k) S1
def dBool (b : Bool) : Dn Bool := fun _ _ S => .ok b S
def dAnd (a b : Dn W) : Dn W := fun cl env S => (a cl env S).bind fun x S1 => match truW S1 x with
  | some true => b cl env S1
  | some false => .ok x S1
  | none => .no
def dOr (a b : Dn W) : Dn W := fun cl env S => (a cl env S).bind fun x S1 => match truW S1 x with
  | some true => .ok x S1
  | some false => b cl env S1
  | none => .no
def dCmp (op : Co) (a b : Dn W) : Dn Bool := dSeq2 a b (cmpW op)
def dCmp2 (op op' : Co) (a b c : Dn W) : Dn Bool := fun cl env S => (a cl env S).bind fun x S1 => (b cl env S1).bind fun y S2 => (cmpW op x y S2).bind fun k S3 =>
  if k then (c cl env S3).bind fun z S4 => cmpW op' y z S4 else .ok false S3
def dIdx (a i : Dn W) : Dn W := dSeq2 a i idxW
def dNoPart : Dn (Option Int) := fun _ _ S => .ok none S
def dPart (a : Dn W) : Dn (Option Int) := fun cl env S => (a cl env S).bind fun x S1 => .opt S1 ((partW x).map some)
def dSlc (a : Dn W) (lo hi : Dn (Option Int)) : Dn W := fun cl env S => (a cl env S).bind fun x S1 => (lo cl env S1).bind fun l S2 => (hi cl env S2).bind fun h S3 => slcV x l h S3
def dRev (a : Dn W) : Dn W := fun cl env S => (a cl env S).bind revW
def dCall (f : Nat) (a : Dn (List W)) : Dn W := fun cl env S => (a cl env S).bind fun vs S1 => cl f vs S1
def dBlt (b : Bt) (a : Dn (List W)) : Dn W := fun cl env S => (a cl env S).bind fun vs S1 => bltW b vs S1
/-- the receiver's type: 0 a list, 1 a dict, 2 a text -/
def mtTy : Mt → Nat
  | .append | .extend | .pop | .popi | .remove | .count | .index | .insert => 0
  | .get1 | .get2 | .update | .values => 1
  | .join | .split | .zfill => 2
def recOk (m : Mt) (S : Sto) (x : W) : Bool := match x with
  | .ref r => (match S[r]? with
    | some (.lst _) => mtTy m == 0
    | some (.dct _) => mtTy m == 1
    | _ => false)
  | .str _ => mtTy m == 2
  | _ => false
def dMet (m : Mt) (o : Dn W) (a : Dn (List W)) : Dn W := fun cl env S => (o cl env S).bind fun x S1 => if recOk m S1 x then (a cl env S1).bind fun vs S2 => metW m x vs S2 else .no
def dIsi (a : Dn W) (t : Ty) : Dn W := fun cl env S => (a cl env S).bind fun x S1 => match isW S1 t x with
  | some b => .ok (.bl b) S1
  | none => .no
/-- the slots forgotten -/
def wipeE (env : En) : List Nat → En
  | [] => env
  | v :: vs => (wipeE env vs).set v none
abbrev At := W → CL → En → Sto → R En
def aNm (i : Nat) : At := fun w _ env S => .ok (env.set i (some w)) S
abbrev Ats := List W → CL → En → Sto → R En
def aNil : Ats := fun ws _ env S => match ws with
  | [] => .ok env S
  | _ => .no
def aCons (t : At) (r : Ats) : Ats := fun ws cl env S => match ws with
  | w :: ws => (t w cl env S).bind fun env1 S1 => r ws cl env1 S1
  | [] => .no
def aTp (n : Nat) (t : Ats) : At := fun w cl env S => match w with
  | .tup ws => if ws.length = n then t ws cl env S else .no
  | _ => .no
def tgsLen : Tgs → Nat
  | .nil => 0
  | .cons _ r => tgsLen r + 1
def aSub (o i : Dn W) : At := fun w cl env S => (o cl env S).bind fun x S1 => (i cl env S1).bind fun k S2 => match x, k with
  | .ref r, .int j => (match S2[r]? with
    | some (.lst ws) => (match L2.ixN ws.length j with
      | some m => .ok env (S2.set r (.lst (ws.set m w)))
      | none => .no)
    | _ => .no)
  | _, _ => .no
/-- a comprehension's turns -/
def lcLoop (chk : List (Nat × List W)) (tg : At) (c : Dn Bool) (e : Dn W) (cl : CL) (env : En) : List W → List W → Sto → R (List W)
  | [], acc, S => if chkOk chk S then .ok acc S else .no
  | w :: ws, acc, S => if chkOk chk S then (tg w cl env S).bind fun env1 S1 => (c cl env1 S1).bind fun k S2 =>
      if k then (e cl env1 S2).bind fun y S3 => if acc.length < lim then lcLoop chk tg c e cl env ws (acc ++ [y]) S3 else .no
      else lcLoop chk tg c e cl env ws acc S2
    else .no
def noErr {α : Type} : R α → R α
  | .er _ _ _ => .no
  | r => r
def dLc (vs : List Nat) (it : Dn Its) (tg : At) (c : Dn Bool) (e : Dn W) : Dn W := fun cl env S => (it cl env S).bind fun I S1 =>
  (noErr (lcLoop I.chk tg c e cl (wipeE env vs) I.items [] S1)).bind fun ws S2 => new S2 (.lst ws)
def dItSeq (a : Dn W) : Dn Its := fun cl env S => (a cl env S).bind fun x S1 => .opt S1 (seqI S1 x)
def dItRng (a : Dn W) : Dn Its := fun cl env S => (a cl env S).bind fun x S1 => .opt S1 (rngI (.int 0) x)
def dItRng2 (a b : Dn W) : Dn Its := dSeq2 a b fun x y S => .opt S (rngI x y)
def enuJ (I : Its) : Its := ⟨I.chk, enuW 0 I.items⟩
def dItEnu (a : Dn W) : Dn Its := fun cl env S => (a cl env S).bind fun x S1 => .opt S1 ((seqI S1 x).map enuJ)
def zipI (S : Sto) (x y : W) : Option Its := match seqI S x, seqI S y with
  | some I, some J => some ⟨I.chk ++ J.chk, zipW I.items J.items⟩
  | _, _ => none
def dItZip (a b : Dn W) : Dn Its := dSeq2 a b fun x y S => .opt S (zipI S x y)
def dItEnz (a b : Dn W) : Dn Its := dSeq2 a b fun x y S => .opt S ((zipI S x y).map enuJ)
def dNo {α : Type} : Dn α := fun _ _ _ => .no

/-- as a value, as a test -/
abbrev D2 := Dn W × Dn Bool
def vT (d : Dn W) : D2 := (d, dTru d)
def bT (t : Dn Bool) : D2 := (dBl t, t)
def conT (w : W) : Dn Bool := match w with
  | .bl b => dBool b
  | w => dTru (dCon w)
/-- a slice's part; None where there is none -/
def parD (e : Ex) (d : Dn W) : Dn (Option Int) := match e with
  | .con .non => dNoPart
  | _ => dPart d
mutual
def den2 : Ex → D2
  | .var i => vT (dVar i)
  | .con w => (dCon w, conT w)
  | .tup es => vT (dTup (denX es))
  | .lst es => vT (dLst (denX es))
  | .dct .nil => vT dDct0
  | .dct (.cons _ _ _) => vT dNo
  | .bin op a b => vT (dBin op (den2 a).1 (den2 b).1)
  | .neg a => vT (dNeg (den2 a).1)
  | .not a => bT (dNotT (den2 a).2)
  | .and a b => (dAnd (den2 a).1 (den2 b).1, dIf (den2 a).2 (den2 b).2 (dBool false))
  | .or a b => (dOr (den2 a).1 (den2 b).1, dIf (den2 a).2 (dBool true) (den2 b).2)
  | .ite c a b => (dIf (den2 c).2 (den2 a).1 (den2 b).1, dIf (den2 c).2 (den2 a).2 (den2 b).2)
  | .cmp op a b => bT (dCmp op (den2 a).1 (den2 b).1)
  | .cmp2 op op' a b c => bT (dCmp2 op op' (den2 a).1 (den2 b).1 (den2 c).1)
  | .idx a i => vT (dIdx (den2 a).1 (den2 i).1)
  | .slc a lo hi => vT (dSlc (den2 a).1 (parD lo (den2 lo).1) (parD hi (den2 hi).1))
  | .rev a => vT (dRev (den2 a).1)
  | .call f es => vT (dCall f (denX es))
  | .blt b es => vT (dBlt b (denX es))
  | .met m o es => vT (dMet m (den2 o).1 (denX es))
  | .isi a t => vT (dIsi (den2 a).1 t)
  | .lc vs it tg c e => vT (dLc vs (denI it) (denG tg) (den2 c).2 (den2 e).1)
def denX : Xs → Dn (List W)
  | .nil => dNil
  | .cons e r => dCons (den2 e).1 (denX r)
  | .star e r => dStar (den2 e).1 (denX r)
def denI : It → Dn Its
  | .seq e => dItSeq (den2 e).1
  | .rng a => dItRng (den2 a).1
  | .rng2 a b => dItRng2 (den2 a).1 (den2 b).1
  | .rng3 _ _ _ => dNo
  | .enu e => dItEnu (den2 e).1
  | .zip a b => dItZip (den2 a).1 (den2 b).1
  | .enz a b => dItEnz (den2 a).1 (den2 b).1
  | .itm _ => dNo
def denG : Tg → At
  | .nm i => aNm i
  | .tp ts => aTp (tgsLen ts) (denGs ts)
  | .sub o i => aSub (den2 o).1 (den2 i).1
  | .att _ _ => fun _ _ _ _ => .no
def denGs : Tgs → Ats
  | .nil => aNil
  | .cons t r => aCons (denG t) (denGs r)
end
abbrev denE (e : Ex) : Dn W := (den2 e).1
abbrev denT (e : Ex) : Dn Bool := (den2 e).2

/-! ### meaning: statements -/
def sExp (a : Dn W) : Ds := fun cl env S => (a cl env S).bind fun _ S1 => .ok (.nx env) S1
def sAsg (t : At) (a : Dn W) : Ds := fun cl env S => (a cl env S).bind fun w S1 => (t w cl env S1).bind fun env1 S2 => .ok (.nx env1) S2
def setAll : List Nat → List W → En → Option En
  | [], [], env => some env
  | i :: is, w :: ws, env => setAll is ws (env.set i (some w))
  | _, _, _ => none
def sPar (ts : List Nat) (a : Dn (List W)) : Ds := fun cl env S => (a cl env S).bind fun ws S1 => match setAll ts ws env with
  | some env1 => .ok (.nx env1) S1
  | none => .no
def augV : Bo → W → W → Option W
  | .add, .int m, .int n => some (.int (m + n))
  | .sub, .int m, .int n => some (.int (m - n))
  | _, _, _ => none
def sAug (i : Nat) (op : Bo) (a : Dn W) : Ds := fun cl env S => match env[i]? with
  | some (some x) => (a cl env S).bind fun y S1 => match augV op x y with
    | some z => .ok (.nx (env.set i (some z))) S1
    | none => .no
  | _ => .no
def sRet (a : Dn W) : Ds := fun cl env S => (a cl env S).bind fun w S1 => .ok (.rt w) S1
def sSeq (a b : Ds) : Ds := fun cl env S => (a cl env S).bind fun f S1 => match f with
  | .nx env1 => b cl env1 S1
  | f => .ok f S1
def sNil : Ds := fun _ env S => .ok (.nx env) S
def sCnt : Ds := fun _ env S => .ok (.ct env) S
def forLoop (chk : List (Nat × List W)) (tg : At) (b : Ds) (cl : CL) : List W → En → Sto → R Fl
  | [], env, S => if chkOk chk S then .ok (.nx env) S else .no
  | w :: ws, env, S => if chkOk chk S then (tg w cl env S).bind fun env1 S1 => (b cl env1 S1).bind fun f S2 => match f with
      | .nx env2 => forLoop chk tg b cl ws env2 S2
      | .ct env2 => forLoop chk tg b cl ws env2 S2
      | .rt w => .ok (.rt w) S2
    else .no
def sFor (it : Dn Its) (tg : At) (b : Ds) : Ds := fun cl env S => (it cl env S).bind fun I S1 => forLoop I.chk tg b cl I.items env S1
def whlLoop (c : Dn Bool) (b : Ds) (cl : CL) : Nat → En → Sto → R Fl
  | 0, _, _ => .no
  | n + 1, env, S => (c cl env S).bind fun k S1 => if k then (b cl env S1).bind fun f S2 => (match f with
      | .nx env2 => whlLoop c b cl n env2 S2
      | .ct env2 => whlLoop c b cl n env2 S2
      | .rt w => .ok (.rt w) S2)
    else .ok (.nx env) S1
def sWhl (c : Dn Bool) (b : Ds) : Ds := fun cl env S => whlLoop c b cl 1000000000 env S
def sRai (c : Nat) (a : Dn (List W)) : Ds := fun cl env S => (a cl env S).bind fun ws S1 => match ws with
  | [] => .er c none S1
  | w :: _ => .er c (some w) S1
mutual
def denS : St → Ds
  | .exp e => sExp (denE e)
  | .asg t e => sAsg (denG t) (denE e)
  | .par ts es => sPar ts (denX es)
  | .aug i op e => sAug i op (denE e)
  | .ret e => sRet (denE e)
  | .retn => sRet (dCon .non)
  | .ite c a b => dIf (denT c) (denSs a) (denSs b)
  | .fr it tg b => sFor (denI it) (denG tg) (denSs b)
  | .whl c b => sWhl (denT c) (denSs b)
  | .pas => sNil
  | .cnt => sCnt
  | .rai c es => sRai c (denX es)
  | .dead => dNo
def denSs : Sts → Ds
  | .nil => sNil
  | .cons s r => sSeq (denS s) (denSs r)
end

/-! ### defs -/
structure Def where
  arity : Nat
  slots : Nat
  body : Ds
def runDef (d : Def) (cl : CL) (ws : List W) (S : Sto) : R W :=
  if ws.length = d.arity then (d.body cl (ws.map some ++ List.replicate (d.slots - d.arity) none) S).bind fun f S1 => match f with
    | .nx _ => .ok .non S1
    | .rt w => .ok w S1
    | .ct _ => .no
  else .no
def callF (D : Nat → Option Def) : Nat → CL
  | 0 => fun _ _ _ => .no
  | n + 1 => fun f ws S => match D f with
    | some d => runDef d (callF D n) ws S
    | none => .no
end Pv
set_option autoImplicit false
set_option Elab.async false
set_option linter.all false
set_option maxRecDepth 100000
set_option maxHeartbeats 2000000
/-! The evaluator and the heap: what a value, a store, an environment stand for. -/
namespace Pv
open PySem PySem.Spec PyProof.Rows L2

/-- a list that is never changed: the script -/
def FrL (K : PySem.W.Frag) (H : Hp) (a : Addr) (vs : List V) : Prop :=
  (∃ o, H a = some (.frz o (.lst vs))) ∨
    ∃ (o : Obj) (its : Array Value) (n : Nat), K.lookup a = some o ∧ o.cls = .type "list" ∧ o.dict = none ∧ o.data = .seq its n ∧ its.size ≤ sizeLine ∧ Vals vs its.toList
theorem FrL.sq {K : PySem.W.Frag} {H : Hp} {a : Addr} {vs : List V} (h : FrL K H a vs) : SqL K H a vs := h.elim (fun z => .inl (.inr z)) .inr
/-- a tuple -/
def FrT (K : PySem.W.Frag) (H : Hp) (a : Addr) (vs : List V) : Prop := SqT K H a vs

mutual
inductive RW (K : PySem.W.Frag) (gad : Nat → Addr) (ρ : List Addr) (H : Hp) : W → V → Prop where
  | non : RW K gad ρ H .non .non
  | bl (b : Bool) : RW K gad ρ H (.bl b) (.bl b)
  | int (i : Int) : RW K gad ρ H (.int i) (.int i)
  | str (x : Str) : RW K gad ρ H (.str x) (.str x)
  | tup {a : Addr} {ws : List W} {vs : List V} : SqT K H a vs → RWs K gad ρ H ws vs → RW K gad ρ H (.tup ws) (.ref a)
  | frl {a : Addr} {ws : List W} {vs : List V} : FrL K H a vs → RWs K gad ρ H ws vs → RW K gad ρ H (.frl ws) (.ref a)
  | ref {a : Addr} {i : Nat} : ρ[i]? = some a → RW K gad ρ H (.ref i) (.ref a)
  | glo (g : Nat) : RW K gad ρ H (.glo g) (.ref (gad g))
inductive RWs (K : PySem.W.Frag) (gad : Nat → Addr) (ρ : List Addr) (H : Hp) : List W → List V → Prop where
  | nil : RWs K gad ρ H [] []
  | cons {w : W} {v : V} {ws : List W} {vs : List V} : RW K gad ρ H w v → RWs K gad ρ H ws vs → RWs K gad ρ H (w :: ws) (v :: vs)
end

/-- keys -/
def keyW : W → Option Key
  | .int i => some (.inl i)
  | .str x => some (.inr x)
  | _ => none
def RO (K : PySem.W.Frag) (gad : Nat → Addr) (ρ : List Addr) (H : Hp) (o : O) (a : Addr) : Prop := match o with
  | .lst ws => ∃ vs, H a = some (.lst vs) ∧ RWs K gad ρ H ws vs
  | .dct kvs => ∃ kv : List (Key × V), H a = some (.dK kv) ∧ kvs.length = kv.length ∧ ∀ (i : Nat) (p : W × W), kvs[i]? = some p → ∃ k v, kv[i]? = some (k, v) ∧ keyW p.1 = some k ∧ RW K gad ρ H p.2 v
  | .ins _ _ => False
structure SR (K : PySem.W.Frag) (gad : Nat → Addr) (ρ : List Addr) (S : Sto) (H : Hp) : Prop where
  len : ρ.length = S.length
  nd : ρ.Nodup
  at_ : ∀ (i : Nat) (o : O), S[i]? = some o → ∃ a, ρ[i]? = some a ∧ RO K gad ρ H o a
/-- what comes behind: more things of the store, all else as it was -/
structure Ext (ρ : List Addr) (H : Hp) (ρ' : List Addr) (H' : Hp) : Prop where
  ap : ∃ more, ρ' = ρ ++ more ∧ ∀ a ∈ more, H a = none
  fr : ∀ a o, H a = some o → a ∉ ρ → H' a = some o
  dom : ∀ a o, H a = some o → ∃ o', H' a = some o'
theorem Ext.refl (ρ : List Addr) (H : Hp) : Ext ρ H ρ H := ⟨⟨[], by simp, by simp⟩, fun _ _ h _ => h, fun _ o h => ⟨o, h⟩⟩
theorem Ext.trans {ρ ρ1 ρ2 : List Addr} {H H1 H2 : Hp} (a : Ext ρ H ρ1 H1) (b : Ext ρ1 H1 ρ2 H2) : Ext ρ H ρ2 H2 := by
  obtain ⟨m1, e1, n1⟩ := a.ap
  obtain ⟨m2, e2, n2⟩ := b.ap
  refine ⟨⟨m1 ++ m2, by rw [e2, e1, List.append_assoc], fun x hx => ?_⟩, fun x o h hn => ?_, fun x o h => ?_⟩
  · rcases List.mem_append.mp hx with h | h
    · exact n1 x h
    · have z := n2 x h
      cases q : H x with
      | none => rfl
      | some o =>
        obtain ⟨o', e⟩ := a.dom x o q
        rw [e] at z; cases z
  · refine b.fr x o (a.fr x o h hn) fun hx => ?_
    rw [e1] at hx
    rcases List.mem_append.mp hx with q | q
    · exact hn q
    · rw [n1 x q] at h; cases h
  · obtain ⟨o1, h1⟩ := a.dom x o h
    exact b.dom x o1 h1
theorem Ext.get {ρ ρ' : List Addr} {H H' : Hp} (x : Ext ρ H ρ' H') {i : Nat} {a : Addr} (h : ρ[i]? = some a) : ρ'[i]? = some a := by
  obtain ⟨m, e, _⟩ := x.ap
  rw [e, List.getElem?_append_left (List.getElem?_eq_some_iff.mp h).1]
  exact h
section
variable {K : PySem.W.Frag} {gad : Nat → Addr} {ρ ρ' ρ1 : List Addr} {H H' H1 : Hp} {S S' : Sto} {a : Addr} {vs : List V}
/-- the store's things are none of these -/
theorem SR.notIn (s : SR K gad ρ S H) {o : HO} (h : H a = some o) (hn : (∀ xs, o ≠ .lst xs) ∧ ∀ kv, o ≠ .dK kv) : a ∉ ρ := fun hm => by
  obtain ⟨i, hi⟩ := List.mem_iff_getElem?.mp hm
  have hl : i < S.length := by
    rw [← s.len]
    exact (List.getElem?_eq_some_iff.mp hi).1
  obtain ⟨b, e, r⟩ := s.at_ i S[i] (List.getElem?_eq_getElem hl)
  rw [hi] at e; cases e
  cases q : S[i] with
  | lst ws =>
    rw [q] at r
    obtain ⟨vs, e, _⟩ := r
    rw [h] at e; cases e
    exact hn.1 _ rfl
  | dct kvs =>
    rw [q] at r
    obtain ⟨kv, e, _⟩ := r
    rw [h] at e; cases e
    exact hn.2 _ rfl
  | ins c fs =>
    rw [q] at r
    exact r
theorem sqT_ext (s : SR K gad ρ S H) (x : Ext ρ H ρ' H') (h : SqT K H a vs) : SqT K H' a vs := by
  rcases h with (h | ⟨o, h⟩) | h
  · exact .inl (.inl (x.fr _ _ h (s.notIn h ⟨fun _ z => (nomatch z), fun _ z => (nomatch z)⟩)))
  · exact .inl (.inr ⟨o, x.fr _ _ h (s.notIn h ⟨fun _ z => (nomatch z), fun _ z => (nomatch z)⟩)⟩)
  · exact .inr h
theorem frL_ext (s : SR K gad ρ S H) (x : Ext ρ H ρ' H') (h : FrL K H a vs) : FrL K H' a vs := by
  rcases h with ⟨o, h⟩ | h
  · exact .inl ⟨o, x.fr _ _ h (s.notIn h ⟨fun _ z => (nomatch z), fun _ z => (nomatch z)⟩)⟩
  · exact .inr h
mutual
theorem RW.ext (s : SR K gad ρ S H) (x : Ext ρ H ρ' H') : ∀ {w : W} {v : V}, RW K gad ρ H w v → RW K gad ρ' H' w v
  | _, _, .non => .non
  | _, _, .bl b => .bl b
  | _, _, .int i => .int i
  | _, _, .str y => .str y
  | _, _, .tup h r => .tup (sqT_ext s x h) (RWs.ext s x r)
  | _, _, .frl h r => .frl (frL_ext s x h) (RWs.ext s x r)
  | _, _, .ref h => .ref (x.get h)
  | _, _, .glo g => .glo g
theorem RWs.ext (s : SR K gad ρ S H) (x : Ext ρ H ρ' H') : ∀ {ws : List W} {vs : List V}, RWs K gad ρ H ws vs → RWs K gad ρ' H' ws vs
  | _, _, .nil => .nil
  | _, _, .cons r t => .cons (RW.ext s x r) (RWs.ext s x t)
end
theorem RWs.length : ∀ {ws : List W} {vs : List V}, RWs K gad ρ H ws vs → ws.length = vs.length
  | _, _, .nil => rfl
  | _, _, .cons _ t => congrArg (· + 1) (RWs.length t)
theorem RWs.get : ∀ {ws : List W} {vs : List V} {i : Nat} {w : W}, RWs K gad ρ H ws vs → ws[i]? = some w → ∃ v, vs[i]? = some v ∧ RW K gad ρ H w v
  | _, _, _, _, .nil, e => by simp at e
  | _, _, 0, _, .cons r _, e => by simp at e; subst e; exact ⟨_, rfl, r⟩
  | _, _, i + 1, w, .cons _ t, e => by
    obtain ⟨v, h1, h2⟩ := RWs.get (i := i) (w := w) t (by simpa using e)
    exact ⟨v, by simpa using h1, h2⟩
theorem RWs.append : ∀ {xs ys : List W} {us vs : List V}, RWs K gad ρ H xs us → RWs K gad ρ H ys vs → RWs K gad ρ H (xs ++ ys) (us ++ vs)
  | _, _, _, _, .nil, s => s
  | _, _, _, _, .cons r t, s => .cons r (RWs.append t s)
theorem RWs.take : ∀ {ws : List W} {vs : List V} (n : Nat), RWs K gad ρ H ws vs → RWs K gad ρ H (ws.take n) (vs.take n)
  | _, _, 0, _ => .nil
  | _, _, _ + 1, .nil => .nil
  | _, _, n + 1, .cons r t => .cons r (RWs.take n t)
theorem RWs.drop : ∀ {ws : List W} {vs : List V} (n : Nat), RWs K gad ρ H ws vs → RWs K gad ρ H (ws.drop n) (vs.drop n)
  | _, _, 0, r => r
  | _, _, _ + 1, .nil => .nil
  | _, _, n + 1, .cons _ t => RWs.drop n t
theorem RWs.set {w : W} {v : V} (r : RW K gad ρ H w v) : ∀ {ws : List W} {vs : List V} (i : Nat), RWs K gad ρ H ws vs → RWs K gad ρ H (ws.set i w) (vs.set i v)
  | _, _, _, .nil => .nil
  | _, _, 0, .cons _ t => .cons r t
  | _, _, i + 1, .cons q t => .cons q (RWs.set r i t)
theorem RWs.reverse : ∀ {ws : List W} {vs : List V}, RWs K gad ρ H ws vs → RWs K gad ρ H ws.reverse vs.reverse
  | _, _, .nil => .nil
  | _, _, .cons r t => by
    rw [List.reverse_cons, List.reverse_cons]
    exact (RWs.reverse t).append (.cons r .nil)
theorem RWs.rep {ws : List W} {vs : List V} (h : RWs K gad ρ H ws vs) : ∀ k : Nat, RWs K gad ρ H (rep k ws) (List.replicate k vs).flatten
  | 0 => .nil
  | k + 1 => by
    unfold Pv.rep
    rw [List.replicate_succ, List.replicate_succ, List.flatten_cons, List.flatten_cons]
    exact h.append (RWs.rep h k)
theorem rws_ints : ∀ (ns : List Int), RWs K gad ρ H (ns.map W.int) (ns.map V.int)
  | [] => .nil
  | n :: r => .cons (.int n) (rws_ints r)
theorem RO.ext (s : SR K gad ρ S H) (x : Ext ρ H ρ' H') {o : O} (r : RO K gad ρ H o a) (h : H' a = H a) : RO K gad ρ' H' o a := by
  cases o with
  | lst ws =>
    obtain ⟨vs, e, q⟩ := r
    exact ⟨vs, h.trans e, q.ext s x⟩
  | dct kvs =>
    obtain ⟨kv, e, l, q⟩ := r
    refine ⟨kv, h.trans e, l, fun i p hp => ?_⟩
    obtain ⟨k, v, a1, a2, a3⟩ := q i p hp
    exact ⟨k, v, a1, a2, a3.ext s x⟩
  | ins c fs => exact r
/-- a new thing of the store -/
theorem SR.new (s : SR K gad ρ S H) {o : O} {ho : HO} (ha : H a = none) (h : RO K gad (ρ ++ [a]) (upd H a ho) o a) : SR K gad (ρ ++ [a]) (S ++ [o]) (upd H a ho) ∧ Ext ρ H (ρ ++ [a]) (upd H a ho) := by
  have nin : ∀ b o, H b = some o → b ≠ a := fun b o e z => by rw [z, ha] at e; cases e
  have x : Ext ρ H (ρ ++ [a]) (upd H a ho) := ⟨⟨[a], rfl, fun b hb => by rw [List.mem_singleton.mp hb]; exact ha⟩, fun b o e _ => by rw [upd_ne (nin b o e)]; exact e, fun b o e => ⟨o, by rw [upd_ne (nin b o e)]; exact e⟩⟩
  have rin : ∀ {i : Nat} {b : Addr} {o : O}, S[i]? = some o → ρ[i]? = some b → RO K gad ρ H o b → b ≠ a := fun {i b o} _ _ r z => by
    subst z
    cases o with
    | lst ws => obtain ⟨_, e, _⟩ := r; rw [ha] at e; cases e
    | dct kvs => obtain ⟨_, e, _⟩ := r; rw [ha] at e; cases e
    | ins c fs => exact r
  have an : a ∉ ρ := fun hm => by
    obtain ⟨i, hi⟩ := List.mem_iff_getElem?.mp hm
    have hl : i < S.length := by
      rw [← s.len]
      exact (List.getElem?_eq_some_iff.mp hi).1
    obtain ⟨b, e, r⟩ := s.at_ i S[i] (List.getElem?_eq_getElem hl)
    rw [hi] at e; cases e
    exact rin (List.getElem?_eq_getElem hl) hi r rfl
  refine ⟨⟨by rw [List.length_append, List.length_append, s.len, List.length_singleton, List.length_singleton], ?_, fun i o' e => ?_⟩, x⟩
  · rw [List.nodup_append]
    exact ⟨s.nd, by simp, fun b hb c hc => by rw [List.mem_singleton.mp hc]; exact fun z => an (z ▸ hb)⟩
  · by_cases hi : i < S.length
    · rw [List.getElem?_append_left hi] at e
      obtain ⟨b, e1, r⟩ := s.at_ i o' e
      exact ⟨b, x.get e1, r.ext s x (by rw [upd_ne (rin e e1 r)])⟩
    · have hi2 : i = S.length := by
        have := (List.getElem?_eq_some_iff.mp e).1
        rw [List.length_append, List.length_singleton] at this
        omega
      subst hi2
      rw [List.getElem?_append_right (Nat.le_refl _), Nat.sub_self] at e
      have e' : o = o' := Option.some.inj e
      subst e'
      exact ⟨a, by rw [← s.len, List.getElem?_append_right (Nat.le_refl _), Nat.sub_self]; rfl, h⟩
/-- a thing that the store does not know -/
theorem Ext.fresh {ho : HO} (ha : H a = none) : Ext ρ H ρ (upd H a ho) := by
  have nin : ∀ b o, H b = some o → b ≠ a := fun b o e z => by rw [z, ha] at e; cases e
  exact ⟨⟨[], by simp, by simp⟩, fun b o e _ => by rw [upd_ne (nin b o e)]; exact e, fun b o e => ⟨o, by rw [upd_ne (nin b o e)]; exact e⟩⟩
theorem SR.kept (s : SR K gad ρ S H) (x : Ext ρ H ρ H') (h : ∀ a ∈ ρ, H' a = H a) : SR K gad ρ S H' := ⟨s.len, s.nd, fun i o e => by
  obtain ⟨b, e1, r⟩ := s.at_ i o e
  exact ⟨b, e1, r.ext s x (h b (List.mem_of_getElem? e1))⟩⟩
theorem SR.fresh (s : SR K gad ρ S H) {ho : HO} (ha : H a = none) : SR K gad ρ S (upd H a ho) ∧ Ext ρ H ρ (upd H a ho) := by
  have x : Ext ρ H ρ (upd H a ho) := .fresh ha
  refine ⟨s.kept x fun b hb => ?_, x⟩
  obtain ⟨i, hi⟩ := List.mem_iff_getElem?.mp hb
  have hl : i < S.length := by
    rw [← s.len]
    exact (List.getElem?_eq_some_iff.mp hi).1
  obtain ⟨c, e, r⟩ := s.at_ i S[i] (List.getElem?_eq_getElem hl)
  rw [hi] at e; cases e
  refine upd_ne fun z => ?_
  rw [z] at r
  cases q : S[i] with
  | lst ws => rw [q] at r; obtain ⟨_, e, _⟩ := r; rw [ha] at e; cases e
  | dct kvs => rw [q] at r; obtain ⟨_, e, _⟩ := r; rw [ha] at e; cases e
  | ins c fs => rw [q] at r; exact r
/-- a thing of the store is changed -/
theorem SR.write (s : SR K gad ρ S H) {i : Nat} {o : O} {ho : HO} (hi : ρ[i]? = some a) (h : Ext ρ H ρ (upd H a ho) → RO K gad ρ (upd H a ho) o a) : SR K gad ρ (S.set i o) (upd H a ho) ∧ Ext ρ H ρ (upd H a ho) := by
  have x : Ext ρ H ρ (upd H a ho) := ⟨⟨[], by simp, by simp⟩, fun b q e hn => by rw [upd_ne fun z => hn (by rw [z]; exact List.mem_of_getElem? hi)]; exact e, fun b q e => by
    by_cases z : b = a
    · exact ⟨ho, by rw [z, upd_same]⟩
    · exact ⟨q, by rw [upd_ne z]; exact e⟩⟩
  refine ⟨⟨by rw [List.length_set, s.len], s.nd, fun j o' e => ?_⟩, x⟩
  by_cases hj : j = i
  · subst hj
    have hl : j < S.length := by
      rw [← s.len]
      exact (List.getElem?_eq_some_iff.mp hi).1
    rw [List.getElem?_set_self hl] at e
    have e' : o = o' := Option.some.inj e
    subst e'
    exact ⟨a, hi, h x⟩
  · rw [List.getElem?_set_ne (Ne.symm hj)] at e
    obtain ⟨b, e1, r⟩ := s.at_ j o' e
    refine ⟨b, e1, r.ext s x (upd_ne fun z => hj ?_)⟩
    subst z
    obtain ⟨h1, e2⟩ := List.getElem?_eq_some_iff.mp e1
    obtain ⟨h2, e3⟩ := List.getElem?_eq_some_iff.mp hi
    exact (List.getElem_inj s.nd).mp (e2.trans e3.symm)
/-- the list at a place of the store -/
theorem SR.lst (s : SR K gad ρ S H) {i : Nat} {ws : List W} (h : S[i]? = some (.lst ws)) : ∃ a vs, ρ[i]? = some a ∧ H a = some (.lst vs) ∧ RWs K gad ρ H ws vs := by
  obtain ⟨a, e, vs, e1, r⟩ := s.at_ i _ h
  exact ⟨a, vs, e, e1, r⟩
end

/-! ### environments -/
structure ER (K : PySem.W.Frag) (gad : Nat → Addr) (ρ : List Addr) (H : Hp) (env : En) (σ : L2.St) : Prop where
  len : env.length = σ.length
  at_ : ∀ (i : Nat) (w : W), env[i]? = some (some w) → ∃ v, σ[i]? = some (some v) ∧ RW K gad ρ H w v
section
variable {K : PySem.W.Frag} {gad : Nat → Addr} {ρ ρ' : List Addr} {H H' : Hp} {S : Sto} {env : En} {σ : L2.St}
theorem ER.ext (e : ER K gad ρ H env σ) (s : SR K gad ρ S H) (x : Ext ρ H ρ' H') : ER K gad ρ' H' env σ := ⟨e.len, fun i w h => by
  obtain ⟨v, h1, h2⟩ := e.at_ i w h
  exact ⟨v, h1, h2.ext s x⟩⟩
theorem ER.set (e : ER K gad ρ H env σ) {w : W} {v : V} (r : RW K gad ρ H w v) (i : Nat) : ER K gad ρ H (env.set i (some w)) (σ.set i (some v)) := by
  refine ⟨by rw [List.length_set, List.length_set, e.len], fun j u h => ?_⟩
  by_cases hj : j = i
  · subst hj
    have hl : j < env.length := by
      have := (List.getElem?_eq_some_iff.mp h).1
      rw [List.length_set] at this
      exact this
    rw [List.getElem?_set_self hl] at h
    have h' : w = u := Option.some.inj (Option.some.inj h)
    subst h'
    exact ⟨v, List.getElem?_set_self (by rw [← e.len]; exact hl), r⟩
  · rw [List.getElem?_set_ne (Ne.symm hj)] at h
    obtain ⟨v', h1, h2⟩ := e.at_ j u h
    exact ⟨v', by rw [List.getElem?_set_ne (Ne.symm hj)]; exact h1, h2⟩
theorem ER.setN (e : ER K gad ρ H env σ) (i : Nat) : ER K gad ρ H (env.set i none) (σ.set i none) := by
  refine ⟨by rw [List.length_set, List.length_set, e.len], fun j u h => ?_⟩
  by_cases hj : j = i
  · subst hj
    have hl : j < env.length := by
      have := (List.getElem?_eq_some_iff.mp h).1
      rw [List.length_set] at this
      exact this
    rw [List.getElem?_set_self hl] at h
    cases h
  · rw [List.getElem?_set_ne (Ne.symm hj)] at h
    obtain ⟨v', h1, h2⟩ := e.at_ j u h
    exact ⟨v', by rw [List.getElem?_set_ne (Ne.symm hj)]; exact h1, h2⟩
theorem ER.wipe (e : ER K gad ρ H env σ) : ∀ vs : List Nat, ER K gad ρ H (wipeE env vs) (wipe σ vs)
  | [] => e
  | v :: vs => (ER.wipe e vs).setN v
end

/-! ### results -/
/-- an error as the heap has it -/
def RErr (K : PySem.W.Frag) (gad cad : Nat → Addr) (fnm : Nat → Str) (ρ : List Addr) (H : Hp) (c : Nat) (f : Option W) (cls : Value) (d : Option Addr) : Prop :=
  cls = .ref (cad c) ∧ match f with
    | none => True
    | some w => ∃ dd v, d = some dd ∧ H dd = some (.xd [(fnm c, v)]) ∧ RW K gad ρ H w v
/-- what is fixed: where the defs and the classes stand, what an error's field is called, what a def's call comes to -/
structure Gp where
  gad : Nat → Addr
  cad : Nat → Addr
  fnm : Nat → Str
  cl : CL
def Fin {α β : Type} (K : PySem.W.Frag) (G : Gp) (rel : List Addr → Hp → α → β → Prop) (ρ : List Addr) (H : Hp) (r : R α) (Q : β → Hp → Prop) (E : XK) : Prop := match r with
  | .ok a S' => ∀ ρ' H' b, Ext ρ H ρ' H' → SR K G.gad ρ' S' H' → rel ρ' H' a b → Q b H'
  | .er c f S' => ∀ ρ' H' cls d, Ext ρ H ρ' H' → SR K G.gad ρ' S' H' → RErr K G.gad G.cad G.fnm ρ' H' c f cls d → E cls d H'
  | .no => False
section
variable {K : PySem.W.Frag} {G : Gp} {α β γ δ : Type} {rel : List Addr → Hp → α → β → Prop} {rel2 : List Addr → Hp → γ → δ → Prop} {ρ ρ' : List Addr} {H H' : Hp} {r : R α} {E : XK}
theorem Fin.ext {Q : β → Hp → Prop} (h : Fin K G rel ρ H r Q E) (x : Ext ρ H ρ' H') : Fin K G rel ρ' H' r Q E := by
  cases r with
  | ok a S' => exact fun ρ2 H2 b e s q => h ρ2 H2 b (x.trans e) s q
  | er c f S' => exact fun ρ2 H2 cls d e s q => h ρ2 H2 cls d (x.trans e) s q
  | no => exact h
theorem Fin.bind {f : α → Sto → R γ} {Q : δ → Hp → Prop} {Q1 : β → Hp → Prop} (h : Fin K G rel2 ρ H (r.bind f) Q E)
    (k : ∀ a S' ρ' H' b, r = .ok a S' → Ext ρ H ρ' H' → SR K G.gad ρ' S' H' → rel ρ' H' a b → Fin K G rel2 ρ' H' (f a S') Q E → Q1 b H') : Fin K G rel ρ H r Q1 E := by
  cases r with
  | ok a S' => exact fun ρ2 H2 b e s q => k a S' ρ2 H2 b rfl e s q (Fin.ext (r := f a S') h e)
  | er c g S' => exact h
  | no => exact h
theorem Fin.ok {Q : β → Hp → Prop} {a : α} {S : Sto} {b : β} (h : Fin K G rel ρ H (.ok a S) Q E) (s : SR K G.gad ρ S H) (q : rel ρ H a b) : Q b H := h ρ H b (.refl ρ H) s q
theorem Fin.opt {Q : β → Hp → Prop} {o : Option α} {S : Sto} (h : Fin K G rel ρ H (.opt S o) Q E) : ∃ a, o = some a ∧ Fin K G rel ρ H (.ok a S) Q E := by
  cases o with
  | none => exact False.elim h
  | some a => exact ⟨a, rfl, h⟩
end

abbrev relW (K : PySem.W.Frag) (G : Gp) : List Addr → Hp → W → V → Prop := RW K G.gad
abbrev relWs (K : PySem.W.Frag) (G : Gp) : List Addr → Hp → List W → List V → Prop := RWs K G.gad
abbrev relB : List Addr → Hp → Bool → Bool → Prop := fun _ _ a b => a = b
abbrev relN (K : PySem.W.Frag) (G : Gp) : List Addr → Hp → En → L2.St → Prop := ER K G.gad
/-- the reading of a meaning -/
def tD {α β : Type} (K : PySem.W.Frag) (G : Gp) (rel : List Addr → Hp → α → β → Prop) (Wx : WX) (d : Dn α) : L2.St → Hp → (β → Hp → Prop) → Prop := fun σ H Q =>
  ∃ ρ S env, SR K G.gad ρ S H ∧ ER K G.gad ρ H env σ ∧ Fin K G rel ρ H (d G.cl env S) Q (fun cls dd H' => Wx cls dd σ H')
abbrev tE (K : PySem.W.Frag) (G : Gp) (Wx : WX) (d : Dn W) : TE := tD K G (relW K G) Wx d
abbrev tT (K : PySem.W.Frag) (G : Gp) (Wx : WX) (d : Dn Bool) : TT := tD K G relB Wx d
abbrev tA (K : PySem.W.Frag) (G : Gp) (Wx : WX) (d : Dn (List W)) : TA := tD K G (relWs K G) Wx d
end Pv
set_option autoImplicit false
set_option Elab.async false
set_option linter.all false
set_option maxRecDepth 100000
set_option maxHeartbeats 2000000
/-! Operations on values are sound. -/
namespace Pv
open PySem PySem.Spec PyProof.Rows L2

theorem lim_eq : lim = sizeLine := by rw [sizeLine_eq]; rfl
theorem le_lim {n : Nat} (h : n ≤ lim) : n ≤ sizeLine := by rw [← lim_eq]; exact h
theorem lt_lim {n : Nat} (h : n < lim) : n < sizeLine := by rw [← lim_eq]; exact h
def opOf : Bo → Operator
  | .add => .Add
  | .sub => .Sub
  | .mul => .Mult
  | .fdiv => .FloorDiv
  | .mod => .Mod
  | .pow => .Pow
/-- the reading of an operation on values -/
def rV2 {α β : Type} (K : PySem.W.Frag) (G : Gp) (rel : List Addr → Hp → α → β → Prop) (op : W → W → Sto → R α) (v u : V) (H : Hp) (Q : β → Hp → Prop) : Prop :=
  ∃ ρ S x y E, SR K G.gad ρ S H ∧ RW K G.gad ρ H x v ∧ RW K G.gad ρ H y u ∧ Fin K G rel ρ H (op x y S) Q E
def rV1 {α β : Type} (K : PySem.W.Frag) (G : Gp) (rel : List Addr → Hp → α → β → Prop) (op : W → Sto → R α) (v : V) (H : Hp) (Q : β → Hp → Prop) : Prop :=
  ∃ ρ S x E, SR K G.gad ρ S H ∧ RW K G.gad ρ H x v ∧ Fin K G rel ρ H (op x S) Q E
section
variable {X : Cx} {G : Gp}
variable {K : PySem.W.Frag} {α β : Type} {rel : List Addr → Hp → α → β → Prop} {ρ : List Addr} {H : Hp} {S : Sto} {Q : β → Hp → Prop} {E : XK}
theorem Fin.no_ (f : Fin K G rel ρ H .no Q E) {P : Prop} : P := False.elim f
/-- a new list in the store -/
theorem Fin.newL {Q : VK} {ws : List W} {vs : List V} (f : Fin K G (relW K G) ρ H (new S (.lst ws)) Q E) (s : SR K G.gad ρ S H) (r : RWs K G.gad ρ H ws vs) {p : Addr} (hp : H p = none) : Q (.ref p) (upd H p (.lst vs)) := by
  have x : Ext ρ H (ρ ++ [p]) (upd H p (.lst vs)) := ⟨⟨[p], rfl, fun b hb => by rw [List.mem_singleton.mp hb]; exact hp⟩, fun b o e _ => by rw [upd_ne (ne_of_none e hp)]; exact e, fun b o e => ⟨o, by rw [upd_ne (ne_of_none e hp)]; exact e⟩⟩
  obtain ⟨s', x'⟩ := s.new (o := .lst ws) (ho := .lst vs) hp ⟨vs, upd_same, r.ext s x⟩
  refine f _ _ _ x' s' (.ref ?_)
  rw [← s.len, List.getElem?_append_right (Nat.le_refl _), Nat.sub_self]
  rfl
/-- a new tuple -/
theorem Fin.newT {Q : VK} {ws : List W} {vs : List V} (f : Fin K G (relW K G) ρ H (.ok (.tup ws) S) Q E) (s : SR K G.gad ρ S H) (r : RWs K G.gad ρ H ws vs) {p : Addr} (hp : H p = none) : Q (.ref p) (upd H p (.tup vs)) := by
  obtain ⟨s', x'⟩ := s.fresh (ho := .tup vs) hp
  exact f _ _ _ x' s' (.tup (.inl (.inl upd_same)) (r.ext s x'))
theorem fdiv_ok {i j : Int} (h : 0 < j ∧ j.natAbs.log2 < 9000) : CDivW i j := h
theorem natAbs_log {i : Int} {n : Nat} (h : i.natAbs.log2 < n) : i.natAbs < 2 ^ n := by
  by_cases h0 : i.natAbs = 0
  · rw [h0]; exact Nat.two_pow_pos n
  · exact (Nat.log2_lt h0).mp h

theorem op_powW : OpR X (binaryOp .Pow) (rI (fun i j => 0 ≤ j ∧ (i.natAbs.log2 + 1) * j.toNat ≤ 1000000) fun i j => .int (i ^ j.toNat)) := opI fun i j _ _ _ _ _ hc q => by
  refine pow_int hc.1 ?_ q
  have h1 : Builtin.Int.intBits i ≤ i.natAbs.log2 + 1 := by
    unfold Builtin.Int.intBits
    split <;> omega
  have h2 : (Builtin.Int.intBits i) * j.toNat ≤ 1000000 := Nat.le_trans (Nat.mul_le_mul_right _ h1) hc.2
  have h3 : (j.toNat : Int) = j := Int.toNat_of_nonneg hc.1
  rw [← h3, ← Int.natCast_mul]
  omega

/-- tuple * k -/
theorem getTup {pins : List (Addr × Obj)} {σ : L2.St} {H : Hp} {s : Shared} (I : Inv X pins σ H s) {a : Addr} {vs : List V} (h : SqT X.K H a vs) : vs.length ≤ sizeLine := by
  obtain ⟨_, _, _, hz⟩ := I.tuple h
  exact hz
abbrev rBin (K : PySem.W.Frag) (G : Gp) (op : Bo) : R2 := rV2 K G (relW K G) (binW op)
theorem opBin_add : OpR X (binaryOp .Add) (rBin X.K G .add) := by
  intro pins s σ H v u v' u' Q I rv ru ⟨ρ, S, x, y, E, sr, rx, ry, f⟩
  cases rx with
  | int i =>
    cases ry with
    | int j => exact op_add pins s σ H _ _ v' u' Q I rv ru ⟨i, j, rfl, rfl, f.ok sr (.int _)⟩
    | _ => exact f.no_
  | str a =>
    cases ry with
    | str b =>
      have f' : Fin X.K G (relW X.K G) ρ H (if a.length + b.length ≤ lim then .ok (.str (a ++ b)) S else .no) Q E := f
      by_cases hl : a.length + b.length ≤ lim
      · rw [if_pos hl] at f'
        exact op_add_str pins s σ H _ _ v' u' Q I rv ru ⟨a, b, rfl, rfl, le_lim hl, f'.ok sr (.str _)⟩
      · rw [if_neg hl] at f'
        exact f'.no_
    | _ => exact f.no_
  | @tup a ws vs ha ra =>
    cases ry with
    | @tup b zs us hb rb =>
      have f' : Fin X.K G (relW X.K G) ρ H (if ws.length + zs.length ≤ lim then .ok (.tup (ws ++ zs)) S else .no) Q E := f
      by_cases hl : ws.length + zs.length ≤ lim
      · rw [if_pos hl] at f'
        refine op_catA pins s σ H _ _ v' u' Q I rv ru ⟨a, b, vs, us, rfl, rfl, ha, hb, by rw [← ra.length, ← rb.length]; exact le_lim hl, fun e => ?_, fun _ e => ?_, fun _ _ p hp => f'.newT sr (ra.append rb) hp⟩
        · subst e
          have e : ws = [] := List.length_eq_zero_iff.mp (by rw [ra.length]; rfl)
          subst e
          exact f'.ok sr (.tup hb rb)
        · subst e
          have e : zs = [] := List.length_eq_zero_iff.mp (by rw [rb.length]; rfl)
          subst e
          rw [List.append_nil] at f'
          exact f'.ok sr (.tup ha ra)
      · rw [if_neg hl] at f'
        exact f'.no_
    | _ => exact f.no_
  | @ref a i hi =>
    cases ry with
    | @ref b j hj =>
      have f' : Fin X.K G (relW X.K G) ρ H (match S[i]?, S[j]? with
        | some (.lst a), some (.lst b) => if a.length + b.length ≤ lim then new S (.lst (a ++ b)) else .no
        | _, _ => .no) Q E := f
      split at f'
      · rename_i ws zs e1 e2
        obtain ⟨a', vs, h1, h2, r1⟩ := sr.lst e1
        obtain ⟨b', us, h3, h4, r2⟩ := sr.lst e2
        rw [hi] at h1; cases h1
        rw [hj] at h3; cases h3
        by_cases hl : ws.length + zs.length ≤ lim
        · rw [if_pos hl] at f'
          exact op_cat pins s σ H _ _ v' u' Q I rv ru ⟨a, b, vs, us, rfl, rfl, h2, h4, by rw [← r1.length, ← r2.length]; exact le_lim hl, fun p hp => f'.newL sr (r1.append r2) hp⟩
        · rw [if_neg hl] at f'
          exact f'.no_
      · exact f'.no_
    | _ => exact f.no_
  | _ => exact f.no_
theorem opBin_sub : OpR X (binaryOp .Sub) (rBin X.K G .sub) := by
  intro pins s σ H v u v' u' Q I rv ru ⟨ρ, S, x, y, E, sr, rx, ry, f⟩
  cases rx with
  | int i =>
    cases ry with
    | int j => exact op_sub pins s σ H _ _ v' u' Q I rv ru ⟨i, j, rfl, rfl, f.ok sr (.int _)⟩
    | _ => exact f.no_
  | _ => exact f.no_
theorem opBin_fdiv : OpR X (binaryOp .FloorDiv) (rBin X.K G .fdiv) := by
  intro pins s σ H v u v' u' Q I rv ru ⟨ρ, S, x, y, E, sr, rx, ry, f⟩
  cases rx with
  | int i =>
    cases ry with
    | int j =>
      have f' : Fin X.K G (relW X.K G) ρ H (if 0 < j ∧ j.natAbs.log2 < 9000 then .ok (.int (i / j)) S else .no) Q E := f
      by_cases hl : 0 < j ∧ j.natAbs.log2 < 9000
      · rw [if_pos hl] at f'
        exact op_fdivW pins s σ H _ _ v' u' Q I rv ru ⟨i, j, rfl, rfl, hl, f'.ok sr (.int _)⟩
      · rw [if_neg hl] at f'
        exact f'.no_
    | _ => exact f.no_
  | _ => exact f.no_
theorem opBin_mod : OpR X (binaryOp .Mod) (rBin X.K G .mod) := by
  intro pins s σ H v u v' u' Q I rv ru ⟨ρ, S, x, y, E, sr, rx, ry, f⟩
  cases rx with
  | int i =>
    cases ry with
    | int j =>
      have f' : Fin X.K G (relW X.K G) ρ H (if 0 < j then .ok (.int (i % j)) S else .no) Q E := f
      by_cases hl : 0 < j
      · rw [if_pos hl] at f'
        exact op_mod pins s σ H _ _ v' u' Q I rv ru ⟨i, j, rfl, rfl, hl, f'.ok sr (.int _)⟩
      · rw [if_neg hl] at f'
        exact f'.no_
    | _ => exact f.no_
  | _ => exact f.no_
theorem opBin_pow : OpR X (binaryOp .Pow) (rBin X.K G .pow) := by
  intro pins s σ H v u v' u' Q I rv ru ⟨ρ, S, x, y, E, sr, rx, ry, f⟩
  cases rx with
  | int i =>
    cases ry with
    | int j =>
      have f' : Fin X.K G (relW X.K G) ρ H (if 0 ≤ j ∧ (i.natAbs.log2 + 1) * j.toNat ≤ 1000000 then .ok (.int (i ^ j.toNat)) S else .no) Q E := f
      by_cases hl : 0 ≤ j ∧ (i.natAbs.log2 + 1) * j.toNat ≤ 1000000
      · rw [if_pos hl] at f'
        exact op_powW pins s σ H _ _ v' u' Q I rv ru ⟨i, j, rfl, rfl, hl, f'.ok sr (.int _)⟩
      · rw [if_neg hl] at f'
        exact f'.no_
    | _ => exact f.no_
  | _ => exact f.no_
theorem opBin_mul : OpR X (binaryOp .Mult) (rBin X.K G .mul) := by
  intro pins s σ H v u v' u' Q I rv ru ⟨ρ, S, x, y, E, sr, rx, ry, f⟩
  cases rx with
  | int i =>
    cases ry with
    | int j =>
      have f' : Fin X.K G (relW X.K G) ρ H (if i.natAbs.log2 + j.natAbs.log2 < 1000000 then .ok (.int (i * j)) S else .no) Q E := f
      by_cases hl : i.natAbs.log2 + j.natAbs.log2 < 1000000
      · rw [if_pos hl] at f'
        exact op_mulW pins s σ H _ _ v' u' Q I rv ru ⟨i, j, rfl, rfl, hl, f'.ok sr (.int _)⟩
      · rw [if_neg hl] at f'
        exact f'.no_
    | _ => exact f.no_
  | @tup a ws vs ha ra =>
    cases ry with
    | int k =>
      have f' : Fin X.K G (relW X.K G) ρ H (if ws.length ≠ 0 ∧ 2 ≤ k ∧ k ≤ 1000 ∧ ws.length ≤ 1000 then .ok (.tup (rep k.toNat ws)) S else .no) Q E := f
      by_cases hl : ws.length ≠ 0 ∧ 2 ≤ k ∧ k ≤ 1000 ∧ ws.length ≤ 1000
      · rw [if_pos hl] at f'
        obtain ⟨h1, h2, h3, h4⟩ := hl
        exact op_repT pins s σ H _ _ v' u' Q I rv ru ⟨a, k, vs, rfl, rfl, ha, fun e => h1 (by rw [ra.length, e]; rfl), h2, h3, by rw [← ra.length]; exact h4, fun p hp => f'.newT sr (ra.rep _) hp⟩
      · rw [if_neg hl] at f'
        exact f'.no_
    | _ => exact f.no_
  | @ref a i hi =>
    cases ry with
    | int k =>
      have f' : Fin X.K G (relW X.K G) ρ H (match S[i]? with
        | some (.lst a) => if k < 1000000 ∧ -1000000 < k ∧ a.length * k.toNat ≤ lim then new S (.lst (rep k.toNat a)) else .no
        | _ => .no) Q E := f
      split at f'
      · rename_i ws e1
        obtain ⟨a', vs, h1, h2, r1⟩ := sr.lst e1
        rw [hi] at h1; cases h1
        by_cases hl : k < 1000000 ∧ -1000000 < k ∧ ws.length * k.toNat ≤ lim
        · rw [if_pos hl] at f'
          exact op_rep pins s σ H _ _ v' u' Q I rv ru ⟨a, k, vs, rfl, rfl, h2, by omega, by omega, by rw [← r1.length]; exact le_lim hl.2.2, fun p hp => f'.newL sr (r1.rep _) hp⟩
        · rw [if_neg hl] at f'
          exact f'.no_
      · exact f'.no_
    | _ => exact f.no_
  | _ => exact f.no_
theorem opBin : ∀ op : Bo, OpR X (binaryOp (opOf op)) (rBin X.K G op)
  | .add => opBin_add
  | .sub => opBin_sub
  | .mul => opBin_mul
  | .fdiv => opBin_fdiv
  | .mod => opBin_mod
  | .pow => opBin_pow
end
end Pv
set_option autoImplicit false
set_option Elab.async false
set_option linter.all false
set_option maxRecDepth 100000
set_option maxHeartbeats 2000000
/-! Comparisons, truth, subscripts, built-ins are sound. -/
namespace Pv
open PySem PySem.Spec PyProof.Rows L2
section
variable {X : Cx} {G : Gp}

/-! ### data -/
mutual
theorem dp_ok {K : PySem.W.Frag} {gad : Nat → Addr} {ρ : List Addr} {H : Hp} {S : Sto} (s : SR K gad ρ S H) : ∀ (n : Nat) (w : W) (v : V) (d : PyData), RW K gad ρ H w v → dpW n S w = some d → Dp K H v d
  | 0, _, _, _, _, h => by cases h
  | n + 1, w, v, d, r, h => by
    cases r with
    | non => cases h; exact .non
    | bl b => cases h; exact .bl b
    | int i => cases h; exact .int i
    | str x => cases h; exact .str x
    | @tup a ws vs ha ra =>
      have h' : (dpAll (dpW n S) ws).map PyData.tuple = some d := h
      obtain ⟨ds, e, e2⟩ := Option.map_eq_some_iff.mp h'
      subst e2
      exact .tup ha (dps_ok s n ws vs ds ra e)
    | @frl a ws vs ha ra =>
      have h' : (dpAll (dpW n S) ws).map PyData.list = some d := h
      obtain ⟨ds, e, e2⟩ := Option.map_eq_some_iff.mp h'
      subst e2
      exact .lst ha.sq (dps_ok s n ws vs ds ra e)
    | @ref a i hi =>
      have h' : (match S[i]? with
        | some (.lst ws) => (dpAll (dpW n S) ws).map PyData.list
        | _ => none) = some d := h
      split at h'
      · rename_i ws e1
        obtain ⟨a', vs, h1, h2, r1⟩ := s.lst e1
        rw [hi] at h1; cases h1
        obtain ⟨ds, e, e2⟩ := Option.map_eq_some_iff.mp h'
        subst e2
        exact .lst (.of h2) (dps_ok s n ws vs ds r1 e)
      · cases h'
    | glo g => cases h
theorem dps_ok {K : PySem.W.Frag} {gad : Nat → Addr} {ρ : List Addr} {H : Hp} {S : Sto} (s : SR K gad ρ S H) : ∀ (n : Nat) (ws : List W) (vs : List V) (ds : List PyData), RWs K gad ρ H ws vs → dpAll (dpW n S) ws = some ds → DpAll K H vs ds
  | n, [], vs, ds, r, h => by
    cases r
    cases h
    exact .nil
  | n, w :: ws, vs, ds, r, h => by
    cases r with
    | cons r1 r2 =>
      have h' : (match dpW n S w, dpAll (dpW n S) ws with
        | some d, some ds => some (d :: ds)
        | _, _ => none) = some ds := h
      split at h'
      · rename_i d ds' e1 e2
        cases h'
        exact .cons (dp_ok s n w _ d r1 e1) (dps_ok s n ws _ ds' r2 e2)
      · cases h'
end
abbrev relV : List Addr → Hp → Bool → V → Prop := fun _ _ k v => v = .bl k
abbrev rCmp (K : PySem.W.Frag) (G : Gp) (op : Co) : R2 := rV2 K G relV (cmpW op)
theorem wInts_ok {K : PySem.W.Frag} {gad : Nat → Addr} {ρ : List Addr} {H : Hp} : ∀ {ws : List W} {vs : List V} {ns : List Int}, RWs K gad ρ H ws vs → wInts ws = some ns → vs = ns.map V.int
  | [], _, ns, .nil, h => by cases h; rfl
  | w :: ws, _, ns, .cons r t, h => by
    cases r with
    | int i =>
      have h' : (wInts ws).map (i :: ·) = some ns := h
      obtain ⟨ms, e, e2⟩ := Option.map_eq_some_iff.mp h'
      subst e2
      rw [wInts_ok t e, List.map_cons]
    | _ => cases h
theorem eqW_ok {K : PySem.W.Frag} {gad : Nat → Addr} {ρ : List Addr} {H : Hp} {S : Sto} {x y : W} {v u : V} {k : Bool} (s : SR K gad ρ S H) (rx : RW K gad ρ H x v) (ry : RW K gad ρ H y u) (h : eqW S x y = some k) :
    ∃ d e, Dp K H v d ∧ Dp K H u e ∧ SeqAt.shaped d = true ∧ SeqAt.shaped e = true ∧ PyData.eqv d e = k := by
  unfold eqW at h
  split at h
  · rename_i d e h1 h2
    by_cases hs : (SeqAt.shaped d && SeqAt.shaped e) = true
    · rw [if_pos hs] at h
      rw [Bool.and_eq_true] at hs
      exact ⟨d, e, dp_ok s _ _ _ _ rx h1, dp_ok s _ _ _ _ ry h2, hs.1, hs.2, Option.some.inj h⟩
    · rw [if_neg hs] at h
      cases h
  · cases h
theorem flatV_ok {K : PySem.W.Frag} {gad : Nat → Addr} {ρ : List Addr} {H : Hp} {x : W} {v : V} (r : RW K gad ρ H x v) (h : flatW x = true) : flatV v = true := by
  cases r <;> first | rfl | cases h
theorem flats_ok {K : PySem.W.Frag} {gad : Nat → Addr} {ρ : List Addr} {H : Hp} : ∀ {ws : List W} {vs : List V}, RWs K gad ρ H ws vs → ws.all flatW = true → vs.all flatV = true
  | _, _, .nil, _ => rfl
  | _, _, .cons r t, h => by
    rw [List.all_cons, Bool.and_eq_true] at h ⊢
    exact ⟨flatV_ok r h.1, flats_ok t h.2⟩
theorem eqV_ok {K : PySem.W.Frag} {gad : Nat → Addr} {ρ : List Addr} {H : Hp} {x y : W} {v u : V} (rx : RW K gad ρ H x v) (ry : RW K gad ρ H y u) (hx : flatW x = true) (hy : flatW y = true) : eqV v u = eqFlat x y := by
  cases rx <;> cases ry <;> first | rfl | cases hx | cases hy
theorem any_ok {K : PySem.W.Frag} {gad : Nat → Addr} {ρ : List Addr} {H : Hp} {x : W} {v : V} (rx : RW K gad ρ H x v) (hx : flatW x = true) : ∀ {ws : List W} {vs : List V}, RWs K gad ρ H ws vs → ws.all flatW = true → inV v vs = ws.any fun z => eqFlat z x
  | _, _, .nil, _ => rfl
  | _, _, .cons r t, h => by
    rw [List.all_cons, Bool.and_eq_true] at h
    unfold inV
    rw [List.any_cons, List.any_cons, eqV_ok r rx h.1 hx]
    have ih := any_ok rx hx t h.2
    unfold inV at ih
    rw [ih]
/-- a list or a tuple that is read -/
theorem seq_ok {K : PySem.W.Frag} {gad : Nat → Addr} {ρ : List Addr} {H : Hp} {S : Sto} {x : W} {v : V} {ws : List W} (s : SR K gad ρ S H) (rx : RW K gad ρ H x v) (h : seqW S x = some ws) :
    ∃ p vs, v = .ref p ∧ (SqL K H p vs ∨ SqT K H p vs) ∧ RWs K gad ρ H ws vs := by
  cases rx with
  | @tup a zs vs ha ra => cases h; exact ⟨a, vs, rfl, .inr ha, ra⟩
  | @frl a zs vs ha ra => cases h; exact ⟨a, vs, rfl, .inl ha.sq, ra⟩
  | @ref a i hi =>
    have h' : (match S[i]? with
      | some (.lst ws) => some ws
      | _ => none) = some ws := h
    split at h'
    · rename_i zs e1
      cases h'
      obtain ⟨a', vs, h1, h2, r1⟩ := s.lst e1
      rw [hi] at h1; cases h1
      exact ⟨a, vs, rfl, .inl (.of h2), r1⟩
    · cases h'
  | _ => cases h
theorem isNon_ok {K : PySem.W.Frag} {gad : Nat → Addr} {ρ : List Addr} {H : Hp} {x : W} {v : V} (rx : RW K gad ρ H x v) : decide (v = .non) = isNonW x := by
  cases rx <;> simp [isNonW]
def coOf : Co → CmpOp
  | .eq => .Eq
  | .ne => .NotEq
  | .lt => .Lt
  | .le => .LtE
  | .gt => .Gt
  | .ge => .GtE
  | .is => .Is
  | .isn => .IsNot
  | .inn => .In
  | .nin => .NotIn
theorem opCmp (hu : X.A.units + 64 < cLine) : ∀ op : Co, OpR X (compareOp (coOf op)) (rCmp X.K G op) := by
  intro op pins s σ H v u v' u' Q I rv ru ⟨ρ, S, x, y, E, sr, rx, ry, f⟩
  cases op with
  | eq =>
    obtain ⟨k, e, f⟩ := Fin.opt (o := eqW S x y) f
    obtain ⟨d1, d2, h1, h2, h3, h4, h5⟩ := eqW_ok sr rx ry e
    exact op_eqD hu pins s σ H _ _ v' u' Q I rv ru ⟨d1, d2, h1, h2, h3, h4, by rw [h5]; exact f.ok sr rfl⟩
  | ne =>
    obtain ⟨k, e, f⟩ := Fin.opt (o := (eqW S x y).map (!·)) f
    obtain ⟨k', e', e2⟩ := Option.map_eq_some_iff.mp e
    obtain ⟨d1, d2, h1, h2, h3, h4, h5⟩ := eqW_ok sr rx ry e'
    exact op_neD hu pins s σ H _ _ v' u' Q I rv ru ⟨d1, d2, h1, h2, h3, h4, by rw [h5, e2]; exact f.ok sr rfl⟩
  | lt =>
    cases rx with
    | int i =>
      cases ry with
      | int j => exact op_lt pins s σ H _ _ v' u' Q I rv ru ⟨i, j, rfl, rfl, f.ok sr rfl⟩
      | _ => exact f.no_
    | @tup a ws vs ha ra =>
      cases ry with
      | @tup b zs us hb rb =>
        have f' : Fin X.K G relV ρ H (match wInts ws, wInts zs with
          | some m, some n => .ok (HT.lexLt m n) S
          | _, _ => .no) Q E := f
        split at f'
        · rename_i m n e1 e2
          have h1 := wInts_ok ra e1
          have h2 := wInts_ok rb e2
          subst h1 h2
          exact op_ltT (by omega) pins s σ H _ _ v' u' Q I rv ru ⟨a, b, m, n, rfl, rfl, ha, hb, f'.ok sr rfl⟩
        · exact f'.no_
      | _ => exact f.no_
    | _ => exact f.no_
  | le =>
    cases rx with
    | int i =>
      cases ry with
      | int j => exact op_le pins s σ H _ _ v' u' Q I rv ru ⟨i, j, rfl, rfl, f.ok sr rfl⟩
      | _ => exact f.no_
    | _ => exact f.no_
  | gt =>
    cases rx with
    | int i =>
      cases ry with
      | int j => exact op_gt pins s σ H _ _ v' u' Q I rv ru ⟨i, j, rfl, rfl, f.ok sr rfl⟩
      | _ => exact f.no_
    | _ => exact f.no_
  | ge =>
    cases rx with
    | int i =>
      cases ry with
      | int j => exact op_ge pins s σ H _ _ v' u' Q I rv ru ⟨i, j, rfl, rfl, f.ok sr rfl⟩
      | _ => exact f.no_
    | _ => exact f.no_
  | is =>
    cases ry with
    | non =>
      refine op_isN pins s σ H _ _ v' u' Q I rv ru ⟨rfl, ?_⟩
      rw [isNon_ok rx]
      exact Fin.ok (a := isNonW x) (S := S) f sr rfl
    | bl b =>
      cases rx with
      | bl c => exact op_isBl pins s σ H _ _ v' u' Q I rv ru ⟨c, b, rfl, rfl, by rw [show decide (c = b) = (b == c) by cases b <;> cases c <;> rfl]; exact Fin.ok (a := (b == c)) (S := S) f sr rfl⟩
      | _ => exact f.no_
    | _ => exact f.no_
  | isn =>
    cases ry with
    | non =>
      refine op_notN pins s σ H _ _ v' u' Q I rv ru ⟨rfl, ?_⟩
      rw [isNon_ok rx]
      exact Fin.ok (a := !isNonW x) (S := S) f sr rfl
    | bl b =>
      cases rx with
      | bl c => exact op_notBl pins s σ H _ _ v' u' Q I rv ru ⟨c, b, rfl, rfl, by rw [show decide (c = b) = (b == c) by cases b <;> cases c <;> rfl]; exact Fin.ok (a := !(b == c)) (S := S) f sr rfl⟩
      | _ => exact f.no_
    | _ => exact f.no_
  | inn =>
    have f' : Fin X.K G relV ρ H (match seqW S y with
      | some ws => if flatW x && ws.all flatW then .ok (ws.any fun z => eqFlat z x) S else .no
      | none => .no) Q E := f
    split at f'
    · rename_i ws e
      obtain ⟨p, vs, rfl, hq, r1⟩ := seq_ok sr ry e
      by_cases hl : (flatW x && ws.all flatW) = true
      · rw [if_pos hl] at f'
        rw [Bool.and_eq_true] at hl
        exact op_in_seq pins s σ H _ _ v' u' Q I rv ru ⟨p, vs, rfl, hq, flatV_ok rx hl.1, flats_ok r1 hl.2, by rw [if_neg Bool.false_ne_true, any_ok rx hl.1 r1 hl.2]; exact f'.ok sr rfl⟩
      · rw [if_neg hl] at f'
        exact f'.no_
    · exact f'.no_
  | nin =>
    have f' : Fin X.K G relV ρ H (match seqW S y with
      | some ws => if flatW x && ws.all flatW then .ok (!(ws.any fun z => eqFlat z x)) S else .no
      | none => .no) Q E := f
    split at f'
    · rename_i ws e
      obtain ⟨p, vs, rfl, hq, r1⟩ := seq_ok sr ry e
      by_cases hl : (flatW x && ws.all flatW) = true
      · rw [if_pos hl] at f'
        rw [Bool.and_eq_true] at hl
        exact op_notIn_seq pins s σ H _ _ v' u' Q I rv ru ⟨p, vs, rfl, hq, flatV_ok rx hl.1, flats_ok r1 hl.2, by rw [if_pos rfl, any_ok rx hl.1 r1 hl.2]; exact f'.ok sr rfl⟩
      · rw [if_neg hl] at f'
        exact f'.no_
    · exact f'.no_

/-! ### truth -/
theorem tru_of {K : PySem.W.Frag} {gad : Nat → Addr} {ρ : List Addr} {H : Hp} {S : Sto} {x : W} {v : V} {k : Bool} (s : SR K gad ρ S H) (rx : RW K gad ρ H x v) (h : truW S x = some k) : TruV K v H k := by
  cases rx with
  | non => cases h; rfl
  | bl b => cases h; rfl
  | int i => cases h; rfl
  | str z =>
    have h' : (if z.length ≤ lim then some ((z.length : Int) != 0) else none) = some k := h
    by_cases hl : z.length ≤ lim
    · rw [if_pos hl] at h'
      exact ⟨le_lim hl, (Option.some.inj h').symm⟩
    · rw [if_neg hl] at h'; cases h'
  | @tup a ws vs ha ra =>
    cases h
    refine .inr (.inl ⟨vs, ha, ?_⟩)
    cases ra <;> rfl
  | @frl a ws vs ha ra =>
    cases h
    refine .inl ⟨vs, ha.sq, ?_⟩
    cases ra <;> rfl
  | @ref a i hi =>
    have h' : (match S[i]? with
      | some (.lst ws) => some (!ws.isEmpty)
      | some (.dct kvs) => some (!kvs.isEmpty)
      | _ => none) = some k := h
    split at h'
    · rename_i ws e1
      obtain ⟨a', vs, h1, h2, r1⟩ := s.lst e1
      rw [hi] at h1; cases h1
      cases h'
      refine .inl ⟨vs, .of h2, ?_⟩
      cases r1 <;> rfl
    · rename_i kvs e1
      obtain ⟨a', h1, kv, h2, hl, _⟩ := s.at_ _ _ e1
      rw [hi] at h1; cases h1
      cases h'
      refine .inr (.inr ⟨kv, h2, ?_⟩)
      cases kvs <;> cases kv <;> first | rfl | cases hl
    · cases h'
  | glo g => cases h

/-! ### subscripts -/
theorem atI_rel {K : PySem.W.Frag} {gad : Nat → Addr} {ρ : List Addr} {H : Hp} {ws : List W} {vs : List V} {i : Int} {w : W} (r : RWs K gad ρ H ws vs) (h : atI ws i = some w) : ∃ v, atI vs i = some v ∧ RW K gad ρ H w v := by
  unfold atI at h ⊢
  rw [← r.length]
  cases e : ixN ws.length i with
  | none => rw [e] at h; cases h
  | some j =>
    rw [e] at h
    obtain ⟨v, h1, h2⟩ := r.get h
    exact ⟨v, h1, h2⟩
abbrev rIdx (K : PySem.W.Frag) (G : Gp) : R2 := rV2 K G (relW K G) idxW
theorem ixW : IxR X (rIdx X.K G) := by
  intro value slice pins s σ H v u v' u' Q I rv ru ⟨ρ, S, x, y, E, sr, rx, ry, f⟩ hsub
  cases ry with
  | int k =>
    have f' : Fin X.K G (relW X.K G) ρ H (match seqW S x with
      | some ws => .opt S (atI ws k)
      | none => .no) Q E := f
    split at f'
    · rename_i ws e
      obtain ⟨p, vs, rfl, hq, r1⟩ := seq_ok sr rx e
      obtain ⟨w, e1, f2⟩ := f'.opt
      obtain ⟨u2, e2, r2⟩ := atI_rel r1 e1
      rcases hq with hq | hq
      · exact ix_list value slice pins s σ H _ _ v' u' Q I rv ru ⟨p, vs, k, u2, rfl, rfl, hq, e2, f2.ok sr r2⟩ hsub
      · exact ix_tup value slice pins s σ H _ _ v' u' Q I rv ru ⟨p, vs, k, u2, rfl, rfl, hq, e2, f2.ok sr r2⟩ hsub
    · exact f'.no_
  | _ => exact f.no_
theorem cut_rel {K : PySem.W.Frag} {gad : Nat → Addr} {ρ : List Addr} {H : Hp} {ws : List W} {vs : List V} {lo hi : Option Int} (r : RWs K gad ρ H ws vs) : RWs K gad ρ H (cutW ws lo hi) (cutV vs lo hi) := by
  unfold cutW cutV
  rw [r.length]
  exact (r.drop _).take _
theorem slR : SlR X (fun v lo hi H Q => ∃ ρ S x E, SR X.K G.gad ρ S H ∧ RW X.K G.gad ρ H x v ∧ Fin X.K G (relW X.K G) ρ H (slcV x lo hi S) Q E) := by
  intro pins s σ H v v' vl vu lo hi sl Q I rv hs pl pu ⟨ρ, S, x, E, sr, rx, f'⟩
  cases rx with
  | @tup a ws vs ha ra =>
    have cr := cut_rel (lo := lo) (hi := hi) ra
    refine sl_tupA pins s σ H _ v' vl vu lo hi sl Q I rv hs pl pu ⟨a, vs, rfl, ha, fun ⟨h1, h2⟩ => ?_, fun _ p hp => f'.newT sr cr hp⟩
    have e : cutW ws lo hi = ws := by
      unfold cutW
      rw [ra.length, h1, h2, Nat.sub_zero, List.drop_zero, ← ra.length]
      exact List.take_length
    have f2 : Fin X.K G (relW X.K G) ρ H (.ok (.tup (cutW ws lo hi)) S) Q E := f'
    rw [e] at f2
    exact f2.ok sr (.tup ha ra)
  | @ref a i hi' =>
    have f2 : Fin X.K G (relW X.K G) ρ H (match S[i]? with
      | some (.lst ws) => new S (.lst (cutW ws lo hi))
      | _ => .no) Q E := f'
    split at f2
    · rename_i ws e1
      obtain ⟨a', vs, h1, h2, r1⟩ := sr.lst e1
      rw [hi'] at h1; cases h1
      exact sl_list pins s σ H _ v' vl vu lo hi sl Q I rv hs pl pu ⟨a, vs, rfl, .of h2, fun p hp => f2.newL sr (cut_rel r1) hp⟩
    · exact f2.no_
  | _ => exact f'.no_
end
end Pv
set_option autoImplicit false
set_option Elab.async false
set_option linter.all false
set_option maxRecDepth 100000
set_option maxHeartbeats 2000000
/-! Built-ins and methods of built-in types are sound. -/
namespace Pv
open PySem PySem.Spec PyProof.Rows L2
section
variable {X : Cx} {G : Gp}
def rList {β : Type} (K : PySem.W.Frag) (G : Gp) (op : List W → Sto → R W) (vs : List V) (H : Hp) (Q : VK) : Prop :=
  ∃ ρ S ws E, SR K G.gad ρ S H ∧ RWs K G.gad ρ H ws vs ∧ Fin K G (relW K G) ρ H (op ws S) Q E
abbrev rBlt (K : PySem.W.Frag) (G : Gp) (b : Bt) : List V → Hp → VK → Prop := rList (β := Unit) K G (bltW b)
theorem rws_one {K : PySem.W.Frag} {gad : Nat → Addr} {ρ : List Addr} {H : Hp} {x : W} {vs : List V} (r : RWs K gad ρ H [x] vs) : ∃ v, vs = [v] ∧ RW K gad ρ H x v := by
  cases r with
  | cons r1 r2 => cases r2; exact ⟨_, rfl, r1⟩
theorem rws_two {K : PySem.W.Frag} {gad : Nat → Addr} {ρ : List Addr} {H : Hp} {x y : W} {vs : List V} (r : RWs K gad ρ H [x, y] vs) : ∃ v u, vs = [v, u] ∧ RW K gad ρ H x v ∧ RW K gad ρ H y u := by
  cases r with
  | cons r1 r2 =>
    cases r2 with
    | cons r3 r4 => cases r4; exact ⟨_, _, rfl, r1, r3⟩
/-- one argument -/
theorem blt1 {b : Bt} {f : Value} (h1 : ∀ ws S, (∀ x, ws ≠ [x]) → bltW b ws S = .no)
    (h : ∀ (pins : List (Addr × Obj)) (s : Shared) (σ : L2.St) (H : Hp) (v : V) (us : List Value) (Q : VK) (ρ : List Addr) (S : Sto) (x : W) (E : XK), Inv X pins σ H s → Vals [v] us → SR X.K G.gad ρ S H → RW X.K G.gad ρ H x v → Fin X.K G (relW X.K G) ρ H (bltW b [x] S) Q E →
      wpAny (model X.prog X.w) X.A (call f us) (EP X pins σ Q) X.xe s) : CallR X f (rBlt X.K G b) := by
  intro pins s σ H vs us Q I r ⟨ρ, S, ws, E, sr, rw_, f⟩
  by_cases hx : ∃ x, ws = [x]
  · obtain ⟨x, rfl⟩ := hx
    obtain ⟨v, rfl, rx⟩ := rws_one rw_
    exact h pins s σ H v us Q ρ S x E I r sr rx f
  · rw [h1 ws S fun x e => hx ⟨x, e⟩] at f
    exact f.no_
theorem blt2 {b : Bt} {f : Value} (h1 : ∀ ws S, (∀ x y, ws ≠ [x, y]) → bltW b ws S = .no)
    (h : ∀ (pins : List (Addr × Obj)) (s : Shared) (σ : L2.St) (H : Hp) (v u : V) (us : List Value) (Q : VK) (ρ : List Addr) (S : Sto) (x y : W) (E : XK), Inv X pins σ H s → Vals [v, u] us → SR X.K G.gad ρ S H → RW X.K G.gad ρ H x v → RW X.K G.gad ρ H y u → Fin X.K G (relW X.K G) ρ H (bltW b [x, y] S) Q E →
      wpAny (model X.prog X.w) X.A (call f us) (EP X pins σ Q) X.xe s) : CallR X f (rBlt X.K G b) := by
  intro pins s σ H vs us Q I r ⟨ρ, S, ws, E, sr, rw_, f⟩
  by_cases hx : ∃ x y, ws = [x, y]
  · obtain ⟨x, y, rfl⟩ := hx
    obtain ⟨v, u, rfl, rx, ry⟩ := rws_two rw_
    exact h pins s σ H v u us Q ρ S x y E I r sr rx ry f
  · rw [h1 ws S fun x y e => hx ⟨x, y, e⟩] at f
    exact f.no_
theorem not1 {b : Bt} (h0 : ∀ S, bltW b [] S = .no) (h2 : ∀ x y r S, bltW b (x :: y :: r) S = .no) : ∀ ws S, (∀ x, ws ≠ [x]) → bltW b ws S = .no
  | [], S, _ => h0 S
  | [x], _, h => absurd rfl (h x)
  | x :: y :: r, S, _ => h2 x y r S
theorem not2 {b : Bt} (h0 : ∀ S, bltW b [] S = .no) (h1 : ∀ x S, bltW b [x] S = .no) (h2 : ∀ x y z r S, bltW b (x :: y :: z :: r) S = .no) : ∀ ws S, (∀ x y, ws ≠ [x, y]) → bltW b ws S = .no
  | [], S, _ => h0 S
  | [x], S, _ => h1 x S
  | [x, y], _, h => absurd rfl (h x y)
  | x :: y :: z :: r, S, _ => h2 x y z r S
theorem blt_len : CallR X (.builtin "len") (rBlt X.K G .len) := by
  refine blt1 (not1 (fun _ => rfl) fun _ _ _ _ => rfl) fun pins s σ H v us Q ρ S x E I r sr rx f => ?_
  have f' : Fin X.K G (relW X.K G) ρ H (match lenW S x with
    | some n => .ok (.int n) S
    | none => .no) Q E := f
  split at f'
  · rename_i n e
    have q : Q (.int n) H := f'.ok sr (.int _)
    cases rx with
    | str z =>
      have e' : (if z.length ≤ lim then some z.length else none) = some n := e
      by_cases hl : z.length ≤ lim
      · rw [if_pos hl] at e'
        exact call_len pins s σ H _ us Q I r ⟨_, n, rfl, ⟨le_lim hl, (Option.some.inj e').symm⟩, q⟩
      · rw [if_neg hl] at e'; cases e'
    | @tup a ws vs ha ra =>
      have e' : ws.length = n := Option.some.inj e
      exact call_len pins s σ H _ us Q I r ⟨_, n, rfl, .inr ⟨vs, ha, by rw [← e', ra.length]⟩, q⟩
    | @frl a ws vs ha ra =>
      have e' : ws.length = n := Option.some.inj e
      exact call_len pins s σ H _ us Q I r ⟨_, n, rfl, .inl ⟨vs, ha.sq, by rw [← e', ra.length]⟩, q⟩
    | @ref a i hi =>
      have e' : (match S[i]? with
        | some (.lst ws) => some ws.length
        | some (.dct kvs) => some kvs.length
        | _ => none) = some n := e
      split at e'
      · rename_i ws e1
        obtain ⟨a', vs, h1, h2, r1⟩ := sr.lst e1
        rw [hi] at h1; cases h1
        have e2 : ws.length = n := Option.some.inj e'
        exact call_len pins s σ H _ us Q I r ⟨_, n, rfl, .inl ⟨vs, .of h2, by rw [← e2, r1.length]⟩, q⟩
      · rename_i kvs e1
        obtain ⟨a', h1, kv, h2, hl, _⟩ := sr.at_ _ _ e1
        rw [hi] at h1; cases h1
        have e2 : kvs.length = n := Option.some.inj e'
        exact call_lenD pins s σ H _ us Q I r ⟨_, kv, rfl, h2, by rw [← hl, e2]; exact q⟩
      · cases e'
    | _ => cases e
  · exact f'.no_
theorem blt_tuple : CallR X (.type "tuple") (rBlt X.K G .tuple) := by
  refine blt1 (not1 (fun _ => rfl) fun _ _ _ _ => rfl) fun pins s σ H v us Q ρ S x E I r sr rx f => ?_
  have f' : Fin X.K G (relW X.K G) ρ H (match seqW S x with
    | some ws => .ok (.tup ws) S
    | none => .no) Q E := f
  split at f'
  · rename_i ws e
    obtain ⟨p, vs, rfl, hq, r1⟩ := seq_ok sr rx e
    refine call_tuple_of pins s σ H _ us Q I r ⟨p, vs, rfl, ?_⟩
    rcases hq with hq | hq
    · exact .inl ⟨hq, fun l hl => f'.newT sr r1 hl⟩
    · exact .inr ⟨hq, f'.ok sr (.tup hq r1)⟩
  · exact f'.no_
theorem blt_list : CallR X (.type "list") (rBlt X.K G .list) := by
  refine blt1 (not1 (fun _ => rfl) fun _ _ _ _ => rfl) fun pins s σ H v us Q ρ S x E I r sr rx f => ?_
  have f' : Fin X.K G (relW X.K G) ρ H (match seqW S x with
    | some ws => new S (.lst ws)
    | none => .no) Q E := f
  split at f'
  · rename_i ws e
    obtain ⟨p, vs, rfl, hq, r1⟩ := seq_ok sr rx e
    exact call_list_of pins s σ H _ us Q I r ⟨p, vs, rfl, hq, fun l hl => f'.newL sr r1 hl⟩
  · exact f'.no_
theorem blt_int : CallR X (.type "int") (rBlt X.K G .int) := by
  refine blt1 (not1 (fun _ => rfl) fun _ _ _ _ => rfl) fun pins s σ H v us Q ρ S x E I r sr rx f => ?_
  cases rx with
  | int i => exact call_int1 pins s σ H _ us Q I r (.inl ⟨i, rfl, f.ok sr (.int _)⟩)
  | bl b => exact call_int1 pins s σ H _ us Q I r (.inr ⟨b, rfl, f.ok sr (.int _)⟩)
  | _ => exact f.no_
theorem blt_abs : CallR X (.builtin "abs") (rBlt X.K G .abs) := by
  refine blt1 (not1 (fun _ => rfl) fun _ _ _ _ => rfl) fun pins s σ H v us Q ρ S x E I r sr rx f => ?_
  cases rx with
  | int i => exact call_abs pins s σ H _ us Q I r ⟨i, rfl, f.ok sr (.int _)⟩
  | _ => exact f.no_
theorem blt_divmod : CallR X (.builtin "divmod") (rBlt X.K G .divmod) := by
  refine blt2 (not2 (fun _ => rfl) (fun _ _ => rfl) fun _ _ _ _ _ => rfl) fun pins s σ H v u us Q ρ S x y E I r sr rx ry f => ?_
  cases rx with
  | int i =>
    cases ry with
    | int j =>
      have f' : Fin X.K G (relW X.K G) ρ H (if 0 < j ∧ j.natAbs.log2 < 9000 then .ok (.tup [.int (i / j), .int (i % j)]) S else .no) Q E := f
      by_cases hl : 0 < j ∧ j.natAbs.log2 < 9000
      · rw [if_pos hl] at f'
        exact call_divmodW pins s σ H _ us Q I r ⟨i, j, rfl, ⟨hl.1, PyProof.noPylong_of_log2 hl.2⟩, fun p hp => f'.newT sr (.cons (.int _) (.cons (.int _) .nil)) hp⟩
      · rw [if_neg hl] at f'
        exact f'.no_
    | _ => exact f.no_
  | _ => exact f.no_
theorem blt_min2 (hc : X.calm = true) : CallR X (.builtin "min") (rBlt X.K G .min2) := by
  refine blt2 (not2 (fun _ => rfl) (fun _ _ => rfl) fun _ _ _ _ _ => rfl) fun pins s σ H v u us Q ρ S x y E I r sr rx ry f => ?_
  cases rx with
  | int i =>
    cases ry with
    | int j => exact call_min2 hc pins s σ H _ us Q I r ⟨i, j, rfl, f.ok sr (.int _)⟩
    | _ => exact f.no_
  | _ => exact f.no_
theorem blt_max2 (hc : X.calm = true) : CallR X (.builtin "max") (rBlt X.K G .max2) := by
  refine blt2 (not2 (fun _ => rfl) (fun _ _ => rfl) fun _ _ _ _ _ => rfl) fun pins s σ H v u us Q ρ S x y E I r sr rx ry f => ?_
  cases rx with
  | int i =>
    cases ry with
    | int j => exact call_max2 hc pins s σ H _ us Q I r ⟨i, j, rfl, f.ok sr (.int _)⟩
    | _ => exact f.no_
  | _ => exact f.no_
theorem wBools_ok {K : PySem.W.Frag} {gad : Nat → Addr} {ρ : List Addr} {H : Hp} : ∀ {ws : List W} {vs : List V} {bs : List Bool}, RWs K gad ρ H ws vs → wBools ws = some bs → vs = bs.map V.bl
  | [], _, bs, .nil, h => by cases h; rfl
  | w :: ws, _, bs, .cons r t, h => by
    cases r with
    | bl i =>
      have h' : (wBools ws).map (i :: ·) = some bs := h
      obtain ⟨ms, e, e2⟩ := Option.map_eq_some_iff.mp h'
      subst e2
      rw [wBools_ok t e, List.map_cons]
    | _ => cases h
theorem blt_all (hc : X.calm = true) : CallR X (.builtin "all") (rBlt X.K G .all) := by
  refine blt1 (not1 (fun _ => rfl) fun _ _ _ _ => rfl) fun pins s σ H v us Q ρ S x E I r sr rx f => ?_
  cases rx with
  | @ref a i hi =>
    have f' : Fin X.K G (relW X.K G) ρ H (match S[i]? with
      | some (.lst ws) => (match wBools ws with
        | some bs => .ok (.bl (bs.all id)) S
        | none => .no)
      | _ => .no) Q E := f
    split at f'
    · rename_i ws e1
      obtain ⟨a', vs, h1, h2, r1⟩ := sr.lst e1
      rw [hi] at h1; cases h1
      split at f'
      · rename_i bs e2
        have e3 := wBools_ok r1 e2
        subst e3
        exact cr_all hc pins s σ H _ us Q I r ⟨a, bs, rfl, .of h2, f'.ok sr (.bl _)⟩
      · exact f'.no_
    · exact f'.no_
  | _ => exact f.no_
theorem blt_any (hc : X.calm = true) : CallR X (.builtin "any") (rBlt X.K G .any) := by
  refine blt1 (not1 (fun _ => rfl) fun _ _ _ _ => rfl) fun pins s σ H v us Q ρ S x E I r sr rx f => ?_
  cases rx with
  | @ref a i hi =>
    have f' : Fin X.K G (relW X.K G) ρ H (match S[i]? with
      | some (.lst ws) => (match wBools ws with
        | some bs => .ok (.bl (bs.any id)) S
        | none => .no)
      | _ => .no) Q E := f
    split at f'
    · rename_i ws e1
      obtain ⟨a', vs, h1, h2, r1⟩ := sr.lst e1
      rw [hi] at h1; cases h1
      split at f'
      · rename_i bs e2
        have e3 := wBools_ok r1 e2
        subst e3
        exact cr_any hc pins s σ H _ us Q I r ⟨a, bs, rfl, .of h2, f'.ok sr (.bl _)⟩
      · exact f'.no_
    · exact f'.no_
  | _ => exact f.no_
/-! ### methods -/
def rMet (K : PySem.W.Frag) (G : Gp) (m : Mt) (v : V) (vs : List V) (H : Hp) (Q : VK) : Prop :=
  ∃ ρ S x ws E, SR K G.gad ρ S H ∧ RW K G.gad ρ H x v ∧ RWs K G.gad ρ H ws vs ∧ Fin K G (relW K G) ρ H (metW m x ws S) Q E
/-- a changed list of the store -/
theorem Fin.wrL {K : PySem.W.Frag} {ρ : List Addr} {H : Hp} {S : Sto} {E : XK} {Q : VK} {i : Nat} {a : Addr} {ws : List W} {vs : List V} {w : W} {v : V} (f : Fin K G (relW K G) ρ H (.ok w (S.set i (.lst ws))) Q E) (s : SR K G.gad ρ S H) (hi : ρ[i]? = some a) (r : RWs K G.gad ρ H ws vs) (rw_ : RW K G.gad ρ H w v) : Q v (upd H a (.lst vs)) := by
  obtain ⟨s', x'⟩ := s.write (o := .lst ws) (ho := .lst vs) hi fun x => ⟨vs, upd_same, r.ext s x⟩
  exact f _ _ _ x' s' (rw_.ext s x')
theorem mtAppend : MtM X "list.append" (rMet X.K G .append) := by
  intro pins s σ H v vs v' us Q I rv rvs ⟨ρ, S, x, ws, E, sr, rx, rw_, f⟩
  cases rx with
  | @ref a i hi =>
    cases rw_ with
    | nil => exact f.no_
    | @cons w1 v1 ws1 vs1 r1 r2 =>
      cases r2 with
      | nil =>
        have f' : Fin X.K G (relW X.K G) ρ H (match S[i]? with
          | some (.lst ws) => if ws.length < lim then .ok .non (S.set i (.lst (ws ++ [w1]))) else .no
          | _ => .no) Q E := f
        split at f'
        · rename_i zs e1
          obtain ⟨a', us', h1, h2, r3⟩ := sr.lst e1
          rw [hi] at h1; cases h1
          by_cases hl : zs.length < lim
          · rw [if_pos hl] at f'
            exact mt_append pins s σ H _ _ v' us Q I rv rvs ⟨a, us', v1, rfl, rfl, h2, by rw [← r3.length]; exact lt_lim hl, f'.wrL sr hi (r3.append (.cons r1 .nil)) .non⟩
          · rw [if_neg hl] at f'
            exact f'.no_
        · exact f'.no_
      | cons _ _ => exact f.no_
  | _ => exact f.no_
theorem mtExtend : MtM X "list.extend" (rMet X.K G .extend) := by
  intro pins s σ H v vs v' us Q I rv rvs ⟨ρ, S, x, ws, E, sr, rx, rw_, f⟩
  cases rx with
  | @ref a i hi =>
    cases rw_ with
    | nil => exact f.no_
    | @cons w1 v1 ws1 vs1 r1 r2 =>
      cases r2 with
      | nil =>
        cases r1 with
        | @ref b j hj =>
          have f' : Fin X.K G (relW X.K G) ρ H (match S[i]?, S[j]? with
            | some (.lst ws), some (.lst zs) => if ws.length + zs.length ≤ lim then .ok .non (S.set i (.lst (ws ++ zs))) else .no
            | _, _ => .no) Q E := f
          split at f'
          · rename_i zs ys e1 e2
            obtain ⟨a', us', h1, h2, r3⟩ := sr.lst e1
            obtain ⟨b', us2, h3, h4, r4⟩ := sr.lst e2
            rw [hi] at h1; cases h1
            rw [hj] at h3; cases h3
            by_cases hl : zs.length + ys.length ≤ lim
            · rw [if_pos hl] at f'
              exact mt_extend pins s σ H _ _ v' us Q I rv rvs ⟨a, b, us', us2, rfl, rfl, h2, h4, by rw [← r3.length, ← r4.length]; exact le_lim hl, f'.wrL sr hi (r3.append r4) .non⟩
            · rw [if_neg hl] at f'
              exact f'.no_
          · exact f'.no_
        | _ => exact f.no_
      | cons _ _ => cases r1 <;> exact f.no_
  | _ => exact f.no_
theorem recL {K : PySem.W.Frag} {ρ : List Addr} {H : Hp} {S : Sto} {m : Mt} {x : W} {v : V} (s : SR K G.gad ρ S H) (rx : RW K G.gad ρ H x v) (h : recOk m S x = true) (hm : mtTy m = 0) : tyV K "list" v H := by
  cases rx with
  | @ref a i hi =>
    have h' : (match S[i]? with
      | some (.lst _) => mtTy m == 0
      | some (.dct _) => mtTy m == 1
      | _ => false) = true := h
    split at h'
    · rename_i ws e1
      obtain ⟨a', vs, h1, h2, r1⟩ := s.lst e1
      rw [hi] at h1; cases h1
      exact .inl ⟨rfl, vs, .of h2⟩
    · rw [hm] at h'; cases h'
    · cases h'
  | str z =>
    have h' : (mtTy m == 2) = true := h
    rw [hm] at h'; cases h'
  | _ => cases h
/-! ### isinstance -/
def tyOf : Ty → String
  | .int => "int"
  | .bool => "bool"
  | .str => "str"
  | .tuple => "tuple"
  | .list => "list"
  | .dict => "dict"
def kindN : Nat → String
  | 0 => "NoneType"
  | 1 => "bool"
  | 2 => "int"
  | 3 => "str"
  | 4 => "tuple"
  | 5 => "list"
  | _ => "dict"
theorem kit_kind : ∀ (t : Ty) (k : Nat), k < 7 → kitB (kindN k) (tyOf t) = some (tyHas t k) := by
  have h : ∀ t : Ty, ∀ k : _root_.Fin 7, kitB (kindN k) (tyOf t) = some (tyHas t k) := by
    intro t k
    cases t <;> revert k <;> decide +kernel
  exact fun t k hk => h t ⟨k, hk⟩
theorem kind_ok {K : PySem.W.Frag} {gad : Nat → Addr} {ρ : List Addr} {H : Hp} {S : Sto} {x : W} {v : V} {k : Nat} (s : SR K gad ρ S H) (rx : RW K gad ρ H x v) (h : kindW S x = some k) :
    k < 7 ∧ TyX K H v (.type (kindN k)) := by
  cases rx with
  | non => cases h; exact ⟨by omega, .base .non⟩
  | bl b => cases h; exact ⟨by omega, .base (.bl b)⟩
  | int b => cases h; exact ⟨by omega, .base (.int b)⟩
  | str b => cases h; exact ⟨by omega, .base (.str b)⟩
  | @tup a ws vs ha ra =>
    cases h
    rcases ha with (ha | ⟨o, ha⟩) | ⟨o, its, n, h1, h2, _⟩
    · exact ⟨by omega, .base (.tup ha)⟩
    · exact ⟨by omega, .fTuple ha⟩
    · exact ⟨by omega, .kTuple h1 h2⟩
  | @ref a i hi =>
    have h' : (match S[i]? with
      | some (.lst _) => some 5
      | some (.dct _) => some 6
      | _ => none) = some k := h
    split at h'
    · rename_i ws e1
      obtain ⟨a', vs, h1, h2, r1⟩ := s.lst e1
      rw [hi] at h1; cases h1
      cases h'
      exact ⟨by omega, .base (.lst h2)⟩
    · rename_i kvs e1
      obtain ⟨a', h1, kv, h2, hl, _⟩ := s.at_ _ _ e1
      rw [hi] at h1; cases h1
      cases h'
      exact ⟨by omega, .base (.dK h2)⟩
    · cases h'
  | _ => cases h
theorem isi_ok {K : PySem.W.Frag} {gad : Nat → Addr} {ρ : List Addr} {H : Hp} {S : Sto} {t : Ty} {x : W} {v : V} {b : Bool} (s : SR K gad ρ S H) (rx : RW K gad ρ H x v) (h : isW S t x = some b) :
    ∃ n, TyX K H v (.type n) ∧ PySem.W.kitOne K (.type n) (.type (tyOf t)) = some b := by
  obtain ⟨k, h1, h2⟩ := Option.map_eq_some_iff.mp h
  obtain ⟨h3, h4⟩ := kind_ok s rx h1
  exact ⟨_, h4, kit_ty (by rw [kit_kind t k h3, h2])⟩
end
end Pv
set_option autoImplicit false
set_option Elab.async false
set_option linter.all false
set_option maxRecDepth 100000
set_option maxHeartbeats 2000000
/-! Expressions are sound, part by part. -/
namespace Pv
open PySem PySem.Spec PyProof.Rows L2
section
variable {X : Cx} {e : Expr}
theorem peW {t t' : TE} (h : PE X e t) (hi : ∀ σ H Q, t' σ H Q → t σ H Q) : PE X e t' := ⟨fun pins s σ H Q I q => h.run pins s σ H Q I (hi σ H Q q)⟩
theorem ptW {t t' : TT} (h : PT X e t) (hi : ∀ σ H Q, t' σ H Q → t σ H Q) : PT X e t' := ⟨fun pins s σ H Q I q => h.run pins s σ H Q I (hi σ H Q q)⟩
theorem pwW {t t' : TT} (h : PW X e t) (hi : ∀ σ H Q, t' σ H Q → t σ H Q) : PW X e t' := ⟨fun wh pins s σ H Q I q => h.run wh pins s σ H Q I (hi σ H Q q)⟩
theorem paW {es : List Expr} {t t' : TA} (h : PA X es t) (hi : ∀ σ H Q, t' σ H Q → t σ H Q) : PA X es t' := ⟨fun pos pins s σ H Q I q => h.run pos pins s σ H Q I (hi σ H Q q)⟩
theorem psW {st : Stmt} {t t' : TS} (h : PS X st t) (hi : ∀ D σ H, t' D σ H → t D σ H) : PS X st t' := ⟨fun pins s σ H D I q => h.run pins s σ H D I (hi D σ H q)⟩
theorem pssW {st : List Stmt} {t t' : TS} (h : PSs X st t) (hi : ∀ D σ H, t' D σ H → t D σ H) : PSs X st t' := ⟨fun pins s σ H D I q => h.run pins s σ H D I (hi D σ H q)⟩
theorem pgW {t t' : TG} (h : PG X e t) (hi : ∀ v σ H Q, t' v σ H Q → t v σ H Q) : PG X e t' := ⟨fun pins s σ H v u Q I r q => h.run pins s σ H v u Q I r (hi v σ H Q q)⟩
theorem pgsW {es : List Expr} {t t' : TGs} (h : PGs X es t) (hi : ∀ v σ H Q, t' v σ H Q → t v σ H Q) : PGs X es t' := ⟨fun pins s σ H v u Q I r q => h.run pins s σ H v u Q I r (hi v σ H Q q)⟩
theorem piW {tg : Expr} {t t' : TI} (h : PI X tg e t) (hi : ∀ σ H R, t' σ H R → t σ H R) : PI X tg e t' := ⟨fun pins s σ H R I q => h.run pins s σ H R I (hi σ H R q)⟩
theorem piOr {tg : Expr} {t t' : TI} (h : PI X tg e t) (h' : PI X tg e t') : PI X tg e (fun σ H R => t σ H R ∨ t' σ H R) := ⟨fun pins s σ H R I q => q.elim (fun z => h.run pins s σ H R I z) fun z => h'.run pins s σ H R I z⟩
end
section
variable {K : PySem.W.Frag} {G : Gp} {α β γ δ ε ζ : Type} {rel : List Addr → Hp → α → β → Prop} {rel2 : List Addr → Hp → γ → δ → Prop} {rel3 : List Addr → Hp → ε → ζ → Prop} {Wx : WX} {σ : L2.St} {H : Hp}
/-- where one stands: the store, the environment -/
structure At0 (K : PySem.W.Frag) (G : Gp) (ρ : List Addr) (S : Sto) (env : En) (σ : L2.St) (H : Hp) : Prop where
  s : SR K G.gad ρ S H
  e : ER K G.gad ρ H env σ
/-- a relation that stays -/
def Stay (K : PySem.W.Frag) (G : Gp) (rel : List Addr → Hp → α → β → Prop) : Prop := ∀ ρ S H ρ' H' a b, SR K G.gad ρ S H → Ext ρ H ρ' H' → rel ρ H a b → rel ρ' H' a b
theorem stayW : Stay K G (relW K G) := fun _ _ _ _ _ _ _ s x r => r.ext s x
theorem stayWs : Stay K G (relWs K G) := fun _ _ _ _ _ _ _ s x r => r.ext s x
theorem stayB : Stay K G relB := fun _ _ _ _ _ _ _ _ _ r => r
abbrev eW (Wx : WX) (σ : L2.St) : XK := fun cls dd H' => Wx cls dd σ H'
theorem tD.seq {d : Dn α} {f : CL → En → α → Sto → R γ} {Q : δ → Hp → Prop} {Q1 : β → Hp → Prop} (h : tD K G rel2 Wx (fun cl env S => (d cl env S).bind (f cl env)) σ H Q)
    (k : ∀ ρ S env a H' b, At0 K G ρ S env σ H' → rel ρ H' a b → Fin K G rel2 ρ H' (f G.cl env a S) Q (eW Wx σ) → Q1 b H') : tD K G rel Wx d σ H Q1 := by
  obtain ⟨ρ, S, env, sr, er, f0⟩ := h
  exact ⟨ρ, S, env, sr, er, f0.bind fun a S' ρ' H' b _ x s r f1 => k ρ' S' env a H' b ⟨s, er.ext sr x⟩ r f1⟩
theorem tD.mk {d : Dn α} {Q : β → Hp → Prop} {ρ : List Addr} {S : Sto} {env : En} (a : At0 K G ρ S env σ H) (f : Fin K G rel ρ H (d G.cl env S) Q (eW Wx σ)) : tD K G rel Wx d σ H Q := ⟨ρ, S, env, a.s, a.e, f⟩
/-- two in a row -/
theorem tD.seq2 {a : Dn α} {b : Dn γ} {f : α → γ → Sto → R ε} {Q : ζ → Hp → Prop} {Q2 : β → δ → Hp → Prop} (st : Stay K G rel) (h : tD K G rel3 Wx (dSeq2 a b f) σ H Q)
    (k : ∀ ρ S env x y H' v u, At0 K G ρ S env σ H' → rel ρ H' x v → rel2 ρ H' y u → Fin K G rel3 ρ H' (f x y S) Q (eW Wx σ) → Q2 v u H') : tD K G rel Wx a σ H fun v H1 => tD K G rel2 Wx b σ H1 fun u H2 => Q2 v u H2 := by
  refine h.seq (f := fun cl env x S1 => (b cl env S1).bind fun y S2 => f x y S2) fun ρ S env x H1 v a1 r1 f1 => ?_
  exact ⟨ρ, S, env, a1.s, a1.e, f1.bind fun y S' ρ' H' u _ e s r f2 => k ρ' S' env x y H' v u ⟨s, a1.e.ext a1.s e⟩ (st _ _ _ _ _ _ _ a1.s e r1) r f2⟩
end
section
variable {X : Cx} {G : Gp} {Wx : WX} {a b c e : Expr} {da db dc : Dn W} {ta tb tc : Dn Bool} {pos : Pos}
theorem sVar {i : Nat} {x : Str} (hN : X.N[i]? = some x) (hv : Vis X.env.scope x) (hd : (x == ("__debug__" : Str)) = false) (hcd : (x == ("__classdict__" : Str)) = false) : PE X (.Name x pos) (tE X.K G Wx (dVar i)) := by
  refine peW (pe_var hN hv hd hcd) fun σ H Q ⟨ρ, S, env, sr, er, f⟩ => ?_
  have f' : Fin X.K G (relW X.K G) ρ H (match env[i]? with
    | some (some w) => .ok w S
    | _ => .no) Q (eW Wx σ) := f
  split at f'
  · rename_i w h1
    obtain ⟨v, h2, r⟩ := er.at_ i w h1
    exact ⟨v, h2, f'.ok sr r⟩
  · exact f'.no_
/-- a constant -/
theorem sCon {w : W} {v : V} (h : PE X e (tC v)) (r : ∀ ρ H, RW X.K G.gad ρ H w v) : PE X e (tE X.K G Wx (dCon w)) := peW h fun σ H Q ⟨ρ, S, env, sr, er, f⟩ => Fin.ok (a := w) (S := S) f sr (r ρ H)
theorem pNil : PA X [] (tA X.K G Wx dNil) := paW pa_nil fun σ H Q ⟨ρ, S, env, sr, er, f⟩ => Fin.ok (a := ([] : List W)) (S := S) f sr .nil
theorem pCons {es : List Expr} {dr : Dn (List W)} (ha : PE X a (tE X.K G Wx da)) (hr : PA X es (tA X.K G Wx dr)) (hs : starEach (a :: es) X.env = (false, eval a X.env) :: starEach es X.env) : PA X (a :: es) (tA X.K G Wx (dCons da dr)) :=
  paW (pa_cons ha hr hs) fun σ H Q h => h.seq2 (Q2 := fun v vs H2 => Q (v :: vs) H2) stayW fun ρ S env x xs H' v vs a r1 r2 f => Fin.ok (a := x :: xs) (S := S) f a.s (.cons r1 r2)
theorem pStar {es : List Expr} {dr : Dn (List W)} {p : Pos} (ha : PE X a (tE X.K G Wx da)) (hr : PA X es (tA X.K G Wx dr)) : PA X (.Starred a p :: es) (tA X.K G Wx (dStar da dr)) := by
  refine paW (StX.pa_star ha hr) fun σ H Q h => ?_
  refine h.seq (f := fun cl env x S1 => match seqW S1 x with
    | some ws => (dr cl env S1).bind fun xs S2 => .ok (ws ++ xs) S2
    | none => .no) fun ρ S env x H1 v a1 r1 f1 => ?_
  split at f1
  · rename_i ws e
    obtain ⟨p, vs, rfl, hq, r2⟩ := seq_ok a1.s r1 e
    refine ⟨p, vs, rfl, hq.symm, ρ, S, env, a1.s, a1.e, f1.bind fun xs S' ρ' H' us _ e s r f2 => ?_⟩
    exact f2.ok s ((r2.ext a1.s e).append r)
  · exact f1.no_
theorem sTup {es : List Expr} {dx : Dn (List W)} {k : Nat} (h : PA X es (tA X.K G Wx dx)) : PE X (.Tuple es k pos) (tE X.K G Wx (dTup dx)) := by
  refine peW (pe_tup h) fun σ H Q h => h.seq (f := fun cl env ws S1 => if ws.length ≤ lim then .ok (W.tup ws) S1 else .no) fun ρ S env ws H1 vs a1 r1 f1 => ?_
  by_cases hl : ws.length ≤ lim
  · rw [if_pos hl] at f1
    exact ⟨by rw [← r1.length]; exact le_lim hl, fun p hp => f1.newT a1.s r1 hp⟩
  · rw [if_neg hl] at f1
    exact f1.no_
theorem sLst {es : List Expr} {dx : Dn (List W)} (h : PA X es (tA X.K G Wx dx)) : PE X (.List es pos) (tE X.K G Wx (dLst dx)) := by
  refine peW (pe_lst h) fun σ H Q h => h.seq (f := fun cl env ws S1 => if ws.length ≤ lim then new S1 (.lst ws) else .no) fun ρ S env ws H1 vs a1 r1 f1 => ?_
  by_cases hl : ws.length ≤ lim
  · rw [if_pos hl] at f1
    exact ⟨by rw [← r1.length]; exact le_lim hl, fun p hp => f1.newL a1.s r1 hp⟩
  · rw [if_neg hl] at f1
    exact f1.no_
theorem sBin {op : Bo} (ha : PE X a (tE X.K G Wx da)) (hb : PE X b (tE X.K G Wx db)) : PE X (.BinOp a (opOf op) b pos) (tE X.K G Wx (dBin op da db)) :=
  peW (pe_op (opBin (G := G) op) ha hb) fun σ H Q h => h.seq2 stayW fun ρ S env x y H' v u a r1 r2 f => ⟨ρ, S, x, y, _, a.s, r1, r2, f⟩
theorem un_negW : UnR X (unaryOp .USub) (fun v H Q => rV1 X.K G (relW X.K G) negW v H Q) := by
  intro pins s σ H v v' Q I rv ⟨ρ, S, x, E, sr, rx, f⟩
  cases rx with
  | int i => exact un_neg pins s σ H _ v' Q I rv ⟨i, rfl, f.ok sr (.int _)⟩
  | _ => exact f.no_
theorem sNeg (ha : PE X a (tE X.K G Wx da)) : PE X (.UnaryOp .USub a pos) (tE X.K G Wx (dNeg da)) :=
  peW (pe_un (un_negW (G := G)) ha) fun σ H Q h => h.seq (f := fun _ _ => negW) fun ρ S env x H1 v a1 r1 f1 => ⟨ρ, S, x, _, a1.s, r1, f1⟩
/-! ### tests -/
theorem tTru (ha : PE X a (tE X.K G Wx da)) (he : ∀ whole, isTrue a X.env whole = (do let v ← whole; standAt a.pos; holding [v] (truthy v))) : PT X a (tT X.K G Wx (dTru da)) := by
  refine ptW (pt_truth ha he) fun σ H Q h => h.seq (f := fun _ _ x S1 => .opt S1 (truW S1 x)) fun ρ S env x H1 v a1 r1 f1 => ?_
  obtain ⟨k, e, f2⟩ := f1.opt
  exact ⟨k, tru_of a1.s r1 e, f2.ok a1.s rfl⟩
theorem tNot' (ha : PT X a (tT X.K G Wx ta)) : PT X (.UnaryOp .Not a pos) (tT X.K G Wx (dNotT ta)) :=
  ptW (pt_not ha) fun σ H Q h => h.seq (f := fun _ _ k S1 => .ok (!k) S1) fun ρ S env x H1 v a1 r1 f1 => by
    have r1 : x = v := r1
    subst r1
    exact f1.ok a1.s rfl
/-- a test, then one of two -/
theorem tD.ite {K : PySem.W.Frag} {α β : Type} {rel : List Addr → Hp → α → β → Prop} {d1 d2 : Dn α} {σ : L2.St} {H : Hp} {Q : β → Hp → Prop} (h : tD K G rel Wx (dIf tc d1 d2) σ H Q) :
    tT K G Wx tc σ H fun k H1 => if k = true then tD K G rel Wx d1 σ H1 Q else tD K G rel Wx d2 σ H1 Q := by
  refine h.seq (f := fun cl env k S1 => if k then d1 cl env S1 else d2 cl env S1) fun ρ S env x H1 v a1 r1 f1 => ?_
  have r1 : x = v := r1
  subst r1
  cases x with
  | true => exact ⟨ρ, S, env, a1.s, a1.e, f1⟩
  | false => exact ⟨ρ, S, env, a1.s, a1.e, f1⟩
theorem tD.bool {K : PySem.W.Frag} {k : Bool} {σ : L2.St} {H : Hp} {Q : Bool → Hp → Prop} (h : tT K G Wx (dBool k) σ H Q) : Q k H := by
  obtain ⟨ρ, S, env, sr, er, f⟩ := h
  exact Fin.ok (a := k) (S := S) f sr rfl
theorem tIfE (hc : PT X c (tT X.K G Wx tc)) (ha : PT X a (tT X.K G Wx ta)) (hb : PT X b (tT X.K G Wx tb)) : PT X (.IfExp c a b pos) (tT X.K G Wx (dIf tc ta tb)) := by
  refine ⟨fun pins s σ H Q I h => ?_⟩
  refine isTrue_IfExp (thn (hc.run pins s σ H _ I h.ite) fun k s1 ⟨H1, I1, q1⟩ => ?_)
  cases k with
  | true => exact ha.run pins s1 σ H1 Q I1 q1
  | false => exact hb.run pins s1 σ H1 Q I1 q1
theorem wAnd {rest : List Expr} (ha : PT X a (tT X.K G Wx ta)) (hb : PW X (.BoolOp .And (b :: rest) pos) (tT X.K G Wx tb)) : PW X (.BoolOp .And (a :: b :: rest) pos) (tT X.K G Wx (dIf ta tb (dBool false))) :=
  pwW (pw_and ha hb) fun σ H Q h => by
    obtain ⟨ρ, S, env, sr, er, f⟩ := h.ite
    refine ⟨ρ, S, env, sr, er, ?_⟩
    refine Fin.bind (f := fun k S1 => .ok k S1) (rel2 := relB) (Q := fun k H1 => if k = true then tT X.K G Wx tb σ H1 Q else tT X.K G Wx (dBool false) σ H1 Q) (by cases q : (ta G.cl env S) <;> (rw [q] at f; exact f)) fun k S1 ρ1 H1 k' _ x s r f1 => ?_
    have q := f1.ok s (show relB ρ1 H1 k k from rfl)
    have r : k = k' := r
    subst r
    cases k with
    | true => exact q
    | false => exact (show tT X.K G Wx (dBool false) σ H1 Q from q).bool
theorem wOr {rest : List Expr} (ha : PT X a (tT X.K G Wx ta)) (hb : PW X (.BoolOp .Or (b :: rest) pos) (tT X.K G Wx tb)) : PW X (.BoolOp .Or (a :: b :: rest) pos) (tT X.K G Wx (dIf ta (dBool true) tb)) :=
  pwW (pw_or ha hb) fun σ H Q h => by
    obtain ⟨ρ, S, env, sr, er, f⟩ := h.ite
    refine ⟨ρ, S, env, sr, er, ?_⟩
    refine Fin.bind (f := fun k S1 => .ok k S1) (rel2 := relB) (Q := fun k H1 => if k = true then tT X.K G Wx (dBool true) σ H1 Q else tT X.K G Wx tb σ H1 Q) (by cases q : (ta G.cl env S) <;> (rw [q] at f; exact f)) fun k S1 ρ1 H1 k' _ x s r f1 => ?_
    have q := f1.ok s (show relB ρ1 H1 k k from rfl)
    have r : k = k' := r
    subst r
    cases k with
    | true => exact (show tT X.K G Wx (dBool true) σ H1 Q from q).bool
    | false => exact q
theorem sIfE (hc : PT X c (tT X.K G Wx tc)) (ha : PE X a (tE X.K G Wx da)) (hb : PE X b (tE X.K G Wx db)) : PE X (.IfExp c a b pos) (tE X.K G Wx (dIf tc da db)) :=
  peW (pe_ifExp hc ha hb) fun σ H Q h => h.ite
/-- values by truth -/
theorem tD.andV {K : PySem.W.Frag} {σ : L2.St} {H : Hp} {Q : VK} (h : tE K G Wx (dAnd da db) σ H Q) : tAndT K (tE K G Wx da) (tE K G Wx db) σ H Q := by
  refine h.seq (f := fun cl env x S1 => match truW S1 x with
    | some true => db cl env S1
    | some false => .ok x S1
    | none => .no) fun ρ S env x H1 v a1 r1 f1 => ?_
  split at f1
  · rename_i e
    exact ⟨true, tru_of a1.s r1 e, ρ, S, env, a1.s, a1.e, f1⟩
  · rename_i e
    exact ⟨false, tru_of a1.s r1 e, f1.ok a1.s r1⟩
  · exact f1.no_
theorem tD.orV {K : PySem.W.Frag} {σ : L2.St} {H : Hp} {Q : VK} (h : tE K G Wx (dOr da db) σ H Q) : tOrT K (tE K G Wx da) (tE K G Wx db) σ H Q := by
  refine h.seq (f := fun cl env x S1 => match truW S1 x with
    | some true => .ok x S1
    | some false => db cl env S1
    | none => .no) fun ρ S env x H1 v a1 r1 f1 => ?_
  split at f1
  · rename_i e
    exact ⟨true, tru_of a1.s r1 e, f1.ok a1.s r1⟩
  · rename_i e
    exact ⟨false, tru_of a1.s r1 e, ρ, S, env, a1.s, a1.e, f1⟩
  · exact f1.no_
theorem sAnd {rest : List Expr} (ha : PE X a (tE X.K G Wx da)) (hb : PE X (.BoolOp .And (b :: rest) pos) (tE X.K G Wx db)) : PE X (.BoolOp .And (a :: b :: rest) pos) (tE X.K G Wx (dAnd da db)) := peW (pe_andT ha hb) fun _ _ _ h => h.andV
theorem sOr {rest : List Expr} (ha : PE X a (tE X.K G Wx da)) (hb : PE X (.BoolOp .Or (b :: rest) pos) (tE X.K G Wx db)) : PE X (.BoolOp .Or (a :: b :: rest) pos) (tE X.K G Wx (dOr da db)) := peW (pe_orT ha hb) fun _ _ _ h => h.orV
/-- not, as a value: the value's truth -/
theorem sNot (ha : PE X a (tE X.K G Wx da)) : PE X (.UnaryOp .Not a pos) (tE X.K G Wx (dBl (dNotT (dTru da)))) := by
  refine peW (pe_notT ha) fun σ H Q ⟨ρ, S, env, sr, er, f⟩ => ⟨ρ, S, env, sr, er, ?_⟩
  have f' : Fin X.K G (relW X.K G) ρ H ((da G.cl env S).bind fun x S1 => ((R.opt S1 (truW S1 x)).bind fun k S2 => .ok (!k) S2).bind fun k S3 => .ok (W.bl k) S3) Q (eW Wx σ) := by
    have f0 : Fin X.K G (relW X.K G) ρ H ((((da G.cl env S).bind fun x S1 => .opt S1 (truW S1 x)).bind fun k S1 => .ok (!k) S1).bind fun k S1 => .ok (W.bl k) S1) Q (eW Wx σ) := f
    cases q : da G.cl env S <;> (rw [q] at f0; exact f0)
  refine f'.bind fun x S1 ρ1 H1 v _ x1 s1 r1 f1 => ?_
  cases e : truW S1 x with
  | none => rw [e] at f1; exact f1.no_
  | some k =>
    rw [e] at f1
    exact ⟨k, tru_of s1 r1 e, Fin.ok (a := W.bl (!k)) (S := S1) f1 s1 (RW.bl _)⟩
/-! ### comparisons -/
theorem relBV {K : PySem.W.Frag} {ρ : List Addr} {H : Hp} {r : R Bool} {Q : VK} {E : XK} (f : Fin K G (relW K G) ρ H (r.bind fun k S1 => .ok (W.bl k) S1) Q E) : Fin K G relV ρ H r Q E := by
  cases r with
  | ok k S' => exact fun ρ' H' v x s r => f ρ' H' v x s (by rw [show v = V.bl k from r]; exact .bl k)
  | er c g S' => exact f
  | no => exact f
theorem sCmp {op : Co} (hu : X.A.units + 64 < cLine) (ha : PE X a (tE X.K G Wx da)) (hb : PE X b (tE X.K G Wx db)) (hm : behindInMarks (coOf op) b = false) : PE X (.Compare a [coOf op] [b] pos) (tE X.K G Wx (dBl (dCmp op da db))) := by
  refine peW (pe_cmpR (opCmp (G := G) hu op) ha hb hm) fun σ H Q ⟨ρ, S, env, sr, er, f⟩ => ?_
  have h : tD X.K G relV Wx (dCmp op da db) σ H Q := ⟨ρ, S, env, sr, er, relBV f⟩
  exact h.seq2 (rel3 := relV) (Q2 := fun v u H2 => rCmp X.K G op v u H2 Q) stayW fun ρ S env x y H' v u a r1 r2 f => ⟨ρ, S, x, y, _, a.s, r1, r2, f⟩
theorem finVB {K : PySem.W.Frag} {ρ : List Addr} {H : Hp} {r : R Bool} {Q : Bool → Hp → Prop} {E : XK} (f : Fin K G relB ρ H r Q E) : Fin K G relV ρ H r (fun x H' => ∃ k, x = V.bl k ∧ Q k H') E := by
  cases r with
  | ok k S' => exact fun ρ' H' v x s r => ⟨k, r, f ρ' H' k x s rfl⟩
  | er c g S' => exact f
  | no => exact f
theorem tCmp' {op : Co} (hu : X.A.units + 64 < cLine) (ha : PE X a (tE X.K G Wx da)) (hb : PE X b (tE X.K G Wx db)) (hm : behindInMarks (coOf op) b = false) : PT X (.Compare a [coOf op] [b] pos) (tT X.K G Wx (dCmp op da db)) := by
  refine ptW (pt_cmpR (opCmp (G := G) hu op) ha hb hm) fun σ H Q ⟨ρ, S, env, sr, er, f⟩ => ?_
  have h : tD X.K G relV Wx (dCmp op da db) σ H (fun x H' => ∃ k, x = V.bl k ∧ Q k H') := ⟨ρ, S, env, sr, er, finVB f⟩
  exact h.seq2 (rel3 := relV) (Q2 := fun v u H2 => rCmp X.K G op v u H2 (fun x H' => ∃ k, x = V.bl k ∧ Q k H')) stayW fun ρ S env x y H' v u a r1 r2 f => ⟨ρ, S, x, y, _, a.s, r1, r2, f⟩
/-- a op b op' c -/
theorem tD.chain {K : PySem.W.Frag} {op op' : Co} {σ : L2.St} {H : Hp} {Q : VK} (h : tD K G relV Wx (dCmp2 op op' da db dc) σ H Q) :
    tChain (rCmp K G op) (rCmp K G op') (tE K G Wx da) (tE K G Wx db) (tE K G Wx dc) σ H Q := by
  refine h.seq (f := fun cl env x S1 => (db cl env S1).bind fun y S2 => (cmpW op x y S2).bind fun k S3 => if k then (dc cl env S3).bind fun z S4 => cmpW op' y z S4 else .ok false S3) fun ρ S env x H1 v a1 r1 f1 => ?_
  refine ⟨ρ, S, env, a1.s, a1.e, f1.bind fun y S2 ρ2 H2 u _ x2 s2 r2 f2 => ?_⟩
  have r1' := r1.ext a1.s x2
  have e2 := a1.e.ext a1.s x2
  refine ⟨ρ2, S2, x, y, _, s2, r1', r2, f2.bind fun k S3 ρ3 H3 z _ x3 s3 r3 f3 => ⟨k, r3, ?_⟩⟩
  cases k with
  | false => exact f3.ok s3 rfl
  | true =>
    refine ⟨ρ3, S3, env, s3, e2.ext s2 x3, Fin.bind (f := fun z S4 => cmpW op' y z S4) f3 fun w S4 ρ4 H4 t _ x4 s4 r4 f4 => ?_⟩
    exact ⟨ρ4, S4, y, w, _, s4, (r2.ext s2 x3).ext s3 x4, r4, f4⟩
theorem sCmp2 {op op' : Co} (hu : X.A.units + 64 < cLine) (ha : PE X a (tE X.K G Wx da)) (hb : PE X b (tE X.K G Wx db)) (hc : PE X c (tE X.K G Wx dc)) (hm : lastMarks [coOf op, coOf op'] [b, c] = false) :
    PE X (.Compare a [coOf op, coOf op'] [b, c] pos) (tE X.K G Wx (dBl (dCmp2 op op' da db dc))) := by
  refine peW (pe_chain (opCmp (G := G) hu op) (opCmp (G := G) hu op') ha hb hc hm) fun σ H Q ⟨ρ, S, env, sr, er, f⟩ => ?_
  exact tD.chain ⟨ρ, S, env, sr, er, relBV f⟩
theorem tCmp2' {op op' : Co} (hu : X.A.units + 64 < cLine) (ha : PE X a (tE X.K G Wx da)) (hb : PE X b (tE X.K G Wx db)) (hc : PE X c (tE X.K G Wx dc)) (hm : lastMarks [coOf op, coOf op'] [b, c] = false) :
    PT X (.Compare a [coOf op, coOf op'] [b, c] pos) (tT X.K G Wx (dCmp2 op op' da db dc)) := by
  refine ptW (pt_chain (opCmp (G := G) hu op) (opCmp (G := G) hu op') ha hb hc hm) fun σ H Q ⟨ρ, S, env, sr, er, f⟩ => ?_
  exact tD.chain ⟨ρ, S, env, sr, er, finVB f⟩
/-! ### subscripts, calls of built-ins, methods -/
theorem sIdx (ha : PE X a (tE X.K G Wx da)) (hb : PE X b (tE X.K G Wx db)) (hs : PlainIx b) : PE X (.Subscript a b pos) (tE X.K G Wx (dIdx da db)) :=
  peW (pe_ix (ixW (G := G)) ha hb hs) fun σ H Q h => h.seq2 stayW fun ρ S env x y H' v u a r1 r2 f => ⟨ρ, S, x, y, _, a.s, r1, r2, f⟩
abbrev relP : List Addr → Hp → Option Int → Option Int → Prop := fun _ _ a b => a = b
abbrev tO (K : PySem.W.Frag) (G : Gp) (Wx : WX) (d : Dn (Option Int)) : TO := tD K G relP Wx d
theorem poSome (ha : PE X a (tE X.K G Wx da)) : PO X (some a) (tO X.K G Wx (dPart da)) := by
  refine ⟨fun pins s σ H Q I h => (po_some ha).run pins s σ H Q I ?_⟩
  refine h.seq (f := fun _ _ x S1 => .opt S1 ((partW x).map some)) fun ρ S env x H1 v a1 r1 f1 => ?_
  obtain ⟨o, e, f2⟩ := f1.opt
  obtain ⟨i, e1, e2⟩ := Option.map_eq_some_iff.mp e
  subst e2
  cases r1 with
  | int j =>
    cases e1
    exact ⟨_, rfl, f2.ok a1.s rfl⟩
  | _ => cases e1
theorem poNone : PO X none (tO X.K G Wx dNoPart) :=
  ⟨fun pins s σ H Q I ⟨ρ, S, env, sr, er, f⟩ => po_none.run pins s σ H Q I (Fin.ok (a := (none : Option Int)) (S := S) f sr rfl)⟩
theorem sSlc {lo hi : Option Expr} {dl dh : Dn (Option Int)} {p2 : Pos} (ha : PE X a (tE X.K G Wx da)) (hl : PO X lo (tO X.K G Wx dl)) (hh : PO X hi (tO X.K G Wx dh)) : PE X (.Subscript a (.Slice lo hi none p2) pos) (tE X.K G Wx (dSlc da dl dh)) := by
  refine peW (pe_slice (slR (G := G)) ha hl hh) fun σ H Q h => ?_
  refine h.seq (f := fun cl env x S1 => (dl cl env S1).bind fun l S2 => (dh cl env S2).bind fun h S3 => slcV x l h S3) fun ρ S env x H1 v a1 r1 f1 => ?_
  refine ⟨ρ, S, env, a1.s, a1.e, f1.bind fun l S2 ρ2 H2 l' _ x2 s2 e2 f2 => ?_⟩
  have e2 : l = l' := e2
  subst e2
  refine ⟨ρ2, S2, env, s2, a1.e.ext a1.s x2, f2.bind fun u S3 ρ3 H3 u' _ x3 s3 e3 f3 => ?_⟩
  have e3 : u = u' := e3
  subst e3
  exact ⟨ρ3, S3, x, _, s3, (r1.ext a1.s x2).ext s2 x3, f3⟩
theorem sBltB {n : Str} {id : String} {p : Pos} {b : Bt} {es : List Expr} {dx : Dn (List W)} (hc : CallR X (.builtin id) (rBlt X.K G b)) (hg : Gl X n) (hm : X.mg n = none) (hv : bootBuiltins n = some (.builtin id)) (ha : PA X (e :: es) (tA X.K G Wx dx))
    (hn : n ≠ "__name__") (hd : (n == ("__debug__" : Str)) = false) (he : starEach (e :: es) X.env = (false, eval e X.env) :: starEach es X.env) (hpl : (backTo pos (starEach es X.env)).any (·.1) = false) : PE X (.Call (.Name n p) (e :: es) [] pos) (tE X.K G Wx (dBlt b dx)) :=
  peW (pe_callB hc hg hm hv ha hn hd he hpl) fun σ H Q h => h.seq (f := fun _ _ => bltW b) fun ρ S env ws H1 vs a1 r1 f1 => ⟨ρ, S, ws, _, a1.s, r1, f1⟩
theorem sBltT {n : Str} {id : String} {p : Pos} {b : Bt} {es : List Expr} {dx : Dn (List W)} (hc : CallR X (.type id) (rBlt X.K G b)) (hg : Gl X n) (hm : X.mg n = none) (hv : bootBuiltins n = some (.type id)) (ha : PA X (e :: es) (tA X.K G Wx dx))
    (hn : n ≠ "__name__") (hd : (n == ("__debug__" : Str)) = false) (he : starEach (e :: es) X.env = (false, eval e X.env) :: starEach es X.env) (hpl : (backTo pos (starEach es X.env)).any (·.1) = false) : PE X (.Call (.Name n p) (e :: es) [] pos) (tE X.K G Wx (dBlt b dx)) :=
  peW (pe_callTy hc hg hm hv ha hn hd he hpl) fun σ H Q h => h.seq (f := fun _ _ => bltW b) fun ρ S env ws H1 vs a1 r1 f1 => ⟨ρ, S, ws, _, a1.s, r1, f1⟩
/-- isinstance(a, T) -/
theorem sIsi {p p2 : Pos} {t : Ty} {n : Str} (ha : PE X a (tE X.K G Wx da)) (hg : Gl X "isinstance") (hm : X.mg "isinstance" = none) (hg2 : Gl X n) (hm2 : X.mg n = none) (hv2 : bootBuiltins n = some (.type (tyOf t))) (hn2 : n ≠ "__name__") (hd2 : (n == ("__debug__" : Str)) = false)
    (hs : starEach [a, .Name n p2] X.env = (false, eval a X.env) :: starEach [.Name n p2] X.env) : PE X (.Call (.Name "isinstance" p) [a, .Name n p2] [] pos) (tE X.K G Wx (dIsi da t)) := by
  refine peW (pe_callB call_isi hg hm (by decide +kernel) (pa_cons ha (pa_cons (pe_bltn (v := .ty (tyOf t)) hg2 hm2 hv2 rfl hn2 hd2) pa_nil) hs) (he := hs)) fun σ H Q h => ?_
  refine h.seq (f := fun _ _ x S1 => match isW S1 t x with
    | some b => .ok (W.bl b) S1
    | none => .no) fun ρ S env x H1 v a1 r1 f1 => ?_
  split at f1
  · rename_i b e
    obtain ⟨m, h1, h2⟩ := isi_ok a1.s r1 e
    exact ⟨v, .ty (tyOf t), _, _, b, rfl, .ty _, h1, h2, f1.ok a1.s (.bl b)⟩
  · exact f1.no_
/-- o.m(..), a list's method -/
theorem sMetL {m : Mt} {o : Expr} {do_ : Dn W} {n : Str} {id : String} {apos cpos : Pos} {es : List Expr} {dx : Dn (List W)} (slot : Slot "list" n id) (hty : typeOf (.builtin id) = pure (.type "method_descriptor")) (hm : MtM X id (rMet X.K G m)) (h0 : mtTy m = 0)
    (ho : PE X o (tE X.K G Wx do_)) (ha : PA X (e :: es) (tA X.K G Wx dx)) (hbase : attributeBase o n X.env (eval o X.env) = eval o X.env)
    (hfew : ((backTo cpos (starEach (e :: es) X.env)).all (fun x => !x.1) && (backToKw cpos (keywordEach [] X.env)).all (fun x => x.1.isSome)
      && decide ((e :: es).length + ([] : List Keyword).length + (if ([] : List Keyword).isEmpty then 0 else 1) < 30)) = true)
    (hline : (apos.endLine == cpos.line) = true) (hs : starEach (e :: es) X.env = (false, eval e X.env) :: starEach es X.env) (hplain : (backTo cpos (starEach es X.env)).any (·.1) = false) :
    PE X (.Call (.Attribute o n apos) (e :: es) [] cpos) (tE X.K G Wx (dMet m do_ dx)) := by
  refine peW (pe_bm PySem.F.plainAttrs_list slot hty hm ho ha hbase hfew hline hs hplain) fun σ H Q h => ?_
  refine h.seq (f := fun cl env x S1 => if recOk m S1 x then (dx cl env S1).bind fun vs S2 => metW m x vs S2 else .no) fun ρ S env x H1 v a1 r1 f1 => ?_
  by_cases hr : recOk m S x = true
  · rw [if_pos hr] at f1
    refine ⟨recL a1.s r1 hr h0, ρ, S, env, a1.s, a1.e, f1.bind fun ws S2 ρ2 H2 vs _ x2 s2 r2 f2 => ?_⟩
    exact ⟨ρ2, S2, x, ws, _, s2, r1.ext a1.s x2, r2, f2⟩
  · rw [if_neg hr] at f1
    exact f1.no_
end
end Pv
set_option autoImplicit false
set_option Elab.async false
set_option linter.all false
set_option maxRecDepth 100000
set_option maxHeartbeats 2000000
/-! Calls, targets, what is walked, comprehensions. -/
namespace Pv
open PySem PySem.Spec PyProof.Rows L2

/-! ### states that agree but for some slots -/
def Agr (av : Nat → Bool) (σ σ' : L2.St) : Prop := σ.length = σ'.length ∧ ∀ i, av i = false → σ[i]? = σ'[i]?
theorem Agr.refl (av : Nat → Bool) (σ : L2.St) : Agr av σ σ := ⟨rfl, fun _ _ => rfl⟩
theorem Agr.trans {av : Nat → Bool} {a b c : L2.St} (x : Agr av a b) (y : Agr av b c) : Agr av a c := ⟨x.1.trans y.1, fun i h => (x.2 i h).trans (y.2 i h)⟩
theorem Agr.symm {av : Nat → Bool} {a b : L2.St} (x : Agr av a b) : Agr av b a := ⟨x.1.symm, fun i h => (x.2 i h).symm⟩
theorem Agr.set {av : Nat → Bool} {σ : L2.St} {i : Nat} {v : Option V} (h : av i = true) : Agr av σ (σ.set i v) := ⟨by rw [List.length_set], fun j hj => by
  rw [List.getElem?_set_ne fun z => by rw [z, hj] at h; cases h]⟩
/-- errors are told of alike -/
def Flat (av : Nat → Bool) (Wx : WX) : Prop := ∀ cls d σ σ' H, Agr av σ σ' → Wx cls d σ H → Wx cls d σ' H
theorem Flat.none (av : Nat → Bool) : Flat av (fun _ _ _ _ => False) := fun _ _ _ _ _ _ h => h
section
variable {K : PySem.W.Frag} {G : Gp} {α β γ δ : Type} {rel rel' : List Addr → Hp → α → β → Prop} {ρ ρ' : List Addr} {H H' : Hp} {r : R α} {E E' : XK} {Q : β → Hp → Prop}
theorem Fin.conv (h : Fin K G rel ρ H r Q E) (hr : ∀ ρ H a b, rel' ρ H a b → rel ρ H a b) (he : ∀ cls d H, E cls d H → E' cls d H) : Fin K G rel' ρ H r Q E' := by
  cases r with
  | ok a S' => exact fun ρ' H' b e s q => h ρ' H' b e s (hr _ _ _ _ q)
  | er c f S' => exact fun ρ' H' cls d e s q => he _ _ _ (h ρ' H' cls d e s q)
  | no => exact h
end
abbrev relA (K : PySem.W.Frag) (G : Gp) (av : Nat → Bool) (σ : L2.St) : List Addr → Hp → En → L2.St → Prop := fun ρ H env σ' => ER K G.gad ρ H env σ' ∧ Agr av σ σ'
/-- a target's reading -/
def gD (K : PySem.W.Frag) (G : Gp) (Wx : WX) (av : Nat → Bool) (t : At) : TG := fun v σ H Q => ∃ ρ S env w, SR K G.gad ρ S H ∧ ER K G.gad ρ H env σ ∧ RW K G.gad ρ H w v ∧ Fin K G (relA K G av σ) ρ H (t w G.cl env S) Q (eW Wx σ)
def gsD (K : PySem.W.Frag) (G : Gp) (Wx : WX) (av : Nat → Bool) (t : Ats) : TGs := fun vs σ H Q => ∃ ρ S env ws, SR K G.gad ρ S H ∧ ER K G.gad ρ H env σ ∧ RWs K G.gad ρ H ws vs ∧ Fin K G (relA K G av σ) ρ H (t ws G.cl env S) Q (eW Wx σ)
section
variable {X : Cx} {G : Gp} {Wx : WX} {av : Nat → Bool} {pos : Pos}
theorem gName' {i : Nat} {x : Str} (hN : X.N.Nodup) (hi : X.N[i]? = some x) (hl : L2.Loc X.env.scope x) (hf : X.fn x = true ∨ List.lookup x X.env.scope.names = some NameKind.local) (ha : av i = true) :
    PG X (.Name x pos) (gD X.K G Wx av (aNm i)) := pgW (pg_name hN hi hl hf) fun v σ H Q ⟨ρ, S, env, w, sr, er, r, f⟩ => Fin.ok (a := env.set i (some w)) (S := S) f sr ⟨er.set r i, .set ha⟩
theorem gsNil : PGs X [] (gsD X.K G Wx av aNil) := pgsW pgs_nil fun vs σ H Q ⟨ρ, S, env, ws, sr, er, r, f⟩ => by
  cases r with
  | nil => exact ⟨rfl, Fin.ok (a := env) (S := S) f sr ⟨er, .refl _ _⟩⟩
  | cons _ _ => exact False.elim f
theorem gsCons {e : Expr} {es : List Expr} {t : At} {u : Ats} (fl : Flat av Wx) (h : PG X e (gD X.K G Wx av t)) (hr : PGs X es (gsD X.K G Wx av u))
    (hs : List.map (fun x => x.snd) (assignEach (e :: es) X.env) = assign e X.env :: List.map (fun x => x.snd) (assignEach es X.env)) : PGs X (e :: es) (gsD X.K G Wx av (aCons t u)) :=
  pgsW (pgs_cons h hr hs) fun vs σ H Q ⟨ρ, S, env, ws, sr, er, r, f⟩ => by
    cases r with
    | nil => exact False.elim f
    | cons r rs => exact ⟨_, _, rfl, ρ, S, env, _, sr, er, r, Fin.bind (f := fun env1 S1 => u _ G.cl env1 S1) f fun env1 S1 ρ1 H1 σ1 _ x s e1 f1 =>
        ⟨ρ1, S1, env1, _, s, e1.1, rs.ext sr x, f1.conv (fun _ _ _ _ q => ⟨q.1, e1.2.trans q.2⟩) fun _ _ _ z => fl _ _ _ _ _ e1.2 z⟩⟩
theorem gTp {es : List Expr} {k n : Nat} {t : Ats} (hc : X.calm = true) (h : PGs X es (gsD X.K G Wx av t)) (hn2 : (assignEach es X.env).length = n) (hf : List.findIdx? (fun x => x.fst) (assignEach es X.env) = none) : PG X (.Tuple es k pos) (gD X.K G Wx av (aTp n t)) :=
  pgW (pg_tup (n := n) hc h hn2 hf) fun v σ H Q ⟨ρ, S, env, w, sr, er, r, f⟩ => by
    cases r with
    | @tup a ws vs hq rs =>
      have f : Fin X.K G (relA X.K G av σ) ρ H (if ws.length = n then t ws G.cl env S else .no) Q (eW Wx σ) := f
      by_cases hl : ws.length = n
      · rw [if_pos hl] at f
        exact ⟨_, _, rfl, hq, by rw [← rs.length]; exact hl, ρ, S, env, _, sr, er, rs, f⟩
      · rw [if_neg hl] at f
        exact f.no_
    | _ => exact False.elim f
theorem gSub' {o i : Expr} {do_ di : Dn W} (ho : PE X o (tE X.K G Wx do_)) (hi : PE X i (tE X.K G Wx di)) (ha : ∀ (v : Value), assign (o.Subscript i pos) X.env v = do
    let ov ← holding [v] (eval o X.env)
    let iv ← holding [v, ov] (eval i X.env)
    standAt pos
    holding [v, ov, iv] (setItem ov iv v)
    release [v, ov, iv] []) : PG X (o.Subscript i pos) (gD X.K G Wx av (aSub do_ di)) :=
  pgW (pg_sub ho hi set_list ha) fun v σ H Q ⟨ρ, S, env, w, sr, er, r, f⟩ => by
    refine ⟨ρ, S, env, sr, er, Fin.bind (f := fun x S1 => (di G.cl env S1).bind fun k S2 => match x, k with
      | .ref r, .int j => (match S2[r]? with
        | some (.lst ws) => (match L2.ixN ws.length j with
          | some m => .ok env (S2.set r (.lst (ws.set m w)))
          | none => .no)
        | _ => .no)
      | _, _ => .no) f fun x S1 ρ1 H1 u _ x1 s1 r1 f1 => ?_⟩
    refine ⟨ρ1, S1, env, s1, er.ext sr x1, f1.bind fun k S2 ρ2 H2 u2 _ x2 s2 r2 f2 => ?_⟩
    have r' := (r.ext sr x1).ext s1 x2
    have r1' := r1.ext s1 x2
    have er' := (er.ext sr x1).ext s1 x2
    cases r1' with
    | ref hr =>
      cases r2 with
      | int j =>
        dsimp only at f2
        split at f2
        · rename_i ws hS
          split at f2
          · rename_i m hm
            obtain ⟨b, vs, h1, h2, h3⟩ := s2.lst hS
            rw [hr] at h1; cases h1
            refine ⟨_, vs, j, m, rfl, rfl, h2, by rw [← h3.length]; exact hm, ?_⟩
            obtain ⟨s3, x3⟩ := s2.write (o := .lst (ws.set m w)) (ho := .lst (vs.set m v)) hr fun x3 => ⟨_, upd_same, (h3.ext s2 x3).set (r'.ext s2 x3) m⟩
            exact f2 _ _ _ x3 s3 ⟨er'.ext s2 x3, .refl _ _⟩
          · exact f2.no_
        · exact f2.no_
      | _ => exact f2.no_
    | _ => exact f2.no_
/-! ### calls -/
def spF (K : PySem.W.Frag) (G : Gp) (f : Nat) : Sp := fun vs H Q E => ∃ ρ S ws, SR K G.gad ρ S H ∧ RWs K G.gad ρ H ws vs ∧ Fin K G (relW K G) ρ H (G.cl f ws S) Q E
theorem sCall {f : Nat} {k : Nat} {fd : FuncData} {ps : List Str} {n : Str} {p : Pos} {e : Expr} {es : List Expr} {dx : Dn (List W)} (hF : FnOk X.prog X.w X.K X.mg X.base (CX X.prog X.w) k (G.gad f) fd ps (spF X.K G f)) (hR : Room k X.A)
    (hg : Gl X n) (hm : X.mg n = some (.ref (G.gad f))) (hk : W.keepIn X.K (.ref (G.gad f)) = true) (hb : L2.Binds X.K fd ps []) (tk : Takes X Wx) (ha : PA X (e :: es) (tA X.K G Wx dx)) (hd : (n == ("__debug__" : Str)) = false)
    (hs : starEach (e :: es) X.env = (false, eval e X.env) :: starEach es X.env) (hpl : (backTo pos (starEach es X.env)).any (·.1) = false) : PE X (.Call (.Name n p) (e :: es) [] pos) (tE X.K G Wx (dCall f dx)) :=
  peW (pe_callS hF hR hg hm hk hb (fun σ => passAt tk σ) ha hd hs hpl) fun σ H Q h => h.seq (f := fun cl _ vs S1 => cl f vs S1) fun ρ S env ws H1 vs a1 r1 f1 => ⟨ρ, S, ws, a1.s, r1, f1⟩
end
/-! ### what is walked -/
section
variable {K : PySem.W.Frag} {gad : Nat → Addr}
theorem beqW_eq : ∀ {a b : W}, beqW a b = true → a = b := by
  intro a b
  suffices h : (∀ a b, beqW a b = true → a = b) by exact h a b
  intro a
  refine W.rec (motive_1 := fun a => ∀ b, beqW a b = true → a = b) (motive_2 := fun a => ∀ b, beqWs a b = true → a = b) ?_ ?_ ?_ ?_ ?_ ?_ ?_ ?_ ?_ ?_ a
  · intro b h; cases b <;> first | rfl | (simp [beqW] at h)
  · intro x b h; cases b <;> simp_all [beqW]
  · intro x b h; cases b <;> simp_all [beqW]
  · intro x b h; cases b <;> simp_all [beqW]
  · intro x ih b h; cases b <;> simp_all [beqW]; exact ih _ h
  · intro x ih b h; cases b <;> simp_all [beqW]; exact ih _ h
  · intro x b h; cases b <;> simp_all [beqW]
  · intro x b h; cases b <;> simp_all [beqW]
  · intro b h; cases b <;> simp_all [beqWs]
  · intro x xs ih ih2 b h; cases b <;> simp_all [beqWs]; exact ⟨ih _ h.1, ih2 _ h.2⟩
theorem beqWs_eq : ∀ {a b : List W}, beqWs a b = true → a = b
  | [], [], _ => rfl
  | [], _ :: _, h => by simp [beqWs] at h
  | _ :: _, [], h => by simp [beqWs] at h
  | x :: xs, y :: ys, h => by
    simp only [beqWs, Bool.and_eq_true] at h
    rw [beqW_eq h.1, beqWs_eq h.2]
theorem chkOk_get {chk : List (Nat × List W)} {S : Sto} (h : chkOk chk S = true) {r : Nat} {ws : List W} (m : (r, ws) ∈ chk) : S[r]? = some (.lst ws) := by
  unfold chkOk at h
  have z := List.all_eq_true.mp h _ m
  dsimp only at z
  split at z
  · rename_i us e
    rw [e, beqWs_eq z]
  · cases z
/-- where a turn may stand -/
def Gd (K : PySem.W.Frag) (gad : Nat → Addr) (ρ : List Addr) (H : Hp) (chk : List (Nat × List W)) (H' : Hp) : Prop := ∃ ρ' S', Ext ρ H ρ' H' ∧ SR K gad ρ' S' H' ∧ chkOk chk S' = true
/-- what a turn gives -/
def Gv (K : PySem.W.Frag) (gad : Nat → Addr) (ρ : List Addr) (H : Hp) (I : Its) (i : Nat) (H' : Hp) (x : V) (H'' : Hp) : Prop := ∀ ρ' S', Ext ρ H ρ' H' → SR K gad ρ' S' H' → chkOk I.chk S' = true → ∃ w, I.items[i]? = some w ∧ Ext ρ' H' ρ' H'' ∧ SR K gad ρ' S' H'' ∧ RW K gad ρ' H'' w x
def relI (K : PySem.W.Frag) (G : Gp) : List Addr → Hp → Its → L2.It → Prop := fun ρ H I J => Walk J I.items.length (Gd K G.gad ρ H I.chk) (Gv K G.gad ρ H I)
abbrev tIt (K : PySem.W.Frag) (G : Gp) (Wx : WX) (d : Dn Its) : TI := tD K G (relI K G) Wx d
/-- a sequence as a thing to walk: a list (or one never changed), or a tuple -/
theorem seqI_rel {ρ : List Addr} {S : Sto} {H : Hp} {w : W} {v : V} {I : Its} (s : SR K gad ρ S H) (r : RW K gad ρ H w v) (e : seqI S w = some I) :
    ∃ a, v = .ref a ∧ (((∃ xs, SqL K H a xs) ∧ (∀ ρ' S' H', Ext ρ H ρ' H' → SR K gad ρ' S' H' → chkOk I.chk S' = true → ∃ vs, SqL K H' a vs ∧ RWs K gad ρ' H' I.items vs)) ∨
      ((∃ xs, SqT K H a xs) ∧ (∀ ρ' S' H', Ext ρ H ρ' H' → SR K gad ρ' S' H' → chkOk I.chk S' = true → ∃ vs, SqT K H' a vs ∧ RWs K gad ρ' H' I.items vs))) := by
  cases r with
  | tup h q =>
    cases e
    exact ⟨_, rfl, .inr ⟨⟨_, h⟩, fun ρ' S' H' x _ _ => ⟨_, sqT_ext s x h, q.ext s x⟩⟩⟩
  | frl h q =>
    cases e
    exact ⟨_, rfl, .inl ⟨⟨_, h.sq⟩, fun ρ' S' H' x _ _ => ⟨_, (frL_ext s x h).sq, q.ext s x⟩⟩⟩
  | @ref a i h =>
    have e : (match S[i]? with
      | some (.lst ws) => some (⟨[(i, ws)], ws⟩ : Its)
      | _ => none) = some I := e
    split at e
    · rename_i ws hS
      cases e
      obtain ⟨b, vs, h1, h2, h3⟩ := s.lst hS
      rw [h] at h1; cases h1
      refine ⟨_, rfl, .inl ⟨⟨vs, .inl (.inl h2)⟩, fun ρ' S' H' x s' c => ?_⟩⟩
      have g := chkOk_get c (r := i) (ws := ws) (by simp)
      obtain ⟨c, us, g1, g2, g3⟩ := s'.lst g
      rw [x.get h] at g1; cases g1
      exact ⟨us, .inl (.inl g2), g3⟩
    · cases e
  | _ => cases e
end
section
variable {X : Cx} {G : Gp} {Wx : WX} {pos : Pos} {tg : Expr}
theorem walkL {K : PySem.W.Frag} {gad : Nat → Addr} {ρ : List Addr} {H : Hp} {I : Its} {a : Addr} (h : ∀ ρ' S' H', Ext ρ H ρ' H' → SR K gad ρ' S' H' → chkOk I.chk S' = true → ∃ vs, SqL K H' a vs ∧ RWs K gad ρ' H' I.items vs) :
    Walk (Itl K a) I.items.length (Gd K gad ρ H I.chk) (Gv K gad ρ H I) where
  goes := fun i H' hi ⟨ρ', S', x, s, c⟩ => by
    obtain ⟨vs, q, r⟩ := h ρ' S' H' x s c
    have hl : i < vs.length := by rw [← r.length]; exact hi
    exact ⟨vs, _, q, List.getElem?_eq_getElem hl⟩
  stops := fun H' ⟨ρ', S', x, s, c⟩ => by
    obtain ⟨vs, q, r⟩ := h ρ' S' H' x s c
    exact ⟨vs, q, by rw [← r.length]; exact Nat.le_refl _⟩
  yields := fun i H' v H'' hi _ y ρ' S' x s c => by
    obtain ⟨rfl, y⟩ := y
    obtain ⟨vs, q, r⟩ := h ρ' S' _ x s c
    obtain ⟨u, e1, e2⟩ := r.get (List.getElem?_eq_getElem hi)
    have := y vs q
    rw [e1] at this; cases this
    exact ⟨_, List.getElem?_eq_getElem hi, .refl _ _, s, e2⟩
theorem walkT {K : PySem.W.Frag} {gad : Nat → Addr} {ρ : List Addr} {H : Hp} {I : Its} {a : Addr} (h : ∀ ρ' S' H', Ext ρ H ρ' H' → SR K gad ρ' S' H' → chkOk I.chk S' = true → ∃ vs, SqT K H' a vs ∧ RWs K gad ρ' H' I.items vs) :
    Walk (Itt K a) I.items.length (Gd K gad ρ H I.chk) (Gv K gad ρ H I) where
  goes := fun i H' hi ⟨ρ', S', x, s, c⟩ => by
    obtain ⟨vs, q, r⟩ := h ρ' S' H' x s c
    have hl : i < vs.length := by rw [← r.length]; exact hi
    exact ⟨vs, _, q, List.getElem?_eq_getElem hl⟩
  stops := fun H' ⟨ρ', S', x, s, c⟩ => by
    obtain ⟨vs, q, r⟩ := h ρ' S' H' x s c
    exact ⟨vs, q, by rw [← r.length]; exact Nat.le_refl _⟩
  yields := fun i H' v H'' hi _ y ρ' S' x s c => by
    obtain ⟨rfl, y⟩ := y
    obtain ⟨vs, q, r⟩ := h ρ' S' _ x s c
    obtain ⟨u, e1, e2⟩ := r.get (List.getElem?_eq_getElem hi)
    have := y vs q
    rw [e1] at this; cases this
    exact ⟨_, List.getElem?_eq_getElem hi, .refl _ _, s, e2⟩
theorem iSeq {e : Expr} {d : Dn W} (h : PE X e (tE X.K G Wx d)) : PI X tg e (tIt X.K G Wx (dItSeq d)) := by
  refine piW (piOr (pi_list h) (pi_tup h)) fun σ H R h0 => ?_
  obtain ⟨ρ, S, env, sr, er, f0⟩ := h0
  cases hd : d G.cl env S with
  | no =>
    have f1 : Fin X.K G (relI X.K G) ρ H ((d G.cl env S).bind fun x S1 => .opt S1 (seqI S1 x)) R (eW Wx σ) := f0
    rw [hd] at f1; exact f1.no_
  | er c f S' =>
    have f1 : Fin X.K G (relI X.K G) ρ H ((d G.cl env S).bind fun x S1 => .opt S1 (seqI S1 x)) R (eW Wx σ) := f0
    rw [hd] at f1
    exact .inl ⟨ρ, S, env, sr, er, by rw [hd]; exact f1⟩
  | ok w S' =>
    have f1 : Fin X.K G (relI X.K G) ρ H ((d G.cl env S).bind fun x S1 => .opt S1 (seqI S1 x)) R (eW Wx σ) := f0
    rw [hd] at f1
    have f2 : Fin X.K G (relI X.K G) ρ H (.opt S' (seqI S' w)) R (eW Wx σ) := f1
    obtain ⟨I, e, f3⟩ := f2.opt
    have fin : ∀ ρ' H' v, Ext ρ H ρ' H' → SR X.K G.gad ρ' S' H' → RW X.K G.gad ρ' H' w v → _ := fun ρ' H' v x s r => (And.intro (seqI_rel s r e) (Fin.ext (r := .ok I S') f3 x))
    by_cases ht : (∃ ws, w = W.tup ws)
    · refine .inr ⟨ρ, S, env, sr, er, ?_⟩
      rw [hd]
      intro ρ' H' v x s r
      obtain ⟨⟨a, ev, q⟩, f4⟩ := fin ρ' H' v x s r
      obtain ⟨ws, rfl⟩ := ht
      cases r with
      | tup hq rs =>
        cases ev
        cases e
        refine ⟨_, rfl, ⟨_, hq⟩, f4 _ _ _ (.refl _ _) s (walkT fun ρ2 S2 H2 x2 _ _ => ⟨_, sqT_ext s x2 hq, rs.ext s x2⟩)⟩
    · refine .inl ⟨ρ, S, env, sr, er, ?_⟩
      rw [hd]
      intro ρ' H' v x s r
      obtain ⟨⟨a, ev, q⟩, f4⟩ := fin ρ' H' v x s r
      subst ev
      cases w with
      | tup ws => exact (ht ⟨ws, rfl⟩).elim
      | frl ws =>
        cases r with
        | frl hq rs =>
          cases e
          exact ⟨_, rfl, ⟨_, hq.sq⟩, f4 _ _ _ (.refl _ _) s (walkL fun ρ2 S2 H2 x2 _ _ => ⟨_, (frL_ext s x2 hq).sq, rs.ext s x2⟩)⟩
      | ref i =>
        rcases q with ⟨q1, q2⟩ | ⟨q1, q2⟩
        · exact ⟨a, rfl, q1, f4 _ _ _ (.refl _ _) s (walkL q2)⟩
        · cases r with
          | ref hr =>
            have e' : (match S'[i]? with
              | some (.lst ws) => some (⟨[(i, ws)], ws⟩ : Its)
              | _ => none) = some I := e
            split at e'
            · rename_i ws hS
              cases e'
              obtain ⟨b, vs, h1, h2, h3⟩ := s.lst hS
              rw [hr] at h1; cases h1
              refine ⟨_, rfl, ⟨vs, .inl (.inl h2)⟩, f4 _ _ _ (.refl _ _) s (walkL fun ρ2 S2 H2 x2 s2 c2 => ?_)⟩
              have g := chkOk_get c2 (r := i) (ws := ws) (by simp)
              obtain ⟨c, us, g1, g2, g3⟩ := s2.lst g
              rw [x2.get hr] at g1; cases g1
              exact ⟨us, .inl (.inl g2), g3⟩
            · cases e'
      | _ => cases e
theorem rngW_len (c : Int) : ∀ (n : Nat) (lo : Int), (rngW lo c n).length = n
  | 0, _ => rfl
  | n + 1, lo => by rw [rngW, List.length_cons, rngW_len]
theorem rngW_get (c : Int) : ∀ (n : Nat) (lo : Int) (i : Nat), i < n → (rngW lo c n)[i]? = some (.int (lo + (i : Nat) * c))
  | 0, _, _, h => absurd h (Nat.not_lt_zero _)
  | n + 1, lo, 0, _ => by simp [rngW]
  | n + 1, lo, i + 1, h => by
    rw [rngW, List.getElem?_cons_succ, rngW_get c n (lo + c) i (Nat.lt_of_succ_lt_succ h)]
    congr 2
    rw [Int.natCast_add, Int.add_mul]
    simp
    omega
theorem walkR {K : PySem.W.Frag} {G : Gp} {ρ : List Addr} {H : Hp} {lo : Int} {n : Nat} : relI K G ρ H ⟨[], rngW lo 1 n⟩ (Itr lo n) := by
  have z := walk_range (lo := lo) (n := n)
  refine ⟨fun i H' hi _ => z.goes i H' (by rw [← rngW_len 1 n lo]; exact hi) trivial, fun H' _ => ?_, fun i H' v H'' hi _ y ρ' S' x s c => ?_⟩
  · rw [show ((⟨[], rngW lo 1 n⟩ : Its).items).length = n from rngW_len 1 n lo]
    exact z.stops H' trivial
  · have hi' : i < n := by rw [← rngW_len 1 n lo]; exact hi
    obtain ⟨e1, e2⟩ := z.yields i H' v H'' hi' trivial y
    subst e1 e2
    refine ⟨.int (lo + (i : Nat) * 1), rngW_get 1 n lo i hi', .refl _ _, s, ?_⟩
    rw [Int.mul_one]
    exact .int _
theorem okB_ok {i : Int} (h : okB i = true) : -(2 ^ 62) ≤ i ∧ i < 2 ^ 62 := by
  unfold okB at h
  simp at h
  constructor <;> omega
theorem tD.one {K : PySem.W.Frag} {γ δ : Type} {rel2 : List Addr → Hp → γ → δ → Prop} {d : Dn W} {f : CL → En → W → Sto → R γ} {σ : L2.St} {H : Hp} {Q : δ → Hp → Prop} {Q1 : List V → Hp → Prop} (h : tD K G rel2 Wx (fun cl env S => (d cl env S).bind (f cl env)) σ H Q)
    (k : ∀ ρ S env a H' b, At0 K G ρ S env σ H' → RW K G.gad ρ H' a b → Fin K G rel2 ρ H' (f G.cl env a S) Q (eW Wx σ) → Q1 [b] H') : tA K G Wx (dCons d dNil) σ H Q1 := by
  obtain ⟨ρ, S, env, sr, er, f0⟩ := h
  refine ⟨ρ, S, env, sr, er, ?_⟩
  have f0 : Fin K G rel2 ρ H ((d G.cl env S).bind (f G.cl env)) Q (eW Wx σ) := f0
  show Fin K G (relWs K G) ρ H ((d G.cl env S).bind fun x S1 => .ok [x] S1) Q1 (eW Wx σ)
  cases hd : d G.cl env S with
  | no => rw [hd] at f0; exact f0.no_
  | er c g S' => rw [hd] at f0; exact f0
  | ok w S' =>
    rw [hd] at f0
    intro ρ' H' vs x s r
    cases r with
    | cons r rr =>
      cases rr
      exact k ρ' S' env w H' _ ⟨s, er.ext sr x⟩ r (Fin.ext (r := f G.cl env w S') f0 x)
theorem tD.two {K : PySem.W.Frag} {γ δ : Type} {rel2 : List Addr → Hp → γ → δ → Prop} {d d2 : Dn W} {f : W → W → Sto → R γ} {σ : L2.St} {H : Hp} {Q : δ → Hp → Prop} {Q1 : List V → Hp → Prop} (h : tD K G rel2 Wx (dSeq2 d d2 f) σ H Q)
    (k : ∀ ρ S env a a2 H' b b2, At0 K G ρ S env σ H' → RW K G.gad ρ H' a b → RW K G.gad ρ H' a2 b2 → Fin K G rel2 ρ H' (f a a2 S) Q (eW Wx σ) → Q1 [b, b2] H') : tA K G Wx (dCons d (dCons d2 dNil)) σ H Q1 := by
  obtain ⟨ρ, S, env, sr, er, f0⟩ := h
  refine ⟨ρ, S, env, sr, er, ?_⟩
  show Fin K G (relWs K G) ρ H ((d G.cl env S).bind fun x S1 => ((d2 G.cl env S1).bind fun y S2 => .ok [y] S2).bind fun xs S3 => .ok (x :: xs) S3) Q1 (eW Wx σ)
  have f0 : Fin K G rel2 ρ H ((d G.cl env S).bind fun x S1 => (d2 G.cl env S1).bind fun y S2 => f x y S2) Q (eW Wx σ) := f0
  cases hd : d G.cl env S with
  | no => rw [hd] at f0; exact f0.no_
  | er c g S' => rw [hd] at f0; exact f0
  | ok w S' =>
    rw [hd] at f0
    have f0 : Fin K G rel2 ρ H ((d2 G.cl env S').bind fun y S2 => f w y S2) Q (eW Wx σ) := f0
    show Fin K G (relWs K G) ρ H (((d2 G.cl env S').bind fun y S2 => .ok [y] S2).bind fun xs S3 => .ok (w :: xs) S3) Q1 (eW Wx σ)
    cases hd2 : d2 G.cl env S' with
    | no => rw [hd2] at f0; exact f0.no_
    | er c g S' => rw [hd2] at f0; exact f0
    | ok w2 S2 =>
      rw [hd2] at f0
      intro ρ' H' vs x s r
      cases r with
      | cons r rr =>
        cases rr with
        | cons r2 rr =>
          cases rr
          exact k ρ' S2 env w w2 H' _ _ ⟨s, er.ext sr x⟩ r r2 (Fin.ext (r := f w w2 S2) f0 x)
theorem iRng {p : Pos} {a : Expr} {d : Dn W} (hg : Gl X "range") (hm : X.mg "range" = none) (ha : PE X a (tE X.K G Wx d)) (hs : starEach [a] X.env = [(false, eval a X.env)]) :
    PI X tg (.Call (.Name "range" p) [a] [] pos) (tIt X.K G Wx (dItRng d)) := by
  refine piW (pi_range1 hg hm (pCons ha pNil hs) hs) fun σ H R h => ?_
  refine tD.one (f := fun _ _ x S1 => .opt S1 (rngI (.int 0) x)) h fun ρ S env a H' b a1 r1 f1 => ?_
  obtain ⟨I, e, f2⟩ := f1.opt
  cases r1 with
  | int j =>
    have e : (if okB 0 && okB j then some (⟨[], rngW 0 1 (j - 0).toNat⟩ : Its) else none) = some I := e
    by_cases hj : (okB 0 && okB j) = true
    · rw [if_pos hj] at e; cases e
      rw [Bool.and_eq_true] at hj
      obtain ⟨h1, h2⟩ := okB_ok hj.2
      refine ⟨j, rfl, h1, h2, f2.ok a1.s ?_⟩
      rw [Int.sub_zero]
      exact walkR
    · rw [if_neg hj] at e; cases e
  | _ => cases e
theorem iRng2' {p : Pos} {a b : Expr} {d d2 : Dn W} (hg : Gl X "range") (hm : X.mg "range" = none) (ha : PE X a (tE X.K G Wx d)) (hb : PE X b (tE X.K G Wx d2)) (hs : starEach [a, b] X.env = [(false, eval a X.env), (false, eval b X.env)]) (hs2 : starEach [b] X.env = [(false, eval b X.env)]) :
    PI X tg (.Call (.Name "range" p) [a, b] [] pos) (tIt X.K G Wx (dItRng2 d d2)) := by
  refine piW (pi_range2 hg hm (pCons ha (pCons hb pNil hs2) (hs.trans (by rw [hs2]))) hs hs2) fun σ H R h => ?_
  refine tD.two (f := fun x y S => .opt S (rngI x y)) h fun ρ S env a a2 H' b b2 a1 r1 r2 f1 => ?_
  obtain ⟨I, e, f2⟩ := f1.opt
  cases r1 with
  | int i =>
    cases r2 with
    | int j =>
      have e : (if okB i && okB j then some (⟨[], rngW i 1 (j - i).toNat⟩ : Its) else none) = some I := e
      by_cases hj : (okB i && okB j) = true
      · rw [if_pos hj] at e; cases e
        rw [Bool.and_eq_true] at hj
        obtain ⟨h1, h2⟩ := okB_ok hj.1
        obtain ⟨h3, h4⟩ := okB_ok hj.2
        exact ⟨i, j, rfl, ⟨h1, h2, h3, h4⟩, f2.ok a1.s walkR⟩
      · rw [if_neg hj] at e; cases e
    | _ => cases e
  | _ => cases e
end
end Pv
set_option autoImplicit false
set_option Elab.async false
set_option linter.all false
set_option maxRecDepth 100000
set_option maxHeartbeats 2000000
/-! enumerate, zip; comprehensions; statements. -/
namespace Pv
open PySem PySem.Spec PyProof.Rows L2

section
variable {X : Cx} {G : Gp} {Wx : WX} {pos : Pos} {tg : Expr}
theorem enuW_len : ∀ (ws : List W) (n : Nat), (enuW n ws).length = ws.length
  | [], _ => rfl
  | w :: r, n => by rw [enuW, List.length_cons, List.length_cons, enuW_len]
theorem enuW_get : ∀ (ws : List W) (n i : Nat) (w : W), ws[i]? = some w → (enuW n ws)[i]? = some (.tup [.int ((n + i : Nat) : Int), w])
  | [], _, _, _, h => by simp at h
  | w :: r, n, 0, u, h => by
    simp at h
    subst h
    rfl
  | w :: r, n, i + 1, u, h => by
    rw [enuW, List.getElem?_cons_succ, enuW_get r (n + 1) i u (by simpa using h)]
    rw [show n + 1 + i = n + (i + 1) by omega]
theorem zipW_len : ∀ (a b : List W), (zipW a b).length = min a.length b.length
  | [], b => by simp [zipW]
  | x :: a, [] => by simp [zipW]
  | x :: a, y :: b => by
    rw [zipW, List.length_cons, List.length_cons, List.length_cons, zipW_len]
    omega
theorem zipW_get : ∀ (a b : List W) (i : Nat) (x y : W), a[i]? = some x → b[i]? = some y → (zipW a b)[i]? = some (.tup [x, y])
  | [], _, _, _, _, h, _ => by simp at h
  | _ :: _, [], _, _, _, _, h => by simp at h
  | x :: a, y :: b, 0, u, v, h, k => by
    simp at h k
    subst h k
    rfl
  | x :: a, y :: b, i + 1, u, v, h, k => by
    rw [zipW, List.getElem?_cons_succ]
    exact zipW_get a b i u v (by simpa using h) (by simpa using k)
/-- a new pair that the store does not know -/
theorem pair_new {K : PySem.W.Frag} {gad : Nat → Addr} {ρ : List Addr} {S : Sto} {H : Hp} {T : Addr} {x y : V} {p q : W} (s : SR K gad ρ S H) (hT : H T = none) (r1 : RW K gad ρ H p x) (r2 : RW K gad ρ H q y) :
    Ext ρ H ρ (upd H T (.tup [x, y])) ∧ SR K gad ρ S (upd H T (.tup [x, y])) ∧ RW K gad ρ (upd H T (.tup [x, y])) (.tup [p, q]) (.ref T) := by
  obtain ⟨s', e⟩ := s.fresh (ho := .tup [x, y]) hT
  exact ⟨e, s', .tup (.inl (.inl upd_same)) (.cons (r1.ext s e) (.cons (r2.ext s e) .nil))⟩
theorem seqI_chk0 {S : Sto} {w : W} {I : Its} (e : seqI S w = some I) : chkOk I.chk S = true := by
  unfold seqI at e
  split at e
  · cases e; rfl
  · cases e; rfl
  · split at e
    · rename_i ws hS
      cases e
      unfold chkOk
      simp only [List.all_cons, List.all_nil, Bool.and_true]
      rw [hS]
      dsimp only
      clear hS
      suffices h : ∀ w : W, beqW w w = true by
        induction ws with
        | nil => rfl
        | cons a r ih => simp [beqWs, h a, ih]
      intro w
      refine W.rec (motive_1 := fun w => beqW w w = true) (motive_2 := fun ws => beqWs ws ws = true) ?_ ?_ ?_ ?_ ?_ ?_ ?_ ?_ ?_ ?_ w <;> simp_all [beqW, beqWs]
    · cases e
  · cases e
end
/-! ### comprehensions -/
section
variable {K : PySem.W.Frag} {gad : Nat → Addr} {ρ ρ' : List Addr} {H H' : Hp} {S : Sto} {D : Addr}
mutual
theorem RW.map (hρ : ∀ (i : Nat) (a : Addr), ρ[i]? = some a → ρ'[i]? = some a) (hT : ∀ a vs, SqT K H a vs → SqT K H' a vs) (hF : ∀ a vs, FrL K H a vs → FrL K H' a vs) : ∀ {w : W} {v : V}, RW K gad ρ H w v → RW K gad ρ' H' w v
  | _, _, .non => .non
  | _, _, .bl b => .bl b
  | _, _, .int i => .int i
  | _, _, .str y => .str y
  | _, _, .tup h r => .tup (hT _ _ h) (RWs.map hρ hT hF r)
  | _, _, .frl h r => .frl (hF _ _ h) (RWs.map hρ hT hF r)
  | _, _, .ref h => .ref (hρ _ _ h)
  | _, _, .glo g => .glo g
theorem RWs.map (hρ : ∀ (i : Nat) (a : Addr), ρ[i]? = some a → ρ'[i]? = some a) (hT : ∀ a vs, SqT K H a vs → SqT K H' a vs) (hF : ∀ a vs, FrL K H a vs → FrL K H' a vs) : ∀ {ws : List W} {vs : List V}, RWs K gad ρ H ws vs → RWs K gad ρ' H' ws vs
  | _, _, .nil => .nil
  | _, _, .cons r t => .cons (RW.map hρ hT hF r) (RWs.map hρ hT hF t)
end
theorem RO.map (hρ : ∀ (i : Nat) (a : Addr), ρ[i]? = some a → ρ'[i]? = some a) (hT : ∀ a vs, SqT K H a vs → SqT K H' a vs) (hF : ∀ a vs, FrL K H a vs → FrL K H' a vs) {a : Addr} (e : H' a = H a) {o : O} (r : RO K gad ρ H o a) : RO K gad ρ' H' o a := by
  cases o with
  | lst ws =>
    obtain ⟨vs, e1, q⟩ := r
    exact ⟨vs, e.trans e1, q.map hρ hT hF⟩
  | dct kvs =>
    obtain ⟨kv, e1, l, q⟩ := r
    refine ⟨kv, e.trans e1, l, fun i p hp => ?_⟩
    obtain ⟨k, v, a1, a2, a3⟩ := q i p hp
    exact ⟨k, v, a1, a2, a3.map hρ hT hF⟩
  | ins c fs => exact r
theorem sqT_upd {l l' : List V} (hD : H D = some (.lst l)) : ∀ a vs, SqT K H a vs → SqT K (upd H D (.lst l')) a vs := fun a vs h => by
  have ne : ∀ {o}, H a = some o → (∀ l, o ≠ .lst l) → a ≠ D := fun e n z => by rw [z, hD] at e; cases e; exact n _ rfl
  rcases h with (h | ⟨o, h⟩) | h
  · exact .inl (.inl (by rw [upd_ne (ne h fun _ z => nomatch z)]; exact h))
  · exact .inl (.inr ⟨o, by rw [upd_ne (ne h fun _ z => nomatch z)]; exact h⟩)
  · exact .inr h
theorem frL_upd {l l' : List V} (hD : H D = some (.lst l)) : ∀ a vs, FrL K H a vs → FrL K (upd H D (.lst l')) a vs := fun a vs h => by
  rcases h with ⟨o, h⟩ | h
  · exact .inl ⟨o, by rw [upd_ne fun z => by rw [z, hD] at h; cases h]; exact h⟩
  · exact .inr h
theorem SR.other (s : SR K gad ρ S H) {l l' : List V} (hD : H D = some (.lst l)) (hn : D ∉ ρ) : SR K gad ρ S (upd H D (.lst l')) := ⟨s.len, s.nd, fun i o e => by
  obtain ⟨b, e1, r⟩ := s.at_ i o e
  exact ⟨b, e1, RO.map (o := o) (fun _ _ h => h) (sqT_upd hD) (frL_upd hD) (upd_ne fun z => hn (by rw [← z]; exact List.mem_of_getElem? e1)) r⟩⟩
theorem SR.adopt (s : SR K gad ρ S H) {vs : List V} {ws : List W} (hD : H D = some (.lst vs)) (hn : D ∉ ρ) (r : RWs K gad ρ H ws vs) : SR K gad (ρ ++ [D]) (S ++ [.lst ws]) H := by
  have hρ : ∀ (i : Nat) (a : Addr), ρ[i]? = some a → (ρ ++ [D])[i]? = some a := fun i a h => by
    rw [List.getElem?_append_left (List.getElem?_eq_some_iff.mp h).1]
    exact h
  refine ⟨by rw [List.length_append, List.length_append, s.len, List.length_singleton, List.length_singleton], ?_, fun i o e => ?_⟩
  · rw [List.nodup_append]
    exact ⟨s.nd, by simp, fun b hb c hc => by rw [List.mem_singleton.mp hc]; exact fun z => hn (z ▸ hb)⟩
  · by_cases hi : i < S.length
    · rw [List.getElem?_append_left hi] at e
      obtain ⟨b, e1, q⟩ := s.at_ i o e
      exact ⟨b, hρ _ _ e1, RO.map (o := o) hρ (fun _ _ h => h) (fun _ _ h => h) rfl q⟩
    · have hi2 : i = S.length := by
        have := (List.getElem?_eq_some_iff.mp e).1
        rw [List.length_append, List.length_singleton] at this
        omega
      subst hi2
      rw [List.getElem?_append_right (Nat.le_refl _), Nat.sub_self] at e
      have e' : O.lst ws = o := Option.some.inj e
      subst e'
      exact ⟨D, by rw [← s.len, List.getElem?_append_right (Nat.le_refl _), Nat.sub_self]; rfl, vs, hD, r.map hρ (fun _ _ h => h) (fun _ _ h => h)⟩
end
theorem wipe_get : ∀ (σ : L2.St) (vs : List Nat) (i : Nat), (wipe σ vs)[i]? = if i ∈ vs ∧ i < σ.length then some none else σ[i]?
  | σ, [], i => by simp [wipe]
  | σ, v :: vs, i => by
    have h := wipe_get σ vs i
    have hl : (wipe σ vs).length = σ.length := wipe_length σ vs
    show ((wipe σ vs).set v none)[i]? = _
    by_cases hv : i = v
    · subst hv
      by_cases hi : i < σ.length
      · rw [List.getElem?_set_self (by rw [hl]; exact hi), if_pos ⟨by simp, hi⟩]
      · rw [List.getElem?_eq_none (by rw [List.length_set, hl]; omega), if_neg (fun z => hi z.2), List.getElem?_eq_none (by omega)]
    · rw [List.getElem?_set_ne (Ne.symm hv), h]
      simp [hv]
def avOf (vs : List Nat) : Nat → Bool := fun i => vs.contains i
theorem wipe_agr {vs : List Nat} {σ σ' : L2.St} (h : Agr (avOf vs) σ σ') : wipe σ' vs = wipe σ vs := by
  apply List.ext_getElem?
  intro i
  rw [wipe_get, wipe_get, h.1]
  by_cases hi : i ∈ vs
  · by_cases hl : i < σ'.length
    · rw [if_pos ⟨hi, hl⟩, if_pos ⟨hi, hl⟩]
    · rw [if_neg fun z => hl z.2, if_neg fun z => hl z.2, List.getElem?_eq_none (by omega), List.getElem?_eq_none (by rw [h.1]; omega)]
  · rw [if_neg fun z => hi z.1, if_neg fun z => hi z.1]
    exact (h.2 i (by unfold avOf; simpa using hi)).symm
theorem wipe_wipe (vs : List Nat) (σ : L2.St) : wipe (wipe σ vs) vs = wipe σ vs := by
  apply List.ext_getElem?
  intro i
  rw [wipe_get, wipe_get, wipe_length]
  split
  · rfl
  · rfl
/-- nothing is raised -/
abbrev W0 : WX := fun _ _ _ _ => False
section
variable {X : Cx} {G : Gp} {Wx : WX} {pos : Pos}
theorem le_lt {n : Nat} (h : n < lim) : n < sizeLine := le_lim (n := n + 1) h
theorem lcQ {vs : List Nat} {dI : Dn Its} {tG : At} {tC : Dn Bool} {dE : Dn W} {σ : L2.St} {H : Hp} {Q : VK} (h : tE X.K G Wx (dLc vs dI tG tC dE) σ H Q) :
    tLc (tIt X.K G Wx dI) (gD X.K G W0 (avOf vs) tG) (tT X.K G W0 tC) (tE X.K G W0 dE) vs σ H Q := by
  obtain ⟨ρ, S, env, sr, er, f⟩ := h
  refine ⟨ρ, S, env, sr, er, Fin.bind (f := fun I S1 => (noErr (lcLoop I.chk tG tC dE G.cl (wipeE env vs) I.items [] S1)).bind fun ws S2 => new S2 (.lst ws)) f fun I S1 ρ1 H1 J _ x1 s1 r1 f1 => ?_⟩
  intro D hD
  have er1 := er.ext sr x1
  have erw := er1.wipe vs
  -- the loop's end
  let End : R (List W) → Prop := fun r => ∃ ws S2, r = .ok ws S2 ∧ ∀ ρ2 H2 wsv, Ext ρ1 H1 ρ2 H2 → SR X.K G.gad ρ2 S2 H2 → H2 D = some (.lst wsv) → D ∉ ρ2 → RWs X.K G.gad ρ2 H2 ws wsv → Q (.ref D) H2
  have e0 : End (lcLoop I.chk tG tC dE G.cl (wipeE env vs) I.items [] S1) := by
    cases h : lcLoop I.chk tG tC dE G.cl (wipeE env vs) I.items [] S1 with
    | no => rw [h] at f1; exact f1.no_
    | er c g S' => rw [h] at f1; exact f1.no_
    | ok ws S2 =>
      rw [h] at f1
      refine ⟨ws, S2, rfl, fun ρ2 H2 wsv x2 s2 hd hn rs => ?_⟩
      have f2 : Fin X.K G (relW X.K G) ρ1 H1 (.ok (.ref S2.length) (S2 ++ [.lst ws])) Q (eW Wx σ) := f1
      obtain ⟨more, em, hm⟩ := x2.ap
      refine f2 (ρ2 ++ [D]) H2 (.ref D) ⟨⟨more ++ [D], by rw [em, List.append_assoc], fun a ha => ?_⟩, x2.fr, x2.dom⟩ (s2.adopt hd hn rs) (.ref ?_)
      · rcases List.mem_append.mp ha with h | h
        · exact hm a h
        · rw [List.mem_singleton.mp h]; exact hD
      · rw [← s2.len, List.getElem?_append_right (Nat.le_refl _), Nat.sub_self]; rfl
  have hDρ : D ∉ ρ1 := fun hm => by
    obtain ⟨i, hi⟩ := List.mem_iff_getElem?.mp hm
    have hl : i < S1.length := by rw [← s1.len]; exact (List.getElem?_eq_some_iff.mp hi).1
    obtain ⟨b, e, r⟩ := s1.at_ i S1[i] (List.getElem?_eq_getElem hl)
    rw [hi] at e; cases e
    cases q : S1[i] with
    | lst ws => rw [q] at r; obtain ⟨_, e, _⟩ := r; rw [hD] at e; cases e
    | dct kvs => rw [q] at r; obtain ⟨_, e, _⟩ := r; rw [hD] at e; cases e
    | ins c fs => rw [q] at r; exact r
  refine lc_it r1 (fun i H' => ∃ ρ' S' acc accv, Ext ρ1 H1 ρ' H' ∧ SR X.K G.gad ρ' S' H' ∧ H' D = some (.lst accv) ∧ D ∉ ρ' ∧ RWs X.K G.gad ρ' H' acc accv ∧ End (lcLoop I.chk tG tC dE G.cl (wipeE env vs) (I.items.drop i) acc S')) ?_ ?_ ?_ ?_
  · obtain ⟨s2, x2⟩ := s1.fresh (ho := .lst []) hD
    exact ⟨ρ1, S1, [], [], x2, s2, upd_same, hDρ, .nil, e0⟩
  · rintro i H' hi ⟨ρ', S', acc, accv, x, s, hd, hn, rs, en⟩
    refine ⟨ρ', S', x, s, ?_⟩
    obtain ⟨ws, S2, en, _⟩ := en
    cases hk : chkOk I.chk S' with
    | true => rfl
    | false =>
      cases hdr : I.items.drop i with
      | nil => rw [hdr, lcLoop, if_neg (by rw [hk]; exact Bool.false_ne_true)] at en; cases en
      | cons w r => rw [hdr, lcLoop, if_neg (by rw [hk]; exact Bool.false_ne_true)] at en; cases en
  · rintro i xv H' H'' hi ⟨ρ', S', acc, accv, x, s, hd, hn, rs, en⟩ hy
    have hdr : I.items.drop i = I.items[i] :: I.items.drop (i + 1) := List.drop_eq_getElem_cons hi
    rw [hdr] at en
    obtain ⟨ws, S2, en, fin⟩ := en
    have hck : chkOk I.chk S' = true := by
      cases hk : chkOk I.chk S' with
      | true => rfl
      | false => rw [lcLoop, if_neg (by rw [hk]; exact Bool.false_ne_true)] at en; cases en
    rw [lcLoop, if_pos hck] at en
    obtain ⟨w, hw, x2, s2, rw2⟩ := hy ρ' S' x s hck
    rw [List.getElem?_eq_getElem hi] at hw
    cases hw
    have hd2 : H'' D = some (.lst accv) := x2.fr _ _ hd hn
    have erw2 := (erw.ext s1 x).ext s x2
    refine ⟨ρ', S', wipeE env vs, I.items[i], s2, erw2, rw2, ?_⟩
    cases h1 : tG I.items[i] G.cl (wipeE env vs) S' with
    | no => rw [h1] at en; cases en
    | er c g S' => rw [h1] at en; cases en
    | ok env1 S3 =>
      rw [h1] at en
      intro ρ3 H3 σ3 x3 s3 e3
      refine ⟨(wipe_agr e3.2).trans (wipe_wipe vs σ), ρ3, S3, env1, s3, e3.1, ?_⟩
      have en : ((tC G.cl env1 S3).bind fun k S2 => if k then (dE G.cl env1 S2).bind fun y S3 => if acc.length < lim then lcLoop I.chk tG tC dE G.cl (wipeE env vs) (I.items.drop (i + 1)) (acc ++ [y]) S3 else .no
        else lcLoop I.chk tG tC dE G.cl (wipeE env vs) (I.items.drop (i + 1)) acc S2) = .ok ws S2 := en
      cases h2 : tC G.cl env1 S3 with
      | no => rw [h2] at en; cases en
      | er c g S' => rw [h2] at en; cases en
      | ok k S4 =>
        rw [h2] at en
        intro ρ4 H4 k' x4 s4 ek
        have ek : k = k' := ek
        subst ek
        have xx : Ext ρ1 H1 ρ4 H4 := ((x.trans x2).trans x3).trans x4
        have hD3 : D ∉ ρ3 := fun hm => by
          obtain ⟨more, em, hmo⟩ := x3.ap
          rw [em] at hm
          rcases List.mem_append.mp hm with h | h
          · exact hn h
          · rw [hmo _ h] at hd2; cases hd2
        have hd3 : H3 D = some (.lst accv) := x3.fr _ _ hd2 hn
        have hD4 : D ∉ ρ4 := fun hm => by
          obtain ⟨more, em, hmo⟩ := x4.ap
          rw [em] at hm
          rcases List.mem_append.mp hm with h | h
          · exact hD3 h
          · rw [hmo _ h] at hd3; cases hd3
        have hd4 : H4 D = some (.lst accv) := x4.fr _ _ hd3 hD3
        have rs4 : RWs X.K G.gad ρ4 H4 acc accv := ((rs.ext s x2).ext s2 x3).ext s3 x4
        cases k with
        | false => exact ⟨ρ4, S4, acc, accv, xx, s4, hd4, hD4, rs4, ws, S2, en, fin⟩
        | true =>
          refine ⟨ρ4, S4, env1, s4, e3.1.ext s3 x4, ?_⟩
          have en : ((dE G.cl env1 S4).bind fun y S3 => if acc.length < lim then lcLoop I.chk tG tC dE G.cl (wipeE env vs) (I.items.drop (i + 1)) (acc ++ [y]) S3 else .no) = .ok ws S2 := en
          cases h3 : dE G.cl env1 S4 with
          | no => rw [h3] at en; cases en
          | er c g S' => rw [h3] at en; cases en
          | ok y S5 =>
            rw [h3] at en
            intro ρ5 H5 yv x5 s5 ry
            have en : (if acc.length < lim then lcLoop I.chk tG tC dE G.cl (wipeE env vs) (I.items.drop (i + 1)) (acc ++ [y]) S5 else .no) = .ok ws S2 := en
            by_cases hl : acc.length < lim
            · rw [if_pos hl] at en
              have hD5 : D ∉ ρ5 := fun hm => by
                obtain ⟨more, em, hmo⟩ := x5.ap
                rw [em] at hm
                rcases List.mem_append.mp hm with h | h
                · exact hD4 h
                · rw [hmo _ h] at hd4; cases hd4
              have hd5 : H5 D = some (.lst accv) := x5.fr _ _ hd4 hD4
              have rs5 := rs4.ext s4 x5
              refine ⟨accv, hd5, by rw [← rs5.length]; exact le_lt hl, ρ5, S5, acc ++ [y], accv ++ [yv], ?_, s5.other hd5 hD5, upd_same, hD5, ?_, ws, S2, en, fin⟩
              · have x15 := xx.trans x5
                exact ⟨x15.ap, fun a o h hna => by rw [upd_ne fun z => by rw [z, hD] at h; cases h]; exact x15.fr a o h hna, fun a o h => by
                  obtain ⟨o', e⟩ := x15.dom a o h
                  exact ⟨o', by rw [upd_ne fun z => by rw [z, hD] at h; cases h]; exact e⟩⟩
              · exact (rs5.append (.cons ry .nil)).map (fun _ _ h => h) (sqT_upd hd5) (frL_upd hd5)
            · rw [if_neg hl] at en; cases en
  · rintro H' ⟨ρ', S', acc, accv, x, s, hd, hn, rs, en⟩
    obtain ⟨ws, S2, en, fin⟩ := en
    rw [List.drop_length, lcLoop] at en
    split at en
    · cases en
      exact fin ρ' H' accv x s hd hn rs
    · cases en
theorem sLc {elt tg iter : Expr} {ifs : List Expr} {scope : Scope} {own : List (Str × Nat)} {vs : List Nat} {dI : Dn Its} {tG : At} {tC : Dn Bool} {dE : Dn W} (hc : X.calm = true) (hN : X.N.Nodup) (hi : PI X tg iter (tIt X.K G Wx dI)) (hv : own.map (·.2) = vs) (ok : BlkOk X.N X.env.scope scope own)
    (hg : ∀ (s : Shared) (H : Hp) (C : Addr) (cl : List (Str × Addr)) (fp : List Addr), PG (X.blk s H scope (compEnvC scope cl C X.env) fp) tg (gD X.K G W0 (avOf vs) tG))
    (ht : ∀ (s : Shared) (H : Hp) (C : Addr) (cl : List (Str × Addr)) (fp : List Addr), PTs (X.blk s H scope (compEnvC scope cl C X.env) fp) ifs (tT X.K G W0 tC))
    (he : ∀ (s : Shared) (H : Hp) (C : Addr) (cl : List (Str × Addr)) (fp : List Addr), PE (X.blk s H scope (compEnvC scope cl C X.env) fp) elt (tE X.K G W0 dE))
    (hf : ∀ (x : Value), foldedSetIterable iter X.env x = pure x) : PE X (.ListComp elt [⟨tg, iter, ifs, 0⟩] scope pos) (tE X.K G Wx (dLc vs dI tG tC dE)) := by
  subst hv
  exact peW (pe_lc hc hN hi ok hg ht he hf) fun σ H Q h => lcQ h
theorem tsNil : PTs X [] (tT X.K G Wx (dBool true)) := ⟨fun pins s σ H Q I ⟨ρ, S, env, sr, er, f⟩ => pts_nil.run pins s σ H Q I (Fin.ok (a := true) (S := S) f sr rfl)⟩
end
end Pv
set_option autoImplicit false
set_option Elab.async false
set_option linter.all false
set_option maxRecDepth 100000
set_option maxHeartbeats 2000000
/-! Statements are sound, part by part. -/
namespace Pv
open PySem PySem.Spec PyProof.Rows L2

inductive FV where
  | nx (σ : L2.St) | rt (v : V) | ct (σ : L2.St)
def relF (K : PySem.W.Frag) (G : Gp) (av : Nat → Bool) (σ : L2.St) (ρ : List Addr) (H : Hp) : Fl → FV → Prop
  | .nx env, .nx σ' => ER K G.gad ρ H env σ' ∧ Agr av σ σ'
  | .rt w, .rt v => RW K G.gad ρ H w v
  | .ct env, .ct σ' => ER K G.gad ρ H env σ' ∧ Agr av σ σ'
  | _, _ => False
def endQ (D : Ends) : FV → Hp → Prop
  | .nx σ, H => D.nx σ H
  | .rt v, H => D.rt v H
  | .ct σ, H => D.ct σ H
theorem relF_step {K : PySem.W.Frag} {G : Gp} {av : Nat → Bool} {σ σ1 : L2.St} (h : Agr av σ σ1) : ∀ (ρ : List Addr) (H : Hp) (a : Fl) (b : FV), relF K G av σ1 ρ H a b → relF K G av σ ρ H a b
  | _, _, .nx _, .nx _, q => ⟨q.1, h.trans q.2⟩
  | _, _, .rt _, .rt _, q => q
  | _, _, .ct _, .ct _, q => ⟨q.1, h.trans q.2⟩
/-- a suite's reading -/
def tSt (K : PySem.W.Frag) (G : Gp) (Wx : WX) (av : Nat → Bool) (d : Ds) : TS := fun D σ H => ∃ ρ S env, SR K G.gad ρ S H ∧ ER K G.gad ρ H env σ ∧ Fin K G (relF K G av σ) ρ H (d G.cl env S) (endQ D) (eW Wx σ)
section
variable {X : Cx} {G : Gp} {Wx : WX} {av : Nat → Bool} {pos : Pos}
/-- go on at another state -/
theorem Fin.step {ρ : List Addr} {H : Hp} {r : R Fl} {D : Ends} {σ σ1 : L2.St} (fl : Flat av Wx) (h : Agr av σ σ1) (f : Fin X.K G (relF X.K G av σ) ρ H r (endQ D) (eW Wx σ)) : Fin X.K G (relF X.K G av σ1) ρ H r (endQ D) (eW Wx σ1) :=
  f.conv (relF_step h) fun _ _ _ z => fl _ _ _ _ _ h z
theorem Fin.nxE {ρ : List Addr} {H : Hp} {S : Sto} {env : En} {D : Ends} {σ σ' : L2.St} {E : XK} (f : Fin X.K G (relF X.K G av σ) ρ H (.ok (.nx env) S) (endQ D) E) (s : SR X.K G.gad ρ S H) (e : ER X.K G.gad ρ H env σ') (a : Agr av σ σ') : D.nx σ' H := Fin.ok (a := Fl.nx env) (S := S) (b := FV.nx σ') f s ⟨e, a⟩
theorem Fin.ctE {ρ : List Addr} {H : Hp} {S : Sto} {env : En} {D : Ends} {σ σ' : L2.St} {E : XK} (f : Fin X.K G (relF X.K G av σ) ρ H (.ok (.ct env) S) (endQ D) E) (s : SR X.K G.gad ρ S H) (e : ER X.K G.gad ρ H env σ') (a : Agr av σ σ') : D.ct σ' H := Fin.ok (a := Fl.ct env) (S := S) (b := FV.ct σ') f s ⟨e, a⟩
theorem Fin.rtE {ρ : List Addr} {H : Hp} {S : Sto} {w : W} {v : V} {D : Ends} {σ : L2.St} {E : XK} (f : Fin X.K G (relF X.K G av σ) ρ H (.ok (.rt w) S) (endQ D) E) (s : SR X.K G.gad ρ S H) (r : RW X.K G.gad ρ H w v) : D.rt v H := Fin.ok (a := Fl.rt w) (S := S) (b := FV.rt v) f s r
theorem stExp {e : Expr} {d : Dn W} (h : PE X e (tE X.K G Wx d)) (hs : swapsWith e none pos.line X.env = pure false) : PS X (.Expr e pos) (tSt X.K G Wx av (sExp d)) :=
  psW (ps_expr h hs) fun D σ H h => tD.seq (f := fun _ env _ S1 => .ok (.nx env) S1) (rel2 := relF X.K G av σ) (Q := endQ D) h fun ρ S env a H' b a1 r1 f1 => f1.nxE a1.s a1.e (.refl _ _)
theorem asgQ {d : Dn W} {t : At} {D : Ends} {σ : L2.St} {H : Hp} (h : tSt X.K G Wx av (sAsg t d) D σ H) : tAsg (tE X.K G Wx d) (gD X.K G Wx av t) D σ H := by
  refine tD.seq (f := fun cl env w S1 => (t w cl env S1).bind fun env1 S2 => .ok (.nx env1) S2) (rel2 := relF X.K G av σ) (Q := endQ D) h fun ρ S env w H' v a1 r1 f1 => ?_
  refine ⟨ρ, S, env, w, a1.s, a1.e, r1, Fin.bind (f := fun env1 S2 => R.ok (Fl.nx env1) S2) (rel := relA X.K G av σ) f1 fun env1 S2 ρ2 H2 σ2 _ x2 s2 e2 f2 => ?_⟩
  exact f2.nxE s2 e2.1 e2.2
theorem stAsg {tg e : Expr} {d : Dn W} {t : At} (h : PE X e (tE X.K G Wx d)) (hg : PG X tg (gD X.K G Wx av t)) (h1 : swapsWithSole [tg] e pos.line X.env = pure false) (h2 : swappedStores [tg] e X.env = pure none) (h3 : List.map (fun x => x.snd) (assignEach [tg] X.env) = [assign tg X.env]) :
    PS X (.Assign [tg] e pos) (tSt X.K G Wx av (sAsg t d)) := psW (ps_asg h hg h1 h2 h3) fun D σ H h => asgQ h
theorem stPar2 {i j : Nat} {x y : Str} {a b : Expr} {dx : Dn (List W)} {px py pt : Pos} {kt k2 : Nat} {pt2 : Pos} (hc : X.calm = true) (hN : X.N.Nodup) (hx : X.N[i]? = some x) (hy : X.N[j]? = some y) (hij : i ≠ j) (lx : List.lookup x X.env.scope.names = some NameKind.local)
    (ly : List.lookup y X.env.scope.names = some NameKind.local) (ha : PA X [a, b] (tA X.K G Wx dx)) (hs : swappedStores [Expr.Tuple [Expr.Name x px, Expr.Name y py] kt pt] (Expr.Tuple [a, b] k2 pt2) X.env = pure (some [x, y]))
    (hw : swapsWithSole [Expr.Tuple [Expr.Name x px, Expr.Name y py] kt pt] (Expr.Tuple [a, b] k2 pt2) pos.line X.env = pure false) (hi : av i = true) (hj : av j = true) :
    PS X (.Assign [Expr.Tuple [Expr.Name x px, Expr.Name y py] kt pt] (Expr.Tuple [a, b] k2 pt2) pos) (tSt X.K G Wx av (sPar [i, j] dx)) :=
  psW (ps_par hc hN hx hy hij lx ly ha hs hw) fun D σ H h => by
    refine tD.seq (f := fun _ env ws S1 => match setAll [i, j] ws env with
      | some env1 => .ok (.nx env1) S1
      | none => .no) (rel2 := relF X.K G av σ) (Q := endQ D) h fun ρ S env ws H' vs a1 r1 f1 => ?_
    cases r1 with
    | nil => exact f1.no_
    | cons r1 t =>
      cases t with
      | nil => exact f1.no_
      | cons r2 t =>
        cases t with
        | cons _ _ => exact f1.no_
        | nil => exact ⟨_, _, rfl, f1.nxE a1.s ((a1.e.set r1 i).set r2 j) ((Agr.set hi).trans (.set hj))⟩
theorem stPar3 {i j l : Nat} {x y z : Str} {a b c : Expr} {dx : Dn (List W)} {px py pz pt : Pos} {kt k2 : Nat} {pt2 : Pos} (hc : X.calm = true) (hN : X.N.Nodup) (hx : X.N[i]? = some x) (hy : X.N[j]? = some y) (hz : X.N[l]? = some z) (hij : i ≠ j) (hil : i ≠ l) (hjl : j ≠ l) (lx : List.lookup x X.env.scope.names = some NameKind.local)
    (ly : List.lookup y X.env.scope.names = some NameKind.local) (lz : List.lookup z X.env.scope.names = some NameKind.local) (ha : PA X [a, b, c] (tA X.K G Wx dx)) (hs : swappedStores [Expr.Tuple [Expr.Name x px, Expr.Name y py, Expr.Name z pz] kt pt] (Expr.Tuple [a, b, c] k2 pt2) X.env = pure (some [x, y, z]))
    (hw : swapsWithSole [Expr.Tuple [Expr.Name x px, Expr.Name y py, Expr.Name z pz] kt pt] (Expr.Tuple [a, b, c] k2 pt2) pos.line X.env = pure false) (hi : av i = true) (hj : av j = true) (hl : av l = true) :
    PS X (.Assign [Expr.Tuple [Expr.Name x px, Expr.Name y py, Expr.Name z pz] kt pt] (Expr.Tuple [a, b, c] k2 pt2) pos) (tSt X.K G Wx av (sPar [i, j, l] dx)) :=
  psW (ps_par3 hc hN hx hy hz hij hil hjl lx ly lz ha hs hw) fun D σ H h => by
    refine tD.seq (f := fun _ env ws S1 => match setAll [i, j, l] ws env with
      | some env1 => .ok (.nx env1) S1
      | none => .no) (rel2 := relF X.K G av σ) (Q := endQ D) h fun ρ S env ws H' vs a1 r1 f1 => ?_
    cases r1 with
    | nil => exact f1.no_
    | cons r1 t =>
      cases t with
      | nil => exact f1.no_
      | cons r2 t =>
        cases t with
        | nil => exact f1.no_
        | cons r3 t =>
          cases t with
          | cons _ _ => exact f1.no_
          | nil => exact ⟨_, _, _, rfl, f1.nxE a1.s (((a1.e.set r1 i).set r2 j).set r3 l) (((Agr.set hi).trans (.set hj)).trans (.set hl))⟩
theorem stAug {i : Nat} {x : Str} {e : Expr} {d : Dn W} {pos' : Pos} {b : Bool} (hN : X.N.Nodup) (hi : X.N[i]? = some x) (hl : L2.Loc X.env.scope x) (he : PE X e (tE X.K G Wx d)) (hf : X.fn x = true ∨ List.lookup x X.env.scope.names = some NameKind.local) (ha : av i = true) :
    PS X (.AugAssign (.Name x pos') (if b then .Add else .Sub) e pos) (tSt X.K G Wx av (sAug i (if b then .add else .sub) d)) := by
  have key : ∀ (D : Ends) (σ : L2.St) (H : Hp) (g : Int → Int → Int) (op : Bo), (∀ x y z, augV op x y = some z → ∃ m n, x = .int m ∧ y = .int n ∧ z = .int (g m n)) → tSt X.K G Wx av (sAug i op d) D σ H → tAug i (tE X.K G Wx d) (ipI g) D σ H := by
    rintro D σ H g op hop ⟨ρ, S, env, sr, er, f⟩
    unfold sAug at f
    split at f
    · rename_i w hw
      obtain ⟨v, hv, rv⟩ := er.at_ i w hw
      refine ⟨v, hv, ρ, S, env, sr, er, f.bind fun y S1 ρ1 H1 u _ x1 s1 r1 f1 => ?_⟩
      have rv1 := rv.ext sr x1
      split at f1
      · rename_i z hz
        obtain ⟨m, n, rfl, rfl, rfl⟩ := hop _ _ _ hz
        cases rv1 with
        | int m =>
          cases r1 with
          | int n => exact ⟨m, n, rfl, rfl, f1.nxE s1 ((er.ext sr x1).set (.int _) i) (.set ha)⟩
      · exact f1.no_
    · exact f.no_
  have h1 : ∀ x y z, augV .add x y = some z → ∃ m n, x = .int m ∧ y = .int n ∧ z = .int (m + n) := fun x y z h => by
    cases x <;> cases y <;> first | (cases h; done) | exact ⟨_, _, rfl, rfl, (Option.some.inj h).symm⟩
  have h2 : ∀ x y z, augV .sub x y = some z → ∃ m n, x = .int m ∧ y = .int n ∧ z = .int (m - n) := fun x y z h => by
    cases x <;> cases y <;> first | (cases h; done) | exact ⟨_, _, rfl, rfl, (Option.some.inj h).symm⟩
  cases b with
  | true => exact psW (ps_aug hN hi hl he ip_add hf) fun D σ H h => key D σ H (fun i j => i + j) .add h1 h
  | false => exact psW (ps_aug hN hi hl he ip_sub hf) fun D σ H h => key D σ H (fun i j => i - j) .sub h2 h
theorem stRet {e : Expr} {d : Dn W} (h : PE X e (tE X.K G Wx d)) : PS X (.Return (some e) pos) (tSt X.K G Wx av (sRet d)) :=
  psW (ps_ret h) fun D σ H h => tD.seq (f := fun _ _ w S1 => .ok (.rt w) S1) (rel2 := relF X.K G av σ) (Q := endQ D) h fun ρ S env a H' b a1 r1 f1 => f1.rtE a1.s r1
theorem stRetN : PS X (.Return none pos) (tSt X.K G Wx av (sRet (dCon .non))) :=
  psW ps_retN fun D σ H ⟨ρ, S, env, sr, er, f⟩ => Fin.rtE (w := .non) (S := S) f sr .non
theorem stPass : PS X (.Pass pos) (tSt X.K G Wx av sNil) := psW ps_pass fun D σ H ⟨ρ, S, env, sr, er, f⟩ => Fin.nxE (env := env) (S := S) f sr er (.refl _ _)
theorem stCnt : PS X (.Continue pos) (tSt X.K G Wx av sCnt) := psW ps_continue fun D σ H ⟨ρ, S, env, sr, er, f⟩ => Fin.ctE (env := env) (S := S) f sr er (.refl _ _)
theorem stDead {st : Stmt} : PS X st (tSt X.K G Wx av dNo) := psW ps_never fun D σ H ⟨ρ, S, env, sr, er, f⟩ => f.no_
theorem stNil : PSs X [] (tSt X.K G Wx av sNil) := pssW pss_nil fun D σ H ⟨ρ, S, env, sr, er, f⟩ => Fin.nxE (env := env) (S := S) f sr er (.refl _ _)
theorem stIf {c : Expr} {a b : List Stmt} {t : Dn Bool} {da db : Ds} (hc : PT X c (tT X.K G Wx t)) (ha : PSs X a (tSt X.K G Wx av da)) (hb : PSs X b (tSt X.K G Wx av db)) : PS X (.If c a b pos) (tSt X.K G Wx av (dIf t da db)) :=
  psW (ps_if hc ha hb) fun D σ H h => by
    refine tD.seq (d := t) (rel := relB) (f := fun cl env k S1 => if k then da cl env S1 else db cl env S1) (rel2 := relF X.K G av σ) (Q := endQ D) h fun ρ S env k H' k' a1 r1 f1 => ?_
    have r1 : k = k' := r1
    subst r1
    cases k with
    | true => exact ⟨ρ, S, env, a1.s, a1.e, f1⟩
    | false => exact ⟨ρ, S, env, a1.s, a1.e, f1⟩
/-- what comes of a suite, then -/
theorem Fin.flow {ρ : List Addr} {H : Hp} {r : R Fl} {σ : L2.St} {k : Fl → Sto → R Fl} {D D' : Ends} (f : Fin X.K G (relF X.K G av σ) ρ H (r.bind k) (endQ D) (eW Wx σ))
    (h : ∀ (S' : Sto) (ρ' : List Addr) (H' : Hp) (a : Fl) (b : FV), Ext ρ H ρ' H' → SR X.K G.gad ρ' S' H' → relF X.K G av σ ρ' H' a b → Fin X.K G (relF X.K G av σ) ρ' H' (k a S') (endQ D) (eW Wx σ) → endQ D' b H') : Fin X.K G (relF X.K G av σ) ρ H r (endQ D') (eW Wx σ) :=
  f.bind fun a S' ρ' H' b _ x s q f1 => h S' ρ' H' a b x s q f1
theorem stCons {st : Stmt} {rest : List Stmt} {a b : Ds} (fl : Flat av Wx) (ha : PS X st (tSt X.K G Wx av a)) (hb : PSs X rest (tSt X.K G Wx av b)) : PSs X (st :: rest) (tSt X.K G Wx av (sSeq a b)) :=
  pssW (pss_cons ha hb) fun D σ H ⟨ρ, S, env, sr, er, f⟩ => by
    refine ⟨ρ, S, env, sr, er, Fin.flow (k := fun f S1 => match f with
      | .nx env1 => b G.cl env1 S1
      | f => .ok f S1) f fun S1 ρ1 H1 a1 b1 x1 s1 q1 f1 => ?_⟩
    cases a1 with
    | nx env1 =>
      cases b1 with
      | nx σ1 => exact ⟨ρ1, S1, env1, s1, q1.1, Fin.step fl q1.2 f1⟩
      | _ => exact q1.elim
    | rt w =>
      cases b1 with
      | rt v => exact Fin.rtE (D := D) (w := w) (S := S1) f1 s1 q1
      | _ => exact q1.elim
    | ct env1 =>
      cases b1 with
      | ct σ1 => exact Fin.ctE (D := D) (env := env1) (S := S1) f1 s1 q1.1 q1.2
      | _ => exact q1.elim
theorem stFor {tg iter : Expr} {body : List Stmt} {dI : Dn Its} {t : At} {d : Ds} (fl : Flat av Wx) (hp : PassesOwn (model X.prog X.w) X.A X.env X.xe) (hc : X.calm = true) (hi : PI X tg iter (tIt X.K G Wx dI)) (hg : PG X tg (gD X.K G Wx av t)) (hb : PSs X body (tSt X.K G Wx av d))
    (hf : ∀ (x : Value), foldedSetIterable iter X.env x = pure x) : PS X (.For tg iter body [] pos) (tSt X.K G Wx av (sFor dI t d)) :=
  psW (ps_for hp hc hi hg hb hf) fun D σ H h => by
    refine tD.seq (d := dI) (rel := relI X.K G) (f := fun cl env I S1 => forLoop I.chk t d cl I.items env S1) (rel2 := relF X.K G av σ) (Q := endQ D) h fun ρ S env I H1 J a1 r1 f1 => ?_
    refine for_it r1 (fun i σ' H' => Agr av σ σ' ∧ ∃ ρ' S' env', Ext ρ H1 ρ' H' ∧ SR X.K G.gad ρ' S' H' ∧ ER X.K G.gad ρ' H' env' σ' ∧ Fin X.K G (relF X.K G av σ') ρ' H' (forLoop I.chk t d G.cl (I.items.drop i) env' S') (endQ D) (eW Wx σ')) ?_ ?_ ?_ ?_
    · exact ⟨.refl _ _, ρ, S, env, .refl _ _, a1.s, a1.e, f1⟩
    · rintro i σ' H' hi ⟨ag, ρ', S', env', x, s, e, f⟩
      refine ⟨ρ', S', x, s, ?_⟩
      cases hk : chkOk I.chk S' with
      | true => rfl
      | false =>
        cases hdr : I.items.drop i with
        | nil => rw [hdr, forLoop, if_neg (by rw [hk]; exact Bool.false_ne_true)] at f; exact f.no_
        | cons w r => rw [hdr, forLoop, if_neg (by rw [hk]; exact Bool.false_ne_true)] at f; exact f.no_
    · rintro i xv σ' H' H'' hi ⟨ag, ρ', S', env', x, s, e, f⟩ hy
      have hdr : I.items.drop i = I.items[i] :: I.items.drop (i + 1) := List.drop_eq_getElem_cons hi
      rw [hdr] at f
      have hck : chkOk I.chk S' = true := by
        cases hk : chkOk I.chk S' with
        | true => rfl
        | false => rw [forLoop, if_neg (by rw [hk]; exact Bool.false_ne_true)] at f; exact f.no_
      rw [forLoop, if_pos hck] at f
      obtain ⟨w, hw, x2, s2, rw2⟩ := hy ρ' S' x s hck
      rw [List.getElem?_eq_getElem hi] at hw
      cases hw
      refine ⟨ρ', S', env', I.items[i], s2, e.ext s x2, rw2, Fin.bind (f := fun env1 S1 => (d G.cl env1 S1).bind fun f S2 => match f with
        | .nx env2 => forLoop I.chk t d G.cl (I.items.drop (i + 1)) env2 S2
        | .ct env2 => forLoop I.chk t d G.cl (I.items.drop (i + 1)) env2 S2
        | .rt w => .ok (.rt w) S2) (Fin.ext f x2) fun env1 S3 ρ3 H3 σ3 _ x3 s3 e3 f3 => ?_⟩
      refine ⟨ρ3, S3, env1, s3, e3.1, Fin.flow (Fin.step fl e3.2 f3) fun S4 ρ4 H4 a4 b4 x4 s4 q4 f4 => ?_⟩
      have xx : Ext ρ H1 ρ4 H4 := ((x.trans x2).trans x3).trans x4
      cases a4 with
      | nx env4 =>
        cases b4 with
        | nx σ4 => exact ⟨(ag.trans e3.2).trans q4.2, ρ4, S4, env4, xx, s4, q4.1, Fin.step fl q4.2 f4⟩
        | _ => exact q4.elim
      | rt w =>
        cases b4 with
        | rt v => exact Fin.rtE (D := D) (w := w) (S := S4) f4 s4 q4
        | _ => exact q4.elim
      | ct env4 =>
        cases b4 with
        | ct σ4 => exact ⟨(ag.trans e3.2).trans q4.2, ρ4, S4, env4, xx, s4, q4.1, Fin.step fl q4.2 f4⟩
        | _ => exact q4.elim
    · rintro σ' H' ⟨ag, ρ', S', env', x, s, e, f⟩
      rw [List.drop_length, forLoop] at f
      split at f
      · exact Fin.nxE (env := env') (S := S') f s e (.refl _ _)
      · exact f.no_
theorem stWhl {c : Expr} {body : List Stmt} {t : Dn Bool} {d : Ds} (fl : Flat av Wx) (hp : PassesOwn (model X.prog X.w) X.A X.env X.xe) (hc : PT X c (tT X.K G Wx t)) (hb : PSs X body (tSt X.K G Wx av d)) : PS X (.While c body [] pos) (tSt X.K G Wx av (sWhl t d)) :=
  psW (ps_while hp hc hb) fun D σ H ⟨ρ, S, env, sr, er, f⟩ => by
    have f : Fin X.K G (relF X.K G av σ) ρ H (whlLoop t d G.cl 1000000000 env S) (endQ D) (eW Wx σ) := f
    generalize 1000000000 = n at f
    refine ⟨fun m σ' H' => Agr av σ σ' ∧ ∃ ρ' S' env', SR X.K G.gad ρ' S' H' ∧ ER X.K G.gad ρ' H' env' σ' ∧ Fin X.K G (relF X.K G av σ') ρ' H' (whlLoop t d G.cl m env' S') (endQ D) (eW Wx σ'), ⟨n, .refl _ _, ρ, S, env, sr, er, f⟩, ?_⟩
    rintro m σ' H' ⟨ag, ρ', S', env', s, e, f⟩
    cases m with
    | zero => exact f.no_
    | succ m =>
      refine ⟨ρ', S', env', s, e, Fin.bind (f := fun k S1 => if k then (d G.cl env' S1).bind fun f S2 => (match f with
        | .nx env2 => whlLoop t d G.cl m env2 S2
        | .ct env2 => whlLoop t d G.cl m env2 S2
        | .rt w => .ok (.rt w) S2)
        else .ok (.nx env') S1) f fun k S1 ρ1 H1 k' _ x1 s1 r1 f1 => ?_⟩
      have r1 : k = k' := r1
      subst r1
      cases k with
      | false => exact Fin.nxE (env := env') (S := S1) f1 s1 (e.ext s x1) (.refl _ _)
      | true =>
        rw [if_pos rfl]
        refine ⟨fun σ2 H2 => Agr av σ σ2 ∧ ∃ ρ' S' env', SR X.K G.gad ρ' S' H2 ∧ ER X.K G.gad ρ' H2 env' σ2 ∧ Fin X.K G (relF X.K G av σ2) ρ' H2 (whlLoop t d G.cl m env' S') (endQ D) (eW Wx σ2), fun σ2 H2 z => ⟨m, Nat.lt_succ_self m, z⟩, ?_⟩
        refine ⟨ρ1, S1, env', s1, e.ext s x1, Fin.flow f1 fun S4 ρ4 H4 a4 b4 x4 s4 q4 f4 => ?_⟩
        cases a4 with
        | nx env4 =>
          cases b4 with
          | nx σ4 => exact ⟨ag.trans q4.2, ρ4, S4, env4, s4, q4.1, Fin.step fl q4.2 f4⟩
          | _ => exact q4.elim
        | rt w =>
          cases b4 with
          | rt v => exact Fin.rtE (D := D) (w := w) (S := S4) f4 s4 q4
          | _ => exact q4.elim
        | ct env4 =>
          cases b4 with
          | ct σ4 => exact ⟨ag.trans q4.2, ρ4, S4, env4, s4, q4.1, Fin.step fl q4.2 f4⟩
          | _ => exact q4.elim
end
end Pv
set_option autoImplicit false
set_option Elab.async false
set_option linter.all false
set_option maxRecDepth 100000
set_option maxHeartbeats 2000000
/-! x[::-1] of lists and tuples. -/
namespace Pv
open PySem PySem.Spec PyProof.Rows L2
section
variable {prog : Program} {w : World} {A : Around} {E : Value → Shared → Prop} {s : Shared}
theorem applied_rev {sl : Addr} {vl vu vs : Value} {n : Nat} {Q : Int × Int × Nat → Shared → Prop} (hs : s.heap.IsSliceOf sl vl vu vs) (pl : IsPart vl none) (pu : IsPart vu none) (ps : IsPart vs (some (-1)))
    (h : Q ((n : Int) - 1, -1, n) s) : wpAny (model prog w) A (Builtin.Slice.sliceApplied (.ref sl) (pure (n : Int))) Q E s := by
  obtain ⟨os, hos, hcs, hds⟩ := id hs
  unfold Builtin.Slice.sliceApplied Builtin.Slice.sliceFields
  refine wpAny_bind (wpAny_bind (wpAny_field hos hds (x := vl) rfl (wpAny_bind (wpAny_field hos hds (x := vu) rfl (wpAny_bind (wpAny_field hos hds (x := vs) rfl (wpAny_pure ?_)))))))
  refine wpAny_bind (HT.slicePart_ ps ?_)
  show wpAny _ _ (if ((-1 : Int) == 0) = true then _ else _) _ _ s
  rw [if_neg (by decide)]
  refine wpAny_bind (HT.slicePart_ pl (wpAny_bind (HT.slicePart_ pu (wpAny_bind (wpAny_pure ?_)))))
  have e : Builtin.Slice.sliceAdjust none none (-1) (n : Int) = ((n : Int) - 1, -1) := rfl
  have e2 : Builtin.Slice.slicePlaces ((n : Int) - 1) (-1) (-1) = n := by
    unfold Builtin.Slice.slicePlaces
    rw [if_neg (by decide)]
    by_cases hn : (n : Int) - 1 > -1
    · rw [if_pos hn, show (- -1 : Int) = 1 by decide, Int.ediv_one]
      omega
    · rw [if_neg hn]
      omega
  show wpAny _ _ (pure ((Builtin.Slice.sliceAdjust none none (-1) (n : Int)).1, (-1 : Int), Builtin.Slice.slicePlaces (Builtin.Slice.sliceAdjust none none (-1) (n : Int)).1 (Builtin.Slice.sliceAdjust none none (-1) (n : Int)).2 (-1))) _ _ s
  rw [e]
  show wpAny _ _ (pure ((n : Int) - 1, (-1 : Int), Builtin.Slice.slicePlaces ((n : Int) - 1) (-1) (-1))) _ _ s
  rw [e2]
  exact wpAny_pure h
theorem picked_rev (xs : Array Value) : ((List.range xs.size).filterMap fun (k : Nat) => xs[(((xs.size : Int) - 1) + (k : Int) * (-1)).toNat]?).toArray = xs.toList.reverse.toArray := by
  have e : ((List.range xs.size).filterMap fun (k : Nat) => xs[(((xs.size : Int) - 1) + (k : Int) * (-1)).toNat]?) = (List.range xs.size).filterMap ((fun i => xs[i]?) ∘ fun k => xs.size - 1 - k) := by
    congr 1
    funext k
    show xs[(((xs.size : Int) - 1) + (k : Int) * (-1)).toNat]? = xs[xs.size - 1 - k]?
    have : (((xs.size : Int) - 1) + (k : Int) * (-1)).toNat = xs.size - 1 - k := by omega
    rw [this]
  rw [e, ← List.filterMap_map, PySem.W.krv_range, List.filterMap_reverse, PySem.W.krv_all]
theorem item_rev {t sl : Addr} {items : Array Value} {vl vu vs : Value} {Q : Value → Shared → Prop} (ht : IsTup s.heap t items) (hs : s.heap.IsSliceOf sl vl vu vs) (pl : IsPart vl none) (pu : IsPart vu none) (ps : IsPart vs (some (-1)))
    (h : Q (.ref s.heap.objs.size) { s with heap := s.heap.push { cls := .type "tuple", data := .seq items.toList.reverse.toArray } }) (hz : items.size ≤ sizeLine) : wpAny (model prog w) A (getItem (.ref t) (.ref sl)) Q E s := by
  have hsz : sizeOk (.seq items.toList.reverse.toArray) := by
    show items.toList.reverse.toArray.size ≤ sizeLine
    rw [List.size_toArray, List.length_reverse, Array.length_toList]
    exact hz
  obtain ⟨os, hos, hcs, hds⟩ := id hs
  have hTs : s.TypeIs (.ref sl) "slice" := ⟨os, hos, hcs⟩
  unfold getItem
  try with_reducible refine wpAny_holding ?_
  first | refine wpAny_bind (wpAny_pure ?_) | skip
  refine wpAny_bind (wpAny_sequenceKey ht.typeIs (by decide) ?_)
  refine wpAny_bind (wpAny_callSpecial?_slot (name := Str.ofString "__getitem__") ht.typeIs PyProof.Rows.slot_tuple_getitem (wpAny_call_entry PyProof.Rows.slot_tuple_getitem ht.typeIs entry_tuple_getitem ?_ (args_tuple_getitem _ _)))
  show wpAny _ _ (Builtin.Tuple.tupleItemsOf (.ref t) >>= _) _ _ s
  refine wpAny_bind (tupleItemsOf_ ht ?_)
  refine wpAny_bind (wpAny_typeOf hTs ?_)
  rw [if_pos (by decide)]
  refine wpAny_bind (applied_rev hs pl pu ps ?_)
  show wpAny _ _ (if (((items.size : Int) - 1) == 0 && (-1 : Int) == 1 && items.size == items.size) = true then _ else _) _ _ s
  rw [if_neg (by rw [show ((-1 : Int) == 1) = false by decide, Bool.and_false, Bool.false_and]; exact Bool.false_ne_true), picked_rev]
  first
    | exact wpAny_bind (m := Builtin.Tuple.tupleExact _) (wpAny_newObj_type (wpAny_pure ⟨_, rfl, wpAny_pure h⟩) hsz)
    | exact wpAny_bind (m := Builtin.Tuple.tupleExact _) (wpAny_newObj_type (wpAny_bind (wpAny_pure (wpAny_pure ⟨_, rfl, wpAny_pure h⟩))) hsz)
    | exact wpAny_bind (wpAny_bind (m := Builtin.Tuple.tupleExact _) (wpAny_newObj_type (wpAny_pure (wpAny_pure ⟨_, rfl, wpAny_pure h⟩)) hsz))
    | exact wpAny_bind (wpAny_bind (m := Builtin.Tuple.tupleExact _) (wpAny_newObj_type (wpAny_pure ⟨_, rfl, wpAny_pure h⟩) hsz))
end
section
variable {X : Cx} {G : Gp} {Wx : WX}
def tRevA (K : PySem.W.Frag) (te : TE) : TE := fun σ H Q => te σ H fun x H1 => ∃ a xs, x = .ref a ∧ ((SqL K H1 a xs ∧ ∀ p, H1 p = none → Q (.ref p) (upd H1 p (.lst xs.reverse))) ∨ (SqT K H1 a xs ∧ ∀ p, H1 p = none → Q (.ref p) (upd H1 p (.tup xs.reverse))))
theorem pe_revA {e : Expr} {te : TE} {k : Nat} {p1 p2 p3 pos : Pos} (he : PE X e te) : PE X (.Subscript e (.Slice none none (some (.UnaryOp .USub (.Constant (.int 1) k p1) p2)) p3) pos) (tRevA X.K te) := by
  refine ⟨fun pins s σ H Q I h => ?_⟩
  refine Subscript_ (thn (he.run pins s σ H _ I h) fun v s1 ⟨x, H1, I1, r1, q1⟩ => ?_)
  obtain ⟨a, xs, ex, q⟩ := q1
  subst ex
  cases r1
  have hst : PO X (some (.UnaryOp .USub (.Constant (.int 1) k p1) p2)) (tPart (tUn (rU fun i => .int (-i)) (tC (.int 1)))) := po_some (pe_un un_neg pe_int)
  refine wpAny_Slice (thn (po_none.run pins s1 σ H1 (fun o H2 => o = none ∧ H2 = H1) I1 ⟨rfl, rfl⟩) fun vl s2 ⟨l, H2, I2, pl, el, e2⟩ => ?_)
  subst el e2
  refine thn (po_none.run pins s2 σ H2 (fun o H3 => o = none ∧ H3 = H2) I2 ⟨rfl, rfl⟩) fun vu s3 ⟨u, H3, I3, pu, eu, e3⟩ => ?_
  subst eu e3
  refine thn (hst.run pins s3 σ H3 (fun o H4 => o = some (-1) ∧ H4 = H3) I3 ⟨1, rfl, -1, rfl, rfl, rfl⟩) fun vs s4 ⟨o, H4, I4, ps, eo, e4⟩ => ?_
  subst eo e4
  have I5 : Inv X pins σ H4 { s4 with heap := s4.heap.push { cls := .type "slice", data := .fields #[vl, vu, vs] } } := I4.kept (t' := s4.toks) fun b ob q => Heap.get?_push_of_some _ q
  show wpAny (model X.prog X.w) X.A (subscriptTail e (.Slice none none (some (.UnaryOp .USub (.Constant (.int 1) k p1) p2)) p3) (.ref a) (.ref s4.heap.objs.size)) (EP X pins σ Q) X.xe { s4 with heap := s4.heap.push { cls := .type "slice", data := .fields #[vl, vu, vs] } }
  rcases q with ⟨hx, q⟩ | ⟨hx, q⟩
  · obtain ⟨its, r, ht, hz⟩ := I5.list hx
    have hlen := r.length
    refine tail_any (ops := [.ref a, .ref s4.heap.objs.size]) ht.isList.typeIs (PySem.slot_list_getitem.lookup) ?_ (by with_unfolding_all rfl)
    refine wpAny_getItem_list_slice ht.isList (Heap.IsSliceOf.new _ vl vu vs) pl pu ps (by decide) ?_ (by rw [List.size_toArray]; omega)
    rw [PySem.W.krv_pick]
    refine ⟨.ref _, _, I5.laid (t' := s4.toks) (o := .lst xs.reverse) (fun b ob q => Heap.get?_push_of_some _ q) (Nat.le_refl _) ?_, rfl, q _ (I5.hok.fresh (Nat.le_refl _))⟩
    exact ⟨by rw [List.length_reverse]; exact hz, _, 0, r.reverse, Heap.get?_push_size _ rfl⟩
  · obtain ⟨its, r, ht, hz⟩ := I5.tuple hx
    have hlen := r.length
    refine tail_any (ops := [.ref a, .ref s4.heap.objs.size]) ht.typeIs PyProof.Rows.slot_tuple_getitem.lookup ?_ (by with_unfolding_all rfl)
    refine item_rev ht (Heap.IsSliceOf.new _ vl vu vs) pl pu ps ?_ (by rw [List.size_toArray]; omega)
    refine ⟨.ref _, _, I5.laid (t' := s4.toks) (o := .tup xs.reverse) (fun b ob q => Heap.get?_push_of_some _ q) (Nat.le_refl _) ?_, rfl, q _ (I5.hok.fresh (Nat.le_refl _))⟩
    exact ⟨by rw [List.length_reverse]; exact hz, its.reverse, r.reverse, ⟨_, Heap.get?_push_size _ rfl, rfl, 0, rfl⟩⟩
theorem sRev {e : Expr} {d : Dn W} {k : Nat} {p1 p2 p3 pos : Pos} (he : PE X e (tE X.K G Wx d)) : PE X (.Subscript e (.Slice none none (some (.UnaryOp .USub (.Constant (.int 1) k p1) p2)) p3) pos) (tE X.K G Wx (dRev d)) :=
  peW (pe_revA he) fun σ H Q h => h.seq (f := fun _ _ => revW) fun ρ S env w H' v a1 r1 f1 => by
    cases r1 with
    | tup hq rs => exact ⟨_, _, rfl, .inr ⟨hq, fun p hp => f1.newT a1.s rs.reverse hp⟩⟩
    | @ref a i hi =>
      have f2 : Fin X.K G (relW X.K G) ρ H' (match S[i]? with
        | some (.lst ws) => new S (.lst ws.reverse)
        | _ => .no) Q (eW Wx σ) := f1
      split at f2
      · rename_i ws hS
        obtain ⟨b, vs, h1, h2, h3⟩ := a1.s.lst hS
        rw [hi] at h1; cases h1
        exact ⟨_, _, rfl, .inl ⟨.inl (.inl h2), fun p hp => f2.newL a1.s h3.reverse hp⟩⟩
      · exact f2.no_
    | _ => exact f1.no_
end
end Pv
set_option autoImplicit false
set_option Elab.async false
set_option linter.all false
set_option maxRecDepth 100000
set_option maxHeartbeats 4000000
/-! zip and enumerate over lists, tuples and each other. -/
namespace Pv
open PySem PySem.Spec PyProof.Rows L2
/-- a zip that may still have the pair that it gave out -/
def zipO (f0 : Value) (f1 : Bool) (TI TO : Addr) : Obj := { cls := .type "zip", data := .fields #[f0, .bool f1, .bool false, .ref TI, .ref TO] }
def Out (f0 : Value) : Prop := f0 = .none ∨ ∃ T : Addr, f0 = rawInt T
def ZipS (h : Heap) (z TI TO : Addr) : Prop := ∃ f0 f1, Out f0 ∧ h.get? z = some (zipO f0 f1 TI TO)
section
variable {prog : Program} {w : World} {A : Around} {E : Value → Shared → Prop} {s : Shared} {z TI TO i1 i2 : Addr} {fp1 fp2 : List Addr} {n1 n2 i : Nat} {P1 P2 : Nat → Value → Prop} {St1 St2 : Nat → Heap → Prop}
theorem alive_any {a : Addr} {Q : Option Obj → Shared → Prop} (h : ∀ o, Q o s) : wpAny (model prog w) A (loadIfAlive a) Q E s := fun _ _ _ => h _
theorem free_zip {f0 : Value} {f1 : Bool} {Q : Bool → Shared → Prop} (hz : s.heap.get? z = some (zipO f0 f1 TI TO)) (hf : Out f0) (ht : Q true s)
    (hn : ∀ h', ZipS h' z TI TO → Heap.SameBut z s.heap h' → Q false { s with heap := h' }) : wpAny (model prog w) A (Builtin.SmallTypes.ownedTupleIsFree (.ref z)) Q E s := by
  unfold Builtin.SmallTypes.ownedTupleIsFree
  refine wpAny_bind (wpAny_field hz rfl (x := f0) rfl ?_)
  rcases hf with rfl | ⟨T, rfl⟩
  · exact wpAny_pure ht
  · show wpAny _ _ (loadIfAlive ((T : Int).toNat) >>= _) _ _ _
    rw [Int.toNat_natCast]
    refine wpAny_bind (alive_any fun o => ?_)
    cases o with
    | none =>
      simp only [Option.isNone_none, if_true]
      exact wpAny_pure ht
    | some o =>
      simp only [Option.isNone_some, Bool.false_eq_true, if_false]
      refine wpAny_bind (wpAny_field hz rfl (x := .bool f1) rfl ?_)
      cases f1 with
      | true =>
        rw [if_neg (show ¬ ((Value.bool true != Value.bool true) = true) from Bool.false_ne_true)]
        exact wpAny_pure (hn s.heap ⟨_, _, .inr ⟨T, rfl⟩, hz⟩ (Heap.SameBut.refl _ _))
      | false =>
        rw [if_pos (show (Value.bool false != Value.bool true) = true from rfl)]
        exact wpAny_bind (wpAny_setField_rec hz (by simp) fun h1 hz1 hs1 => wpAny_pure (hn h1 ⟨_, true, .inr ⟨T, rfl⟩, hz1⟩ hs1))
theorem zipS_item {Q : Value → Shared → Prop} (S : ZipSep2 z TI TO i1 i2 fp1 fp2) (D1 : Draws prog w A i1 fp1 n1 P1 St1) (D2 : Draws prog w A i2 fp2 n2 P2 St2)
    (hz : ZipS s.heap z TI TO) (hTI : IsPair s.heap TI (.ref i1) (.ref i2)) (hTO : ∃ a1 a2, IsPair s.heap TO a1 a2) (st1 : St1 i s.heap) (st2 : St2 i s.heap) (hlt1 : i < n1) (hlt2 : i < n2)
    (hQ : ∀ x1 x2 h' tk, P1 i x1 → P2 i x2 → ZipS h' z TI TO → (∃ a1 a2, IsPair h' TO a1 a2) → St1 (i + 1) h' → St2 (i + 1) h' → IsPair h' s.heap.objs.size x1 x2 → h'.objs.size = s.heap.objs.size + 1 →
      (∀ c o, c ≠ z → c ≠ TO → c ≠ i1 → c ≠ i2 → s.heap.get? c = some o → h'.get? c = some o) → Q (.ref s.heap.objs.size) { s with heap := h', toks := tk }) :
    wpAny (model prog w) A (Builtin.«zip.__next__» ⟨[.ref z], []⟩) (fun fin s' => ∃ v, fin = .done (.ret v) ∧ Q v s') E s := by
  obtain ⟨hp, g, d, tk0, os⟩ := s
  obtain ⟨f0, f1, hf, hz⟩ := hz
  obtain ⟨a1, a2, hTO⟩ := hTO
  show wpAny _ _ (field (.ref z) 2 >>= _) _ _ _
  refine wpAny_bind (wpAny_field hz rfl (x := .bool false) rfl ?_)
  show wpAny _ _ (field (.ref z) 3 >>= _) _ _ _
  refine wpAny_bind (wpAny_field hz rfl (x := .ref TI) rfl ?_)
  refine wpAny_bind (wpAny_seqItems hTI rfl ?_)
  show wpAny _ _ (Builtin.SmallTypes.ownedTupleIsFree (.ref z) >>= _) _ _ _
  refine wpAny_bind (free_zip hz hf ?_ fun q0 hq0 hs0 => ?_)
  · simp only [if_true]
    refine wpAny_bind (wpAny_rule ?_)
    refine wpAny_bind (wpAny_field hz rfl (x := .ref TO) rfl ?_)
    refine wpAny_bind (wpAny_setField_rec hz (by simp) fun g0 hz0 hs0 => ?_)
    replace hz0 : g0.get? z = some (zipO .ellipsis f1 TI TO) := hz0
    replace hs0 : Heap.SameBut z hp g0 := hs0
    refine wpAny_bind ?_
    simp only [List.zipIdx_cons, List.zipIdx_nil, List.forIn_cons, List.forIn_nil]
    refine wpAny_bind (wpAny_bind (wpAny_onRaise ?_))
    show wpAny _ _ (Builtin.SmallTypes.nextOf (.ref i1) >>= _) _ _ ⟨g0, g, d, tk0, os⟩
    refine wpAny_bind (D1.item i _ _ _ hlt1 (D1.over st1 hs0 S.zf1) fun x1 p1 tk1 hx1 sn1 hp1 => wpAny_pure ?_)
    replace hp1 : Heap.SameBut i1 g0 p1 := hp1
    have hU1 : IsTupOf2 p1 TO a1 a2 := hp1.extBut _ _ S.Ti1 (hs0.extBut _ _ S.TOz hTO)
    refine wpAny_bind (wpAny_seqItems (s := ⟨p1, g, d, tk1, os⟩) hU1 rfl ?_)
    refine wpAny_bind (updateSeq_IsTupOf2 (s := ⟨p1, g, d, tk1, os⟩) hU1 fun g1 hT1 hs1 => ?_)
    replace hT1 : IsTupOf2 g1 TO x1 a2 := hT1
    replace hs1 : Heap.SameBut TO p1 g1 := hs1
    refine wpAny_bind (wpAny_letGo (wpAny_pure ?_))
    refine wpAny_bind (wpAny_bind (wpAny_onRaise ?_))
    show wpAny _ _ (Builtin.SmallTypes.nextOf (.ref i2) >>= _) _ _ ⟨g1, g, d, tk1, os⟩
    refine wpAny_bind (D2.item i _ _ _ hlt2 (D2.over (D2.over (D2.over st2 hs0 S.zf2) hp1 S.sep1_2) hs1 S.Tf2) fun x2 p2 tk2 hx2 sn2 hp2 => wpAny_pure ?_)
    replace hp2 : Heap.SameBut i2 g1 p2 := hp2
    have hU2 : IsTupOf2 p2 TO x1 a2 := hp2.extBut _ _ S.Ti2 hT1
    refine wpAny_bind (wpAny_seqItems (s := ⟨p2, g, d, tk2, os⟩) hU2 rfl ?_)
    refine wpAny_bind (updateSeq_IsTupOf2 (s := ⟨p2, g, d, tk2, os⟩) hU2 fun g2 hT2 hs2 => ?_)
    replace hT2 : IsTupOf2 g2 TO x1 x2 := hT2
    replace hs2 : Heap.SameBut TO p2 g2 := hs2
    refine wpAny_bind (wpAny_letGo (wpAny_pure (wpAny_pure ?_)))
    refine wpAny_bind (wpAny_seqItems (s := ⟨g2, g, d, tk2, os⟩) hT2 rfl ?_)
    refine wpAny_bind (wpAny_newTuple ?_)
    have hsz : g2.objs.size = hp.objs.size := by rw [hs2.1, hp2.1, hs1.1, hp1.1, hs0.1]
    have hzz : g2.get? z = some (zipO .ellipsis f1 TI TO) := (hs2.extBut _ _ S.TOz.symm (hp2.extBut _ _ S.zi2 (hs1.extBut _ _ S.TOz.symm (hp1.extBut _ _ S.zi1 hz0))))
    have hkk : ∀ c o, c ≠ z → c ≠ TO → c ≠ i1 → c ≠ i2 → hp.get? c = some o → g2.get? c = some o := fun c o cz cT c1 c2 e =>
      (hs2.extBut _ _ cT (hp2.extBut _ _ c2 (hs1.extBut _ _ cT (hp1.extBut _ _ c1 (hs0.extBut _ _ cz e)))))
    have hj1 : St1 (i + 1) g2 := (D1.over (D1.over (D1.over sn1 hs1 S.Tf1) hp2 S.sep2_1) hs2 S.Tf1)
    have hj2 : St2 (i + 1) g2 := (D2.over sn2 hs2 S.Tf2)
    have hzlt : z < g2.objs.size := Heap.lt_size hzz
    show wpAny _ _ (Builtin.SmallTypes.ownedTupleHandOut (.ref z) (.ref g2.objs.size) >>= _) _ _ ⟨g2.push { cls := .type "tuple", data := .seq #[x1, x2] }, g, d, tk2, os⟩
    refine wpAny_bind ?_
    unfold Builtin.SmallTypes.ownedTupleHandOut
    have hz6 : (g2.push { cls := .type "tuple", data := .seq #[x1, x2] }).get? z = some (zipO .ellipsis f1 TI TO) := Heap.get?_push_of_some _ hzz
    refine wpAny_bind (wpAny_setField_rec hz6 (by simp) fun h7 hz7 hs7 => ?_)
    replace hz7 : h7.get? z = some (zipO (rawInt g2.objs.size) f1 TI TO) := hz7
    refine wpAny_setField_rec hz7 (by simp) fun h8 hz8 hs8 => ?_
    replace hz8 : h8.get? z = some (zipO (rawInt g2.objs.size) false TI TO) := hz8
    replace hs7 : Heap.SameBut z (g2.push { cls := .type "tuple", data := .seq #[x1, x2] }) h7 := hs7
    replace hs8 : Heap.SameBut z h7 h8 := hs8
    have up : ∀ c o, c ≠ z → g2.get? c = some o → h8.get? c = some o := fun c o c1 e => hs8.extBut _ _ c1 (hs7.extBut _ _ c1 (Heap.get?_push_of_some _ e))
    have hT8 : IsTupOf2 h8 g2.objs.size x1 x2 := hs8.extBut _ _ (Nat.ne_of_gt hzlt) (hs7.extBut _ _ (Nat.ne_of_gt hzlt) (Heap.get?_push_size _ rfl))
    have hsz8 : h8.objs.size = g2.objs.size + 1 := by rw [hs8.1, hs7.1, Heap.size_push]
    rw [hsz] at hz8 hT8 hsz8
    refine wpAny_pure ⟨_, rfl, ?_⟩
    show Q (.ref g2.objs.size) ⟨h8, g, d, tk2, os⟩
    rw [hsz]
    exact hQ x1 x2 h8 tk2 hx1 hx2 ⟨_, _, .inr ⟨_, rfl⟩, hz8⟩ ⟨_, _, up _ _ S.TOz hT2⟩ (D1.frame _ _ _ hj1 fun b hb o e => up b o (fun q => S.zf1 (q ▸ hb)) e) (D2.frame _ _ _ hj2 fun b hb o e => up b o (fun q => S.zf2 (q ▸ hb)) e) hT8 hsz8 fun c o cz cT c1 c2 e => up c o cz (hkk c o cz cT c1 c2 e)
  · replace hs0 : Heap.SameBut z hp q0 := hs0
    simp only [Bool.false_eq_true, if_false]
    refine wpAny_bind ?_
    rw [← Array.forIn_toList]
    simp only [List.forIn_cons, List.forIn_nil]
    refine wpAny_bind (wpAny_bind (wpAny_holding ?_))
    show wpAny _ _ (Builtin.SmallTypes.nextOf (.ref i1) >>= _) _ _ ⟨q0, g, d, tk0, os⟩
    refine wpAny_bind (D1.item i _ _ _ hlt1 (D1.over st1 hs0 S.zf1) fun x1 p1 tk1 hx1 sn1 hp1 => wpAny_pure ?_)
    replace hp1 : Heap.SameBut i1 q0 p1 := hp1
    refine wpAny_pure ?_
    refine wpAny_bind (wpAny_bind (wpAny_holding ?_))
    show wpAny _ _ (Builtin.SmallTypes.nextOf (.ref i2) >>= _) _ _ ⟨p1, g, d, tk1, os⟩
    refine wpAny_bind (D2.item i _ _ _ hlt2 (D2.over (D2.over st2 hs0 S.zf2) hp1 S.sep1_2) fun x2 p2 tk2 hx2 sn2 hp2 => wpAny_pure ?_)
    replace hp2 : Heap.SameBut i2 p1 p2 := hp2
    refine wpAny_pure (wpAny_pure ?_)
    show wpAny _ _ (newTuple [x1, x2] >>= _) _ _ _
    refine wpAny_bind (wpAny_newTuple ?_)
    have hsz : p2.objs.size = hp.objs.size := by rw [hp2.1, hp1.1, hs0.1]
    have hkk : ∀ c o, c ≠ z → c ≠ i1 → c ≠ i2 → hp.get? c = some o → p2.get? c = some o := fun c o cz c1 c2 e => hp2.extBut _ _ c2 (hp1.extBut _ _ c1 (hs0.extBut _ _ cz e))
    refine wpAny_pure ⟨_, rfl, ?_⟩
    have up : ∀ c o, p2.get? c = some o → (p2.push { cls := .type "tuple", data := .seq #[x1, x2] }).get? c = some o := fun c o e => Heap.get?_push_of_some _ e
    have hT8 : IsTupOf2 (p2.push { cls := .type "tuple", data := .seq #[x1, x2] }) p2.objs.size x1 x2 := Heap.get?_push_size _ rfl
    show Q (.ref p2.objs.size) ⟨p2.push { cls := .type "tuple", data := .seq #[x1, x2] }, g, d, tk2, os⟩
    rw [hsz] at hT8
    rw [hsz]
    obtain ⟨f0', f1', hf', hq0⟩ := hq0
    exact hQ x1 x2 _ tk2 hx1 hx2 ⟨f0', f1', hf', up _ _ (hp2.extBut _ _ S.zi2 (hp1.extBut _ _ S.zi1 hq0))⟩ ⟨a1, a2, up _ _ (hp2.extBut _ _ S.Ti2 (hp1.extBut _ _ S.Ti1 (hs0.extBut _ _ S.TOz hTO)))⟩ (D1.frame _ _ _ (D1.over sn1 hp2 S.sep2_1) fun b hb o e => up b o e) (D2.frame _ _ _ sn2 fun b hb o e => up b o e) hT8 (by rw [Heap.size_push, hsz]) fun c o cz cT c1 c2 e => up c o (hkk c o cz c1 c2 e)
theorem zipS_end {Q : PySem.Fin → Shared → Prop} (S : ZipSep2 z TI TO i1 i2 fp1 fp2) (D1 : Draws prog w A i1 fp1 n1 P1 St1) (D2 : Draws prog w A i2 fp2 n2 P2 St2)
    (hz : ZipS s.heap z TI TO) (hTI : IsPair s.heap TI (.ref i1) (.ref i2)) (hTO : ∃ a1 a2, IsPair s.heap TO a1 a2) (st1 : St1 i s.heap) (st2 : St2 i s.heap) (hle1 : i ≤ n1) (hle2 : i ≤ n2) (hend : i = n1 ∨ i = n2)
    (hE : ∀ h' tk e, (∀ c o, c ≠ z → c ≠ TO → c ≠ i1 → c ≠ i2 → s.heap.get? c = some o → h'.get? c = some o) → (∃ o, h'.get? e = some o ∧ o.cls = .type "StopIteration") → E (.ref e) { s with heap := h', toks := tk }) :
    wpAny (model prog w) A (Builtin.«zip.__next__» ⟨[.ref z], []⟩) Q E s := by
  obtain ⟨hp, g, d, tk0, os⟩ := s
  obtain ⟨f0, f1, hf, hz⟩ := hz
  obtain ⟨a1, a2, hTO⟩ := hTO
  show wpAny _ _ (field (.ref z) 2 >>= _) _ _ _
  refine wpAny_bind (wpAny_field hz rfl (x := .bool false) rfl ?_)
  show wpAny _ _ (field (.ref z) 3 >>= _) _ _ _
  refine wpAny_bind (wpAny_field hz rfl (x := .ref TI) rfl ?_)
  refine wpAny_bind (wpAny_seqItems hTI rfl ?_)
  show wpAny _ _ (Builtin.SmallTypes.ownedTupleIsFree (.ref z) >>= _) _ _ _
  refine wpAny_bind (free_zip hz hf ?_ fun q0 hq0 hs0 => ?_)
  · simp only [if_true]
    refine wpAny_bind (wpAny_rule ?_)
    refine wpAny_bind (wpAny_field hz rfl (x := .ref TO) rfl ?_)
    refine wpAny_bind (wpAny_setField_rec hz (by simp) fun g0 hz0 hs0 => ?_)
    replace hz0 : g0.get? z = some (zipO .ellipsis f1 TI TO) := hz0
    replace hs0 : Heap.SameBut z hp g0 := hs0
    refine wpAny_bind ?_
    simp only [List.zipIdx_cons, List.zipIdx_nil, List.forIn_cons, List.forIn_nil]
    refine wpAny_bind (wpAny_bind (wpAny_onRaise ?_))
    show wpAny _ _ (Builtin.SmallTypes.nextOf (.ref i1) >>= _) _ _ ⟨g0, g, d, tk0, os⟩
    by_cases hlt1 : i < n1
    · refine wpAny_bind (D1.item i _ _ _ hlt1 (D1.over st1 hs0 S.zf1) fun x1 p1 tk1 hx1 sn1 hp1 => wpAny_pure ?_)
      replace hp1 : Heap.SameBut i1 g0 p1 := hp1
      have hU1 : IsTupOf2 p1 TO a1 a2 := hp1.extBut _ _ S.Ti1 (hs0.extBut _ _ S.TOz hTO)
      refine wpAny_bind (wpAny_seqItems (s := ⟨p1, g, d, tk1, os⟩) hU1 rfl ?_)
      refine wpAny_bind (updateSeq_IsTupOf2 (s := ⟨p1, g, d, tk1, os⟩) hU1 fun g1 hT1 hs1 => ?_)
      replace hT1 : IsTupOf2 g1 TO x1 a2 := hT1
      replace hs1 : Heap.SameBut TO p1 g1 := hs1
      refine wpAny_bind (wpAny_letGo (wpAny_pure ?_))
      have hi2 : i = n2 := by omega
      refine wpAny_bind (wpAny_bind (wpAny_onRaise ?_))
      show wpAny _ _ (Builtin.SmallTypes.nextOf (.ref i2) >>= _) _ _ ⟨g1, g, d, tk1, os⟩
      refine wpAny_bind (D2.done ⟨g1, g, d, tk1, os⟩ _ _ (by rw [← hi2]; exact (D2.over (D2.over (D2.over st2 hs0 S.zf2) hp1 S.sep1_2) hs1 S.Tf2)) fun q e hq he => ?_)
      replace hq : Heap.ExtBut i2 g1 q := hq
      obtain ⟨oe, hoe, hce⟩ := he
      replace hoe : q.get? e = some oe := hoe
      have hzq : q.get? z = some (zipO .ellipsis f1 TI TO) := hq _ _ S.zi2 (hs1.extBut _ _ S.TOz.symm (hp1.extBut _ _ S.zi1 hz0))
      have hez : e ≠ z := fun x => by subst x; rw [hzq] at hoe; cases hoe; simp [zipO] at hce
      refine wpAny_setField_rec (s := ⟨q, g, d, tk1, os⟩) hzq (by simp) fun q' _ hq' => ?_
      replace hq' : Heap.SameBut z q q' := hq'
      exact hE q' tk1 e (fun c o cz cT c1 c2 x => hq'.extBut _ _ cz (hq _ _ c2 (hs1.extBut _ _ cT (hp1.extBut _ _ c1 (hs0.extBut _ _ cz x))))) ⟨oe, hq'.extBut _ _ hez hoe, hce⟩
    · have hi1 : i = n1 := by omega
      refine wpAny_bind (D1.done ⟨g0, g, d, tk0, os⟩ _ _ (by rw [← hi1]; exact (D1.over st1 hs0 S.zf1)) fun q e hq he => ?_)
      replace hq : Heap.ExtBut i1 g0 q := hq
      obtain ⟨oe, hoe, hce⟩ := he
      replace hoe : q.get? e = some oe := hoe
      have hzq : q.get? z = some (zipO .ellipsis f1 TI TO) := hq _ _ S.zi1 hz0
      have hez : e ≠ z := fun x => by subst x; rw [hzq] at hoe; cases hoe; simp [zipO] at hce
      refine wpAny_setField_rec (s := ⟨q, g, d, tk0, os⟩) hzq (by simp) fun q' _ hq' => ?_
      replace hq' : Heap.SameBut z q q' := hq'
      exact hE q' tk0 e (fun c o cz cT c1 c2 x => hq'.extBut _ _ cz (hq _ _ c1 (hs0.extBut _ _ cz x))) ⟨oe, hq'.extBut _ _ hez hoe, hce⟩
  · replace hs0 : Heap.SameBut z hp q0 := hs0
    simp only [Bool.false_eq_true, if_false]
    refine wpAny_bind ?_
    rw [← Array.forIn_toList]
    simp only [List.forIn_cons, List.forIn_nil]
    refine wpAny_bind (wpAny_bind (wpAny_holding ?_))
    show wpAny _ _ (Builtin.SmallTypes.nextOf (.ref i1) >>= _) _ _ ⟨q0, g, d, tk0, os⟩
    by_cases hlt1 : i < n1
    · refine wpAny_bind (D1.item i _ _ _ hlt1 (D1.over st1 hs0 S.zf1) fun x1 p1 tk1 hx1 sn1 hp1 => wpAny_pure ?_)
      replace hp1 : Heap.SameBut i1 q0 p1 := hp1
      refine wpAny_pure ?_
      refine wpAny_bind (wpAny_bind (wpAny_holding ?_))
      have hi2 : i = n2 := by omega
      show wpAny _ _ (Builtin.SmallTypes.nextOf (.ref i2) >>= _) _ _ ⟨p1, g, d, tk1, os⟩
      refine wpAny_bind (D2.done ⟨p1, g, d, tk1, os⟩ _ _ (by rw [← hi2]; exact (D2.over (D2.over st2 hs0 S.zf2) hp1 S.sep1_2)) fun q e hq he => ?_)
      replace hq : Heap.ExtBut i2 p1 q := hq
      exact hE q tk1 e (fun c o cz cT c1 c2 x => hq _ _ c2 (hp1.extBut _ _ c1 (hs0.extBut _ _ cz x))) he
    · have hi1 : i = n1 := by omega
      refine wpAny_bind (D1.done ⟨q0, g, d, tk0, os⟩ _ _ (by rw [← hi1]; exact (D1.over st1 hs0 S.zf1)) fun q e hq he => ?_)
      replace hq : Heap.ExtBut i1 q0 q := hq
      exact hE q tk0 e (fun c o cz cT c1 c2 x => hq _ _ c1 (hs0.extBut _ _ cz x)) he
theorem iter_zip {Q : Value → Shared → Prop} (hz : ZipS s.heap z TI TO) (h : Q (.ref z) s) : wpAny (model prog w) A (pyIter (.ref z)) Q E s := by
  obtain ⟨f0, f1, _, hz⟩ := hz
  have hT : s.TypeIs (.ref z) "zip" := ⟨_, hz, rfl⟩
  refine wpAny_pyIter_slot hT F.slot_zip_iter (wpAny_call_entry F.slot_zip_iter hT F.entry_zip_iter ?_ (F.args_zip_iter_1 _))
  show wpAny _ _ (ret (.ref z)) _ _ s
  exact wpAny_pure ⟨_, rfl, "zip", _, hT, F.slot_zip_next.lookup, h⟩
end
end Pv
set_option autoImplicit false
set_option Elab.async false
set_option linter.all false
set_option maxRecDepth 100000
set_option maxHeartbeats 4000000
/-! Sources of walks: lists, tuples, zip of them; enumerate of any. -/
namespace Pv
open PySem PySem.Spec PyProof.Rows L2

def SqK (t : Bool) (K : PySem.W.Frag) (H : Hp) (a : Addr) (xs : List V) : Prop := if t = true then SqT K H a xs else SqL K H a xs
def IterK (t : Bool) (h : Heap) (it a : Addr) (i : Nat) : Prop := if t = true then h.IsTupleIter it a i else h.IsListIter it a i
def SeqK (t : Bool) (h : Heap) (a : Addr) (its : Array Value) : Prop := if t = true then h.IsTuple a its else h.IsList a its
theorem IterK.obj {t : Bool} {h : Heap} {it a : Addr} {i : Nat} (x : IterK t h it a i) : ∃ o, h.get? it = some o ∧ o.cls = .type (if t = true then "tuple_iterator" else "list_iterator") ∧ o.data = .fields #[.ref a, .int i 0] := by
  cases t
  · obtain ⟨o, e, c, d⟩ := (show h.IsListIter it a i from x)
    exact ⟨o, e, c, d⟩
  · obtain ⟨o, e, c, d⟩ := (show h.IsTupleIter it a i from x)
    exact ⟨o, e, c, d⟩
theorem IterK.at_ {t : Bool} {h h' : Heap} {it a : Addr} {i : Nat} (x : IterK t h it a i) (k : ∀ o, h.get? it = some o → h'.get? it = some o) : IterK t h' it a i := by
  cases t
  · exact (show h.IsListIter it a i from x).at k
  · exact (show h.IsTupleIter it a i from x).at k
section
variable {X : Cx} {pins : List (Addr × Obj)} {σ : L2.St} {H : Hp} {s : Shared} {a it : Addr} {xs : List V} {t : Bool} {i : Nat}
theorem seqK_of (I : L2.Inv X pins σ H s) (h : SqK t X.K H a xs) : ∃ its, Vals xs its ∧ SeqK t s.heap a its.toArray ∧ xs.length ≤ sizeLine := by
  cases t
  · obtain ⟨its, r, p, z⟩ := I.list (show SqL X.K H a xs from h)
    exact ⟨its, r, p.isList, z⟩
  · obtain ⟨its, r, p, z⟩ := I.tuple (show SqT X.K H a xs from h)
    exact ⟨its, r, p, z⟩
theorem seqK_inj (I : L2.Inv X pins σ H s) {ys : List V} (h : SqK t X.K H a xs) (h' : SqK t X.K H a ys) : xs = ys := by
  cases t
  · exact I.list_inj (show SqL X.K H a xs from h) h'
  · exact I.tuple_inj (show SqT X.K H a xs from h) h'
theorem seqK_ne {h : Heap} {its : Array Value} (p : SeqK t h a its) (q : IterK t h it a i) : a ≠ it := fun e => by
  subst e
  obtain ⟨o, e, c, d⟩ := q.obj
  cases t
  · obtain ⟨o', e', c', n, d'⟩ := (show h.IsList a its from p)
    rw [e] at e'; cases e'
    rw [d] at d'; cases d'
  · obtain ⟨o', e', c', n, d'⟩ := (show h.IsTuple a its from p)
    rw [e] at e'; cases e'
    rw [d] at d'; cases d'
theorem drawsK {prog : Program} {w : World} {A : Around} (hA : A.handled = none) (hne : a ≠ it) (its : Array Value) : Draws prog w A it [it, a] its.size (fun i v => its[i]? = some v) (fun i h => IterK t h it a i ∧ SeqK t h a its) := by
  cases t
  · exact Draws.list hA it a hne its
  · exact Draws.tuple hA it a hne its
end
/-- what is drawn from, one value at a time -/
structure Src (P : Program) (w : World) (K : PySem.W.Frag) (J : L2.It) (fp : List Addr) (it : Addr) (tn : Nat → Heap → Prop) : Prop where
  mem : it ∈ fp
  obj : ∀ i h, tn i h → ∀ b ∈ fp, ∃ o, h.get? b = some o ∧ ∀ v, o.data ≠ Data.cell v
  keep : ∀ i h h', tn i h → (∀ b ∈ fp, ∀ o, h.get? b = some o → h'.get? b = some o) → tn i h'
  item : ∀ X : Cx, X.prog = P → X.w = w → X.K = K → ∀ A : Around, A.handled = none → ∀ (i : Nat) (pins : List (Addr × Obj)) (s : Shared) (σ : L2.St) (H : Hp) (E : Value → Shared → Prop), L2.Inv X pins σ H s → (∀ b ∈ fp, FpOk X pins H b) → tn i s.heap → J.go i H →
    wpAny (model P w) A (Builtin.SmallTypes.nextOf (.ref it)) (fun u s1 => ∃ x H', L2.Inv X pins σ H' s1 ∧ L2.RelV x u ∧ J.yld i H x H' ∧ tn (i + 1) s1.heap ∧ ∀ b ∈ fp, H' b = none) E s
  done : ∀ X : Cx, X.prog = P → X.w = w → X.K = K → ∀ A : Around, A.handled = none → ∀ (i : Nat) (pins : List (Addr × Obj)) (s : Shared) (σ : L2.St) (H : Hp) (Q : Value → Shared → Prop) (E : Value → Shared → Prop), L2.Inv X pins σ H s → (∀ b ∈ fp, FpOk X pins H b) → tn i s.heap → J.stop i H →
    (∀ (a : Addr) (o : Obj) (s1 : Shared), s1.heap.get? a = some o → o.cls = .type "StopIteration" → L2.Inv X pins σ H s1 → E (.ref a) s1) → wpAny (model P w) A (Builtin.SmallTypes.nextOf (.ref it)) Q E s
def ItK (t : Bool) (K : PySem.W.Frag) (a : Addr) : L2.It :=
  ⟨fun i H => ∃ xs x, SqK t K H a xs ∧ xs[i]? = some x, fun i H x H' => H' = H ∧ ∀ xs, SqK t K H a xs → xs[i]? = some x, fun i H => ∃ xs, SqK t K H a xs ∧ xs.length = i⟩
theorem src_seq {P : Program} {w : World} {K : PySem.W.Frag} (t : Bool) (a it : Addr) : Src P w K (ItK t K a) [it] it (fun i h => IterK t h it a i) where
  mem := by simp
  obj := fun i h st b hb => by
    have e : b = it := by simpa using hb
    subst e
    obtain ⟨o, e, c, d⟩ := st.obj
    exact ⟨o, e, fun v z => by rw [d] at z; cases z⟩
  keep := fun i h h' st k => st.at_ fun o e => k it (by simp) o e
  item := by
    intro X hP hw hK A hA i pins s σ H E I hf st hg
    subst hP hw hK
    obtain ⟨xs, x, hq, hx⟩ := hg
    obtain ⟨its, rv, p, hz⟩ := seqK_of I hq
    obtain ⟨u, hu, ru⟩ := rv.get hx
    obtain ⟨f0, f1, f2, f3, f4, f5⟩ := hf it (by simp)
    have hi : i < its.toArray.size := by
      rw [List.size_toArray]
      exact (List.getElem?_eq_some_iff.mp hu).1
    refine (drawsK (t := t) hA (seqK_ne p st) its.toArray).item i s _ _ hi ⟨st, p⟩ fun x' h' tk hx' st' sb => ?_
    have e : u = x' := by
      have z : its[i]? = some x' := by simpa using hx'
      rw [hu] at z
      exact Option.some.inj z
    subst e
    have I1 : L2.Inv X pins σ H { s with heap := h', toks := tk } := I.turned (t' := tk) (fun b o hb e => (sb.2 b hb).trans e) f0 f1 f3 f4 f5
    exact ⟨x, H, I1, ru, ⟨rfl, fun ys hy => by rw [seqK_inj I hy hq]; exact hx⟩, st'.1, fun b hb => (hf b hb).1⟩
  done := by
    intro X hP hw hK A hA i pins s σ H Q E I hf st hg hE
    subst hP hw hK
    obtain ⟨xs, hq, hx⟩ := hg
    obtain ⟨its, rv, p, hz⟩ := seqK_of I hq
    obtain ⟨f0, f1, f2, f3, f4, f5⟩ := hf it (by simp)
    have hl := rv.length
    have hi : i = its.toArray.size := by rw [List.size_toArray]; omega
    subst hi
    exact (drawsK (t := t) hA (seqK_ne p st) its.toArray).done s _ _ ⟨st, p⟩ fun h' e eb ⟨o, ho, hc⟩ => hE e o _ ho hc (I.turned (t' := s.toks) (fun b o hb e => eb b o hb e) f0 f1 f3 f4 f5)
def ItZ (t1 t2 : Bool) (K : PySem.W.Frag) (a b : Addr) : L2.It :=
  ⟨fun i H => ∃ xs ys x y, SqK t1 K H a xs ∧ SqK t2 K H b ys ∧ xs[i]? = some x ∧ ys[i]? = some y,
    fun i H v H' => ∃ T x y, v = .ref T ∧ H T = none ∧ H' = upd H T (.tup [x, y]) ∧ (∀ xs, SqK t1 K H a xs → xs[i]? = some x) ∧ ∀ ys, SqK t2 K H b ys → ys[i]? = some y,
    fun i H => ∃ xs ys, SqK t1 K H a xs ∧ SqK t2 K H b ys ∧ i ≤ xs.length ∧ i ≤ ys.length ∧ (i = xs.length ∨ i = ys.length)⟩
def TnZ (t1 t2 : Bool) (z TI TO i1 i2 a b : Addr) (i : Nat) (h : Heap) : Prop := ZipS h z TI TO ∧ IsPair h TI (.ref i1) (.ref i2) ∧ (∃ x y, IsPair h TO x y) ∧ IterK t1 h i1 a i ∧ IterK t2 h i2 b i
theorem src_zip {P : Program} {w : World} {K : PySem.W.Frag} {t1 t2 : Bool} {a b z TI TO i1 i2 : Addr} (D : ZipSep2 z TI TO i1 i2 [i1, a] [i2, b]) : Src P w K (ItZ t1 t2 K a b) [z, TI, TO, i1, i2] z (TnZ t1 t2 z TI TO i1 i2 a b) where
  mem := by simp
  obj := fun i h st c hc => by
    obtain ⟨⟨f0, f1, _, hz⟩, hTI, ⟨x, y, hTO⟩, h1, h2⟩ := st
    obtain ⟨o1, e1, _, d1⟩ := h1.obj
    obtain ⟨o2, e2, _, d2⟩ := h2.obj
    have e' : c = z ∨ c = TI ∨ c = TO ∨ c = i1 ∨ c = i2 := by simpa using hc
    rcases e' with q | q | q | q | q
    · rw [q]; exact ⟨_, hz, fun v q => nomatch q⟩
    · rw [q]; exact ⟨_, hTI, fun v q => nomatch q⟩
    · rw [q]; exact ⟨_, hTO, fun v q => nomatch q⟩
    · rw [q]; exact ⟨o1, e1, fun v q => by rw [d1] at q; cases q⟩
    · rw [q]; exact ⟨o2, e2, fun v q => by rw [d2] at q; cases q⟩
  keep := fun i h h' st k => by
    obtain ⟨⟨f0, f1, hf, hz⟩, hTI, ⟨x, y, hTO⟩, h1, h2⟩ := st
    exact ⟨⟨f0, f1, hf, k z (by simp) _ hz⟩, k TI (by simp) _ hTI, ⟨x, y, k TO (by simp) _ hTO⟩, h1.at_ fun o q => k i1 (by simp) o q, h2.at_ fun o q => k i2 (by simp) o q⟩
  item := by
    intro X hP hw hK A hA i pins s σ H E I hf st hg
    subst hP hw hK
    obtain ⟨hz, hTI, hTO, h1, h2⟩ := st
    obtain ⟨xs, ys, x, y, hqx, hqy, hx, hy⟩ := hg
    obtain ⟨its, rv, p, _⟩ := seqK_of I hqx
    obtain ⟨its2, rv2, p2, _⟩ := seqK_of I hqy
    obtain ⟨u, hu, ru⟩ := rv.get hx
    obtain ⟨u2, hu2, ru2⟩ := rv2.get hy
    have hl1 : i < its.toArray.size := by rw [List.size_toArray]; exact (List.getElem?_eq_some_iff.mp hu).1
    have hl2 : i < its2.toArray.size := by rw [List.size_toArray]; exact (List.getElem?_eq_some_iff.mp hu2).1
    have hT : s.TypeIs (.ref z) "zip" := by
      obtain ⟨f0, f1, _, hz⟩ := hz
      exact ⟨_, hz, rfl⟩
    unfold Builtin.SmallTypes.nextOf
    refine wpAny_bind (wpAny_callSpecial?_slot (name := Str.ofString "__next__") hT F.slot_zip_next (wpAny_call_entry F.slot_zip_next hT F.entry_zip_next
      (zipS_item D (drawsK (t := t1) (A := A.in1) hA (seqK_ne p h1) its.toArray) (drawsK (t := t2) (A := A.in1) hA (seqK_ne p2 h2) its2.toArray) hz hTI hTO ⟨h1, p⟩ ⟨h2, p2⟩ hl1 hl2 fun x1 x2 h' tk hx1 hx2 z' TO' k1 k2 hT' hsz hk => wpAny_pure ?_) (F.args_zip_next_1 _)))
    have e1 : u = x1 := by
      have z : its[i]? = some x1 := by simpa using hx1
      rw [hu] at z
      exact Option.some.inj z
    have e2 : u2 = x2 := by
      have z : its2[i]? = some x2 := by simpa using hx2
      rw [hu2] at z
      exact Option.some.inj z
    subst e1 e2
    have new : ObjOk X.prog X.w (upd H s.heap.objs.size (.tup [x, y])) h' s.heap.objs.size (.tup [x, y]) := ⟨by show 2 ≤ sizeLine; decide, [u, u2], .cons ru (.cons ru2 .nil), ⟨_, hT', rfl, _, rfl⟩⟩
    have I1 : L2.Inv X pins σ (upd H s.heap.objs.size (.tup [x, y])) { s with heap := h', toks := tk } :=
      I.turnedNew (t' := tk) (ch := [z, TI, TO, i1, i2]) (fun c o hb q => hk c o (fun q' => hb (by simp [q'])) (fun q' => hb (by simp [q'])) (fun q' => hb (by simp [q'])) (fun q' => hb (by simp [q'])) q) hf (Nat.le_refl _) new
    have hlt : ∀ c ∈ [z, TI, TO, i1, i2], c < s.heap.objs.size := fun c hc => by
      have e' : c = z ∨ c = TI ∨ c = TO ∨ c = i1 ∨ c = i2 := by simpa using hc
      rcases e' with q | q | q | q | q
      · obtain ⟨f0, f1, _, hz⟩ := hz; rw [q]; exact Heap.lt_size hz
      · rw [q]; exact Heap.lt_size hTI
      · obtain ⟨_, _, e⟩ := hTO; rw [q]; exact Heap.lt_size e
      · obtain ⟨_, e, _⟩ := h1.obj; rw [q]; exact Heap.lt_size e
      · obtain ⟨_, e, _⟩ := h2.obj; rw [q]; exact Heap.lt_size e
    refine ⟨.ref s.heap.objs.size, _, I1, rfl, ⟨_, x, y, rfl, I.hok.fresh (Nat.le_refl _), rfl, fun l hl => by rw [seqK_inj I hl hqx]; exact hx, fun l hl => by rw [seqK_inj I hl hqy]; exact hy⟩, ⟨z', hk _ _ D.TIz D.TITO D.TIi1 D.TIi2 hTI, TO', k1.1, k2.1⟩, fun c hc => ?_⟩
    rw [upd_ne (Nat.ne_of_lt (hlt c hc))]
    exact (hf c hc).1
  done := by
    intro X hP hw hK A hA i pins s σ H Q E I hf st hg hE
    subst hP hw hK
    obtain ⟨hz, hTI, hTO, h1, h2⟩ := st
    obtain ⟨xs, ys, hqx, hqy, hi1, hi2, hend⟩ := hg
    obtain ⟨its, rv, p, _⟩ := seqK_of I hqx
    obtain ⟨its2, rv2, p2, _⟩ := seqK_of I hqy
    have l1 := rv.length
    have l2 := rv2.length
    have s1 : its.toArray.size = xs.length := by rw [List.size_toArray]; omega
    have s2 : its2.toArray.size = ys.length := by rw [List.size_toArray]; omega
    have hT : s.TypeIs (.ref z) "zip" := by
      obtain ⟨f0, f1, _, hz⟩ := hz
      exact ⟨_, hz, rfl⟩
    unfold Builtin.SmallTypes.nextOf
    refine wpAny_bind (wpAny_callSpecial?_slot (name := Str.ofString "__next__") hT F.slot_zip_next (wpAny_call_entry F.slot_zip_next hT F.entry_zip_next
      (zipS_end D (drawsK (t := t1) (A := A.in1) hA (seqK_ne p h1) its.toArray) (drawsK (t := t2) (A := A.in1) hA (seqK_ne p2 h2) its2.toArray) hz hTI hTO ⟨h1, p⟩ ⟨h2, p2⟩ (by omega) (by omega) (by omega) fun h' tk e hk ⟨o, ho, hc⟩ => hE e o _ ho hc ?_) (F.args_zip_next_1 _)))
    exact I.turnedL (t' := tk) (ch := [z, TI, TO, i1, i2]) (fun c o hb q => hk c o (fun q' => hb (by simp [q'])) (fun q' => hb (by simp [q'])) (fun q' => hb (by simp [q'])) (fun q' => hb (by simp [q'])) q) hf
/-- pairs of the turn's number and what is drawn -/
def ItEn (J : L2.It) : L2.It := ⟨J.go, fun i H v H' => ∃ T x H1, v = .ref T ∧ J.yld i H x H1 ∧ H1 T = none ∧ H' = upd H1 T (.tup [.int (i : Nat), x]), J.stop⟩
theorem turnE {P : Program} {w : World} {K : PySem.W.Frag} {elts : List Expr} {kk : Nat} {tpos : Pos} {J : L2.It} {fp : List Addr} {it e : Addr} {tn : Nat → Heap → Prop} (S : Src P w K J fp it tn) (hne : e ∉ fp) :
    Turn P w K (.Tuple elts kk tpos) (ItEn J) (e :: fp) e (fun i h => (∃ old, IsEnum h e it ((i : Nat) : Int) old) ∧ tn i h) where
  mem := by simp
  obj := fun i h st b hb => by
    rcases List.mem_cons.mp hb with q | q
    · obtain ⟨⟨old, he⟩, _⟩ := st
      rw [q]
      exact ⟨_, he, fun v q => nomatch q⟩
    · exact S.obj i h st.2 b q
  keep := fun i h h' st k => ⟨let ⟨old, he⟩ := st.1; ⟨old, k e (by simp) _ he⟩, S.keep i h h' st.2 fun b hb => k b (List.mem_cons_of_mem _ hb)⟩
  item := by
    intro X hP hw hK hc i pins s σ H E I hf st hg
    subst hP hw hK
    obtain ⟨⟨old, he⟩, hst⟩ := st
    have fe := hf e (by simp)
    have I0 := I.pinned (fp := [e]) (fun b hb => by rw [List.mem_singleton.mp hb]; exact fe) (fun b hb => by rw [List.mem_singleton.mp hb]; exact ⟨_, he, fun v q => nomatch q⟩)
    have hfp : ∀ b ∈ fp, FpOk X (pins ++ pinsAt [e] s.heap) H b := fun b hb => by
      obtain ⟨g0, g1, g2, g3, g4, g5⟩ := hf b (List.mem_cons_of_mem _ hb)
      refine ⟨g0, g1, g2, g3, g4, fun p hp => ?_⟩
      rcases List.mem_append.mp hp with q | q
      · exact g5 p (List.mem_append_left _ q)
      · rcases List.mem_append.mp q with q | q
        · exact g5 p (List.mem_append_right _ q)
        · have : p.1 = e := by
            unfold pinsAt at q
            rw [List.filterMap_cons, he] at q
            simp at q
            rw [q]
          rw [this]
          exact fun z => hne (z ▸ hb)
    have hT : s.TypeIs (.ref e) "enumerate" := ⟨_, he, rfl⟩
    unfold pyNext
    refine wpAny_bind (wpAny_attempt (wpAny_callSpecial?_slot (name := Str.ofString "__next__") hT F.slot_enumerate_next (wpAny_call_entry F.slot_enumerate_next hT F.entry_enumerate_next ?_ (F.args_enumerate_next_1 _))))
    show wpAny _ _ (field (.ref e) 2 >>= _) _ _ _
    refine wpAny_bind (wpAny_field he rfl (x := .ref it) rfl ?_)
    refine wpAny_bind (thn (S.item X rfl rfl rfl X.A.in1 (I.ok.hd hc) i _ s σ H _ I0 hfp hst hg) fun u s1 ⟨x, H1, I1, ru, hy, st1, n1⟩ => ?_)
    have pe := I1.pin (e, _) (List.mem_append_right _ (List.mem_append_right _ (mem_pinsAt (by simp) he)))
    have he1 : IsEnum s1.heap e it ((i : Nat) : Int) old := pe.1
    have He : H1 e = none := pe.2.1
    have I2 : L2.Inv X pins σ H1 s1 := I1.unpinned
    show wpAny _ _ (field (.ref e) 3 >>= _) _ _ s1
    refine wpAny_bind (wpAny_field he1 rfl (x := rawInt ((i : Nat) : Int)) rfl ?_)
    show wpAny _ _ (field (.ref e) 4 >>= _) _ _ s1
    refine wpAny_bind (wpAny_field he1 rfl (x := .none) rfl ?_)
    show wpAny _ _ (mkInt ((i : Nat) : Int) >>= _) _ _ s1
    refine wpAny_bind (wpAny_mkInt ?_)
    show wpAny _ _ (setField (.ref e) 3 (rawInt (((i : Nat) : Int) + 1)) >>= _) _ _ { s1 with toks := s1.toks + 1 }
    refine wpAny_bind (wpAny_setField_rec (s := { s1 with toks := s1.toks + 1 }) he1 (by simp) fun h2 he2 hs2 => ?_)
    replace hs2 : Heap.SameBut e s1.heap h2 := hs2
    replace he2 : IsEnum h2 e it (((i : Nat) : Int) + 1) old := he2
    refine wpAny_bind (wpAny_setField_rec (s := { s1 with heap := h2, toks := s1.toks + 1 }) he2 (by simp) fun h3 he3 hs3 => ?_)
    replace hs3 : Heap.SameBut e h2 h3 := hs3
    replace he3 : IsEnum h3 e it (((i : Nat) : Int) + 1) old := he3
    show wpAny _ _ (newTuple [.int ((i : Nat) : Int) s1.toks, u] >>= _) _ _ { s1 with heap := h3, toks := s1.toks + 1 }
    refine wpAny_bind (wpAny_newTuple ?_)
    generalize hh4 : h3.push { cls := .type "tuple", data := .seq #[.int ((i : Nat) : Int) s1.toks, u] } = h4
    have he4 : IsEnum h4 e it (((i : Nat) : Int) + 1) old := by rw [← hh4]; exact Heap.get?_push_of_some _ he3
    have hsz : h3.objs.size = s1.heap.objs.size := by rw [hs3.1, hs2.1]
    have hel : e < s1.heap.objs.size := Heap.lt_size he1
    have ht4 : h4.get? s1.heap.objs.size = some { cls := .type "tuple", data := .seq #[.int ((i : Nat) : Int) s1.toks, u] } := by rw [← hh4, ← hsz]; exact Heap.get?_push_size _ rfl
    have hk4 : ∀ b o, b ≠ e → s1.heap.get? b = some o → h4.get? b = some o := fun b o hbe hb => by rw [← hh4]; exact Heap.get?_push_of_some _ (hs3.extBut b o hbe (hs2.extBut b o hbe hb))
    show wpAny _ _ (Builtin.SmallTypes.ownedTupleIsFree (.ref e) >>= _) _ _ { s1 with heap := h4, toks := s1.toks + 1 }
    rw [hsz]
    refine wpAny_bind ?_
    unfold Builtin.SmallTypes.ownedTupleIsFree
    refine wpAny_bind (wpAny_field (s := { s1 with heap := h4, toks := s1.toks + 1 }) he4 rfl (x := .none) rfl (wpAny_pure ?_))
    simp only [if_true]
    refine wpAny_bind (wpAny_rule ?_)
    refine wpAny_bind (wpAny_field (s := { s1 with heap := h4, toks := s1.toks + 1 }) he4 rfl (x := old) rfl ?_)
    refine wpAny_bind (wpAny_setField_rec (s := { s1 with heap := h4, toks := s1.toks + 1 }) he4 (by simp) fun h5 he5 hs5 => ?_)
    replace hs5 : Heap.SameBut e h4 h5 := hs5
    replace he5 : IsEnum h5 e it (((i : Nat) : Int) + 1) u := he5
    show wpAny _ _ (Builtin.SmallTypes.ownedTupleHandOut (.ref e) (.ref s1.heap.objs.size) >>= _) _ _ { s1 with heap := h5, toks := s1.toks + 1 }
    refine wpAny_bind ?_
    unfold Builtin.SmallTypes.ownedTupleHandOut
    refine wpAny_bind (wpAny_setField_rec (s := { s1 with heap := h5, toks := s1.toks + 1 }) he5 (by simp) fun h6 he6 hs6 => ?_)
    replace hs6 : Heap.SameBut e h5 h6 := hs6
    replace he6 : IsEnumOut h6 e it (((i : Nat) : Int) + 1) u s1.heap.objs.size := he6
    refine wpAny_setField_rec (s := { s1 with heap := h6, toks := s1.toks + 1 }) he6 (by simp) fun h7 he7 hs7 => ?_
    replace hs7 : Heap.SameBut e h6 h7 := hs7
    replace he7 : IsEnumOut h7 e it (((i : Nat) : Int) + 1) u s1.heap.objs.size := he7
    refine wpAny_bind (wpAny_letGo (wpAny_pure ⟨_, rfl, wpAny_pure ⟨_, rfl, ?_⟩⟩))
    refine wpAny_letOwnedTupleGo_enum (s := { s1 with heap := h7, toks := s1.toks + 1 }) he7 fun h8 he8 hs8 => ?_
    replace hs8 : Heap.SameBut e h7 h8 := hs8
    have hk8 : ∀ b o, b ≠ e → s1.heap.get? b = some o → h8.get? b = some o := fun b o hb q => hs8.extBut b o hb (hs7.extBut b o hb (hs6.extBut b o hb (hs5.extBut b o hb (hk4 b o hb q))))
    have ht8 : h8.get? s1.heap.objs.size = some { cls := .type "tuple", data := .seq #[.int ((i : Nat) : Int) s1.toks, u] } :=
      hs8.extBut _ _ (Nat.ne_of_gt hel) (hs7.extBut _ _ (Nat.ne_of_gt hel) (hs6.extBut _ _ (Nat.ne_of_gt hel) (hs5.extBut _ _ (Nat.ne_of_gt hel) ht4)))
    have new : ObjOk X.prog X.w (upd H1 s1.heap.objs.size (.tup [.int (i : Nat), x])) h8 s1.heap.objs.size (.tup [.int (i : Nat), x]) := ⟨by show 2 ≤ sizeLine; decide, [.int i s1.toks, u], .cons ⟨_, rfl⟩ (.cons ru .nil), ⟨_, ht8, rfl, _, rfl⟩⟩
    have I3 : L2.Inv X pins σ (upd H1 s1.heap.objs.size (.tup [.int (i : Nat), x])) { s1 with heap := h8, toks := s1.toks + 1 } :=
      I2.turnedNew (ch := [e]) (fun b o hb q => hk8 b o (fun z => hb (by simp [z])) q) (fun b hb => by
        rw [List.mem_singleton.mp hb]
        exact ⟨He, fe.2⟩) (Nat.le_refl _) new
    have n3 : ∀ b ∈ e :: fp, b < s1.heap.objs.size ∧ H1 b = none := fun b hb => by
      rcases List.mem_cons.mp hb with q | q
      · rw [q]; exact ⟨hel, He⟩
      · obtain ⟨o, e', _⟩ := S.obj _ _ st1 b q
        exact ⟨Heap.lt_size e', n1 b q⟩
    refine ⟨.ref s1.heap.objs.size, _, I3, rfl, ⟨_, x, H1, rfl, hy, I2.hok.fresh (Nat.le_refl _), rfl⟩, ⟨⟨u, ?_⟩, S.keep _ _ _ st1 fun b hb o q => hk8 b o (fun z => hne (z ▸ hb)) q⟩, fun b hb => ?_⟩
    · have e1 : ((i + 1 : Nat) : Int) = (i : Int) + 1 := by omega
      rw [e1]; exact he8
    · rw [upd_ne (Nat.ne_of_lt (n3 b hb).1)]
      exact (n3 b hb).2
  done := by
    intro X hP hw hK hc i pins s σ H E I hf st hg
    subst hP hw hK
    obtain ⟨⟨old, he⟩, hst⟩ := st
    have hT : s.TypeIs (.ref e) "enumerate" := ⟨_, he, rfl⟩
    unfold pyNext
    refine wpAny_bind (wpAny_attempt (wpAny_callSpecial?_slot (name := Str.ofString "__next__") hT F.slot_enumerate_next (wpAny_call_entry F.slot_enumerate_next hT F.entry_enumerate_next ?_ (F.args_enumerate_next_1 _))))
    show wpAny _ _ (field (.ref e) 2 >>= _) _ _ _
    refine wpAny_bind (wpAny_field he rfl (x := .ref it) rfl ?_)
    refine wpAny_bind (S.done X rfl rfl rfl X.A.in1 (I.ok.hd hc) i pins s σ H _ _ I (fun b hb => hf b (List.mem_cons_of_mem _ hb)) hst hg fun a o s1 ho hcl I1 => ?_)
    refine wpAny_bind (wpAny_isInstance (T := "StopIteration") (b := true) ⟨o, ho, hcl⟩ isSubtype_stop ?_)
    exact wpAny_pure ⟨rfl, I1⟩
  self := fun A i s Q E st h => let ⟨⟨_, he⟩, _⟩ := st; wpAny_pyIter_enum he h
end Pv
set_option autoImplicit false
set_option Elab.async false
set_option linter.all false
set_option maxRecDepth 100000
set_option maxHeartbeats 4000000
/-! The walks zip(..), enumerate(..), enumerate(zip(..)). -/
namespace Pv
open PySem PySem.Spec PyProof.Rows L2

section
variable {prog : Program} {w : World} {A : Around} {E : Value → Shared → Prop} {s : Shared} {z TI TO T : Addr}
theorem go_zip {elts : List Expr} {k : Nat} {p : Pos} {Q : Unit → Shared → Prop} (hz : ZipS s.heap z TI TO) (hQ : ∀ h', ZipS h' z TI TO → Heap.SameBut z s.heap h' → Q () { s with heap := h' }) :
    wpAny (model prog w) A (letOwnedTupleGo (.Tuple elts k p) (.ref z) (.ref T)) Q E s := by
  obtain ⟨f0, f1, hf, hz⟩ := hz
  unfold letOwnedTupleGo
  dsimp only
  refine wpAny_bind (wpAny_load hz ?_)
  dsimp only [zipO]
  split
  · refine wpAny_bind (wpAny_rule ?_)
    show wpAny _ _ (setField (.ref z) 0 .none) Q E s
    exact wpAny_setField_rec hz (by simp) fun h' hz' hs' => hQ h' ⟨.none, f1, .inl rfl, hz'⟩ hs'
  · exact wpAny_pure (hQ s.heap ⟨f0, f1, hf, hz⟩ (Heap.SameBut.refl _ _))
end
theorem turnZ {P : Program} {w : World} {K : PySem.W.Frag} {elts : List Expr} {kk : Nat} {tpos : Pos} {t1 t2 : Bool} {a b z TI TO i1 i2 : Addr} (D : ZipSep2 z TI TO i1 i2 [i1, a] [i2, b]) :
    Turn P w K (.Tuple elts kk tpos) (ItZ t1 t2 K a b) [z, TI, TO, i1, i2] z (TnZ t1 t2 z TI TO i1 i2 a b) where
  mem := by simp
  obj := (src_zip (P := P) (w := w) (K := K) (t1 := t1) (t2 := t2) D).obj
  keep := (src_zip (P := P) (w := w) (K := K) (t1 := t1) (t2 := t2) D).keep
  item := by
    intro X hP hw hK hc i pins s σ H E I hf st hg
    subst hP hw hK
    have hA : X.A.handled = none := I.ok.hd hc
    obtain ⟨hz, hTI, hTO, h1, h2⟩ := st
    obtain ⟨xs, ys, x, y, hqx, hqy, hx, hy⟩ := hg
    obtain ⟨its, rv, p, _⟩ := seqK_of I hqx
    obtain ⟨its2, rv2, p2, _⟩ := seqK_of I hqy
    obtain ⟨u, hu, ru⟩ := rv.get hx
    obtain ⟨u2, hu2, ru2⟩ := rv2.get hy
    have hl1 : i < its.toArray.size := by rw [List.size_toArray]; exact (List.getElem?_eq_some_iff.mp hu).1
    have hl2 : i < its2.toArray.size := by rw [List.size_toArray]; exact (List.getElem?_eq_some_iff.mp hu2).1
    have hT : s.TypeIs (.ref z) "zip" := by
      obtain ⟨f0, f1, _, hz⟩ := hz
      exact ⟨_, hz, rfl⟩
    have hzl : z < s.heap.objs.size := by
      obtain ⟨f0, f1, _, hz⟩ := hz
      exact Heap.lt_size hz
    have hlt : ∀ c ∈ [z, TI, TO, i1, i2], c < s.heap.objs.size := fun c hc => by
      have e' : c = z ∨ c = TI ∨ c = TO ∨ c = i1 ∨ c = i2 := by simpa using hc
      rcases e' with q | q | q | q | q
      · rw [q]; exact hzl
      · rw [q]; exact Heap.lt_size hTI
      · obtain ⟨_, _, e⟩ := hTO; rw [q]; exact Heap.lt_size e
      · obtain ⟨_, e, _⟩ := h1.obj; rw [q]; exact Heap.lt_size e
      · obtain ⟨_, e, _⟩ := h2.obj; rw [q]; exact Heap.lt_size e
    unfold pyNext
    refine wpAny_bind (wpAny_attempt (wpAny_callSpecial?_slot (name := Str.ofString "__next__") hT F.slot_zip_next (wpAny_call_entry F.slot_zip_next hT F.entry_zip_next
      (zipS_item D (drawsK (t := t1) (A := X.A.in1) hA (seqK_ne p h1) its.toArray) (drawsK (t := t2) (A := X.A.in1) hA (seqK_ne p2 h2) its2.toArray) hz hTI hTO ⟨h1, p⟩ ⟨h2, p2⟩ hl1 hl2 fun x1 x2 h' tk hx1 hx2 z' TO' k1 k2 hT' hsz hk => wpAny_pure ⟨_, rfl, ?_⟩) (F.args_zip_next_1 _))))
    refine go_zip (s := { s with heap := h', toks := tk }) z' fun h8 z8 hs8 => ?_
    replace hs8 : Heap.SameBut z h' h8 := hs8
    have e1 : u = x1 := by
      have z : its[i]? = some x1 := by simpa using hx1
      rw [hu] at z
      exact Option.some.inj z
    have e2 : u2 = x2 := by
      have z : its2[i]? = some x2 := by simpa using hx2
      rw [hu2] at z
      exact Option.some.inj z
    subst e1 e2
    have hT8 : IsPair h8 s.heap.objs.size u u2 := hs8.extBut _ _ (Nat.ne_of_gt hzl) hT'
    have new : ObjOk X.prog X.w (upd H s.heap.objs.size (.tup [x, y])) h8 s.heap.objs.size (.tup [x, y]) := ⟨by show 2 ≤ sizeLine; decide, [u, u2], .cons ru (.cons ru2 .nil), ⟨_, hT8, rfl, _, rfl⟩⟩
    have I1 : L2.Inv X pins σ (upd H s.heap.objs.size (.tup [x, y])) { s with heap := h8, toks := tk } :=
      I.turnedNew (t' := tk) (ch := [z, TI, TO, i1, i2]) (fun c o hb q => hs8.extBut _ _ (fun q' => hb (by simp [q'])) (hk c o (fun q' => hb (by simp [q'])) (fun q' => hb (by simp [q'])) (fun q' => hb (by simp [q'])) (fun q' => hb (by simp [q'])) q)) hf (Nat.le_refl _) new
    have i1z : i1 ≠ z := fun q => D.zf1 (by rw [← q]; simp)
    have i2z : i2 ≠ z := fun q => D.zf2 (by rw [← q]; simp)
    refine ⟨.ref s.heap.objs.size, _, I1, rfl, ⟨_, x, y, rfl, I.hok.fresh (Nat.le_refl _), rfl, fun l hl => by rw [seqK_inj I hl hqx]; exact hx, fun l hl => by rw [seqK_inj I hl hqy]; exact hy⟩, ⟨z8, hs8.extBut _ _ D.TIz (hk _ _ D.TIz D.TITO D.TIi1 D.TIi2 hTI), ?_, k1.1.at_ fun o q => hs8.extBut _ _ i1z q, k2.1.at_ fun o q => hs8.extBut _ _ i2z q⟩, fun c hc => ?_⟩
    · obtain ⟨c1, c2, e⟩ := TO'
      exact ⟨c1, c2, hs8.extBut _ _ D.TOz e⟩
    · rw [upd_ne (Nat.ne_of_lt (hlt c hc))]
      exact (hf c hc).1
  done := by
    intro X hP hw hK hc i pins s σ H E I hf st hg
    subst hP hw hK
    have hA : X.A.handled = none := I.ok.hd hc
    obtain ⟨hz, hTI, hTO, h1, h2⟩ := st
    obtain ⟨xs, ys, hqx, hqy, hi1, hi2, hend⟩ := hg
    obtain ⟨its, rv, p, _⟩ := seqK_of I hqx
    obtain ⟨its2, rv2, p2, _⟩ := seqK_of I hqy
    have l1 := rv.length
    have l2 := rv2.length
    have s1 : its.toArray.size = xs.length := by rw [List.size_toArray]; omega
    have s2 : its2.toArray.size = ys.length := by rw [List.size_toArray]; omega
    have hT : s.TypeIs (.ref z) "zip" := by
      obtain ⟨f0, f1, _, hz⟩ := hz
      exact ⟨_, hz, rfl⟩
    unfold pyNext
    refine wpAny_bind (wpAny_attempt (wpAny_callSpecial?_slot (name := Str.ofString "__next__") hT F.slot_zip_next (wpAny_call_entry F.slot_zip_next hT F.entry_zip_next
      (zipS_end D (drawsK (t := t1) (A := X.A.in1) hA (seqK_ne p h1) its.toArray) (drawsK (t := t2) (A := X.A.in1) hA (seqK_ne p2 h2) its2.toArray) hz hTI hTO ⟨h1, p⟩ ⟨h2, p2⟩ (by omega) (by omega) (by omega) fun h' tk e hk ⟨o, ho, hcl⟩ => ?_) (F.args_zip_next_1 _))))
    refine wpAny_bind (wpAny_isInstance (T := "StopIteration") (b := true) ⟨o, ho, hcl⟩ isSubtype_stop ?_)
    exact wpAny_pure ⟨rfl, I.turnedL (t' := tk) (ch := [z, TI, TO, i1, i2]) (fun c o hb q => hk c o (fun q' => hb (by simp [q'])) (fun q' => hb (by simp [q'])) (fun q' => hb (by simp [q'])) (fun q' => hb (by simp [q'])) q) hf⟩
  self := fun A i s Q E st h => iter_zip st.1 h
/-! ### how they begin -/
def iterO (t : Bool) (a : Addr) : Obj := { cls := .type (if t = true then "tuple_iterator" else "list_iterator"), data := .fields #[.ref a, .int 0 0] }
theorem beginsK (t : Bool) (a : Addr) (its : Array Value) : Begins (.ref a) (iterO t a) fun h => SeqK t h a its := by
  cases t
  · exact begins_list a its
  · exact begins_tuple a its
theorem iterK0 {t : Bool} {h : Heap} {a it : Addr} (e : h.get? it = some (iterO t a)) : IterK t h it a 0 := by
  cases t
  · exact ⟨_, e, rfl, rfl⟩
  · exact ⟨_, e, rfl, rfl⟩
/-- iter(v) is the object at it, the heap h1 then -/
def IterTo (v : Value) (it : Addr) (h h1 : Heap) : Prop := ∀ (prog : Program) (w : World) (A : Around) (E : Value → Shared → Prop) (Q : Value → Shared → Prop) (s : Shared), s.heap = h → Q (.ref it) { s with heap := h1 } → wpAny (model prog w) A (pyIter v) Q E s
theorem meets_enum1 (v : Value) (it : Addr) (h1 : Heap) : Meets (Builtin.«enumerate.__new__» ⟨[.type "enumerate", v], []⟩) (fun _ R s => IterTo v it s.heap h1 ∧ R (.ok (.ret (.ref h1.objs.size))) { s with heap := h1.push { cls := .type "enumerate", data := .fields #[.none, .bool false, .ref it, rawInt 0, .none, .none] } }) :=
  .of_wp fun prog w A R s hh => by
    obtain ⟨hp, g, d, tk, os⟩ := s
    obtain ⟨hi, h⟩ := hh
    have hsub := sub_enumerate
    have q1 : ∀ {A' : Around} {E : Value → Shared → Prop} {Q : Value → Shared → Prop}, Q (.ref it) ⟨h1, g, d, tk, os⟩ → wpAny (model prog w) A' (pyIter v) Q E ⟨hp, g, d, tk, os⟩ := fun q => hi prog w _ _ _ ⟨hp, g, d, tk, os⟩ rfl q
    wp_walk
    refine wpAny_stack_any fun st => wpAny_pure ?_
    split
    · rename_i c _ _ _ _ _
      cases (c == Value.type "enumerate")
      · wp_walk using q1
        exact ⟨_, rfl, h⟩
      · wp_walk using q1
        exact ⟨_, rfl, h⟩
    · wp_walk using q1
      exact ⟨_, rfl, h⟩
theorem call_enum1 {prog : Program} {w : World} {A : Around} {E : Value → Shared → Prop} {s : Shared} {v : Value} {it : Addr} {h1 : Heap} {Q : Value → Shared → Prop} (hi : IterTo v it s.heap h1)
    (h : ∀ h', IsEnum h' h1.objs.size it 0 .none → (∀ b o, h1.get? b = some o → h'.get? b = some o) → Q (.ref h1.objs.size) { s with heap := h' }) : wpAny (model prog w) A (call (.type "enumerate") [v]) Q E s := by
  refine callType_new F.called_enumerate (by decide) (F.typeCall_enumerate_1 _) (F.newCall_enumerate_1 _) (fun obj => F.args_object_init_2 obj _) F.entry_enumerate_new (meets_enum1 v it h1) ⟨hi, ?_⟩
  have he : IsEnum (h1.push { cls := .type "enumerate", data := .fields #[.none, .bool false, .ref it, rawInt 0, .none, .none] }) h1.objs.size it 0 .none := Heap.get?_push_size _ rfl
  exact ⟨⟨_, he, rfl⟩, h _ he fun b o y => Heap.get?_push_of_some _ y⟩
end Pv
set_option autoImplicit false
set_option Elab.async false
set_option linter.all false
set_option maxRecDepth 100000
set_option maxHeartbeats 4000000
/-! zip(..), enumerate(..), enumerate(zip(..)) as they are walked. -/
namespace Pv
open PySem PySem.Spec PyProof.Rows L2
section
variable {X : Cx} {pos tpos p p2 pos2 : Pos} {elts : List Expr} {kk : Nat} {e e2 : Expr} {ta : TA}
theorem zip_made {pins : List (Addr × Obj)} {σ : L2.St} {H : Hp} {s : Shared} {a b : Addr} {t1 t2 : Bool} {xs ys : List V} {E : Value → Shared → Prop} {Q : Value → Shared → Prop} (I : L2.Inv X pins σ H s) (hx : SqK t1 X.K H a xs) (hy : SqK t2 X.K H b ys)
    (h : ∀ (z TI TO i1 i2 : Addr) (s2 : Shared), L2.Inv X pins σ H s2 → ZipSep2 z TI TO i1 i2 [i1, a] [i2, b] → TnZ t1 t2 z TI TO i1 i2 a b 0 s2.heap → (∀ c ∈ [z, TI, TO, i1, i2], FpOk X pins H c) → Q (.ref z) s2) : wpAny (model X.prog X.w) X.A (call (.type "zip") [.ref a, .ref b]) Q E s := by
  obtain ⟨its, rv, p1, _⟩ := seqK_of I hx
  obtain ⟨its2, rv2, p2, _⟩ := seqK_of I hy
  have la : a < s.heap.objs.size := by
    cases t1
    · obtain ⟨o, e, _⟩ := (show s.heap.IsList a _ from p1); exact Heap.lt_size e
    · obtain ⟨o, e, _⟩ := (show s.heap.IsTuple a _ from p1); exact Heap.lt_size e
  have lb : b < s.heap.objs.size := by
    cases t2
    · obtain ⟨o, e, _⟩ := (show s.heap.IsList b _ from p2); exact Heap.lt_size e
    · obtain ⟨o, e, _⟩ := (show s.heap.IsTuple b _ from p2); exact Heap.lt_size e
  refine zip_begins2 (beginsK t1 a its.toArray) (beginsK t2 b its2.toArray) p1 p2 fun h' hz hTI hTO h1 h2 hsz hk => ?_
  have I2 : L2.Inv X pins σ H { s with heap := h' } := I.kept (t' := s.toks) hk
  refine h (s.heap.objs.size + 4) (s.heap.objs.size + 2) (s.heap.objs.size + 3) s.heap.objs.size (s.heap.objs.size + 1) _ I2 (zip_sep2 (fun c hc => by rw [List.mem_singleton.mp hc]; exact la) (fun c hc => by rw [List.mem_singleton.mp hc]; exact lb))
    ⟨⟨.none, false, .inl rfl, hz⟩, hTI, ⟨_, _, hTO⟩, iterK0 h1, iterK0 h2⟩ fun c hc => ?_
  have e' : c = s.heap.objs.size + 4 ∨ c = s.heap.objs.size + 2 ∨ c = s.heap.objs.size + 3 ∨ c = s.heap.objs.size ∨ c = s.heap.objs.size + 1 := by simpa using hc
  have hle : s.heap.objs.size ≤ c := by
    rcases e' with z | z | z | z | z
    · rw [z]; exact Nat.le_add_right _ _
    · rw [z]; exact Nat.le_add_right _ _
    · rw [z]; exact Nat.le_add_right _ _
    · rw [z]; exact Nat.le_refl _
    · rw [z]; exact Nat.le_add_right _ _
  exact I.fpOk hle (I.hok.fresh hle)
def iZipK (K : PySem.W.Frag) (ta : TA) : TI := fun σ H R => ta σ H fun vs H1 => ∃ a b t1 t2 xs ys, vs = [.ref a, .ref b] ∧ SqK t1 K H1 a xs ∧ SqK t2 K H1 b ys ∧ R (ItZ t1 t2 K a b) H1
theorem pi_zipK (hg : Gl X "zip") (hm : X.mg "zip" = none) (ha : PA X [e, e2] ta) (hs : starEach [e, e2] X.env = (false, eval e X.env) :: starEach [e2] X.env) (hpl : (backTo pos (starEach [e2] X.env)).any (·.1) = false) :
    PI X (.Tuple elts kk tpos) (.Call (.Name "zip" p) [e, e2] [] pos) (iZipK X.K ta) := by
  refine ⟨fun pins s σ H R I h => ?_⟩
  refine Call_ (ld_blt I hg hm PyProof.Rows.boot_zip (PyProof.Rows.callWith_type1 (thn (ha.run pos pins s σ H _ I h) fun us s1 ⟨vs, H1, I1, r1, q1⟩ => ?_) hs hpl))
  obtain ⟨a, b, t1, t2, xs, ys, ex, hx, hy, q⟩ := q1
  subst ex
  cases r1 with
  | cons r rr =>
    cases rr with
    | cons r' rr =>
      cases rr
      cases r
      cases r'
      exact zip_made I1 hx hy fun z TI TO i1 i2 s2 I2 D tn fp => iter_zip tn.1 ⟨z, [z, TI, TO, i1, i2], _, _, H1, rfl, I2, turnZ D, tn, fp, q⟩
def iEnK (K : PySem.W.Frag) (ta : TA) : TI := fun σ H R => ta σ H fun vs H1 => ∃ a t xs, vs = [.ref a] ∧ SqK t K H1 a xs ∧ R (ItEn (ItK t K a)) H1
theorem pi_enK (hg : Gl X "enumerate") (hm : X.mg "enumerate" = none) (ha : PA X [e] ta) (hs : starEach [e] X.env = [(false, eval e X.env)]) :
    PI X (.Tuple elts kk tpos) (.Call (.Name "enumerate" p) [e] [] pos) (iEnK X.K ta) := by
  refine ⟨fun pins s σ H R I h => ?_⟩
  refine Call_ (ld_blt I hg hm boot_enumerate (PyProof.Rows.callWith_type1 (thn (ha.run pos pins s σ H _ I h) fun us s1 ⟨vs, H1, I1, r1, q1⟩ => ?_) hs rfl))
  obtain ⟨a, t, xs, ex, hx, q⟩ := q1
  subst ex
  cases r1 with
  | cons r rr =>
    cases rr
    cases r
    obtain ⟨its, rv, p1, _⟩ := seqK_of I1 hx
    have B := beginsK t a its.toArray
    have hz1 : (s1.heap.push (iterO t a)).objs.size = s1.heap.objs.size + 1 := Heap.size_push ..
    refine call_enum1 (it := s1.heap.objs.size) (h1 := s1.heap.push (iterO t a)) (fun prog w A E Q s hh q => by
      obtain ⟨hp, g, d, tk, os⟩ := s
      replace hh : hp = s1.heap := hh
      subst hh
      exact B.iter prog w A E ⟨s1.heap, g, d, tk, os⟩ Q p1 q) fun h' he hk => wpAny_pyIter_enum he ?_
    have kk' : ∀ b o, s1.heap.get? b = some o → h'.get? b = some o := fun b o q => hk b o (Heap.get?_push_of_some _ q)
    have I2 : L2.Inv X pins σ H1 { s1 with heap := h' } := I1.kept (t' := s1.toks) kk'
    have hi : IterK t h' s1.heap.objs.size a 0 := iterK0 (hk _ _ (Heap.get?_push_size _ B.free))
    refine ⟨(s1.heap.push (iterO t a)).objs.size, [(s1.heap.push (iterO t a)).objs.size, s1.heap.objs.size], _, _, H1, rfl, I2, turnE (src_seq t a s1.heap.objs.size) (by rw [hz1]; simp), ⟨⟨.none, he⟩, hi⟩, fun b hb => ?_, q⟩
    have e' : b = (s1.heap.push (iterO t a)).objs.size ∨ b = s1.heap.objs.size := by simpa using hb
    have hle : s1.heap.objs.size ≤ b := by
      rcases e' with z | z
      · rw [z, hz1]; exact Nat.le_add_right _ _
      · rw [z]; exact Nat.le_refl _
    exact I1.fpOk hle (I1.hok.fresh hle)
def iEzK (K : PySem.W.Frag) (ta : TA) : TI := fun σ H R => ta σ H fun vs H1 => ∃ a b t1 t2 xs ys, vs = [.ref a, .ref b] ∧ SqK t1 K H1 a xs ∧ SqK t2 K H1 b ys ∧ R (ItEn (ItZ t1 t2 K a b)) H1
theorem pi_ezK (hg : Gl X "enumerate") (hm : X.mg "enumerate" = none) (hg2 : Gl X "zip") (hm2 : X.mg "zip" = none) (ha : PA X [e, e2] ta) (hs : starEach [e, e2] X.env = (false, eval e X.env) :: starEach [e2] X.env) (hpl : (backTo pos2 (starEach [e2] X.env)).any (·.1) = false) :
    PI X (.Tuple elts kk tpos) (.Call (.Name "enumerate" p) [.Call (.Name "zip" p2) [e, e2] [] pos2] [] pos) (iEzK X.K ta) := by
  refine ⟨fun pins s σ H R I h => ?_⟩
  refine Call_ (ld_blt I hg hm boot_enumerate (PyProof.Rows.callWith_type1 ?_ rfl rfl))
  show wpAny _ _ (spliced ((false, eval (.Call (.Name "zip" p2) [e, e2] [] pos2) X.env) :: backTo pos (starEach [] X.env))) _ _ s
  refine Calls.spliced_cons (Call_ (ld_blt I hg2 hm2 PyProof.Rows.boot_zip (PyProof.Rows.callWith_type1 (thn (ha.run pos2 pins s σ H _ I h) fun us s1 ⟨vs, H1, I1, r1, q1⟩ => ?_) hs hpl)))
  obtain ⟨a, b, t1, t2, xs, ys, ex, hx, hy, q⟩ := q1
  subst ex
  cases r1 with
  | cons r rr =>
    cases rr with
    | cons r' rr =>
      cases rr
      cases r
      cases r'
      refine zip_made I1 hx hy fun z TI TO i1 i2 s2 I2 D tn fp => Calls.spliced_nil ?_
      refine call_enum1 (it := z) (h1 := s2.heap) (fun prog w A E Q s hh q => by
        obtain ⟨hp, g, d, tk, os⟩ := s
        replace hh : hp = s2.heap := hh
        subst hh
        exact iter_zip tn.1 q) fun h' he hk => wpAny_pyIter_enum he ?_
      have I3 : L2.Inv X pins σ H1 { s2 with heap := h' } := I2.kept (t' := s2.toks) hk
      have S : Src X.prog X.w X.K (ItZ t1 t2 X.K a b) [z, TI, TO, i1, i2] z (TnZ t1 t2 z TI TO i1 i2 a b) := src_zip D
      have lt : ∀ c ∈ [z, TI, TO, i1, i2], c < s2.heap.objs.size := fun c hc => by
        obtain ⟨o, e, _⟩ := S.obj _ _ tn c hc
        exact Heap.lt_size e
      refine ⟨s2.heap.objs.size, s2.heap.objs.size :: [z, TI, TO, i1, i2], _, _, H1, rfl, I3, turnE S (fun hm => absurd (lt _ hm) (Nat.lt_irrefl _)), ⟨⟨.none, he⟩, S.keep _ _ _ tn fun c hc o q => hk c o q⟩, fun c hc => ?_, q⟩
      rcases List.mem_cons.mp hc with q | q
      · have hle : s2.heap.objs.size ≤ c := by rw [q]; exact Nat.le_refl _
        exact I2.fpOk hle (I2.hok.fresh hle)
      · exact fp c q
end
end Pv
set_option autoImplicit false
set_option Elab.async false
set_option linter.all false
set_option maxRecDepth 100000
set_option maxHeartbeats 4000000
/-! zip, enumerate in the evaluator. -/
namespace Pv
open PySem PySem.Spec PyProof.Rows L2
section
variable {K : PySem.W.Frag} {gad : Nat → Addr}
/-- what a sequence's address holds, wherever one stands -/
def Held (K : PySem.W.Frag) (gad : Nat → Addr) (ρ : List Addr) (H : Hp) (I : Its) (t : Bool) (a : Addr) : Prop := ∀ ρ' S' H', Ext ρ H ρ' H' → SR K gad ρ' S' H' → chkOk I.chk S' = true → ∃ vs, SqK t K H' a vs ∧ RWs K gad ρ' H' I.items vs
theorem seqI_K {ρ : List Addr} {S : Sto} {H : Hp} {w : W} {v : V} {I : Its} (s : SR K gad ρ S H) (r : RW K gad ρ H w v) (e : seqI S w = some I) : ∃ a t, v = .ref a ∧ Held K gad ρ H I t a := by
  cases r with
  | tup h q =>
    cases e
    exact ⟨_, true, rfl, fun ρ' S' H' x _ _ => ⟨_, sqT_ext s x h, q.ext s x⟩⟩
  | frl h q =>
    cases e
    exact ⟨_, false, rfl, fun ρ' S' H' x _ _ => ⟨_, (frL_ext s x h).sq, q.ext s x⟩⟩
  | @ref a i h =>
    have e : (match S[i]? with
      | some (.lst ws) => some (⟨[(i, ws)], ws⟩ : Its)
      | _ => none) = some I := e
    split at e
    · rename_i ws hS
      cases e
      refine ⟨_, false, rfl, fun ρ' S' H' x s' c => ?_⟩
      have g := chkOk_get c (r := i) (ws := ws) (by simp)
      obtain ⟨c, us, g1, g2, g3⟩ := s'.lst g
      rw [x.get h] at g1; cases g1
      exact ⟨us, .inl (.inl g2), g3⟩
    · cases e
  | _ => cases e
theorem walkK {G : Gp} {ρ : List Addr} {H : Hp} {I : Its} {t : Bool} {a : Addr} (h : Held K G.gad ρ H I t a) : relI K G ρ H I (ItK t K a) := by
  refine ⟨fun i H' hi ⟨ρ', S', x, s, c⟩ => ?_, fun H' ⟨ρ', S', x, s, c⟩ => ?_, fun i H' v H'' hi _ y ρ' S' x s c => ?_⟩
  · obtain ⟨vs, q, r⟩ := h ρ' S' H' x s c
    have hl : i < vs.length := by rw [← r.length]; exact hi
    exact ⟨vs, _, q, List.getElem?_eq_getElem hl⟩
  · obtain ⟨vs, q, r⟩ := h ρ' S' H' x s c
    exact ⟨vs, q, r.length.symm⟩
  · obtain ⟨rfl, y⟩ := y
    obtain ⟨vs, q, r⟩ := h ρ' S' _ x s c
    obtain ⟨u, e1, e2⟩ := r.get (List.getElem?_eq_getElem hi)
    have := y vs q
    rw [e1] at this; cases this
    exact ⟨_, List.getElem?_eq_getElem hi, .refl _ _, s, e2⟩
theorem walkZ {G : Gp} {ρ : List Addr} {H : Hp} {I J : Its} {t1 t2 : Bool} {a b : Addr} (h1 : Held K G.gad ρ H I t1 a) (h2 : Held K G.gad ρ H J t2 b) : relI K G ρ H ⟨I.chk ++ J.chk, zipW I.items J.items⟩ (ItZ t1 t2 K a b) := by
  have hlen := zipW_len I.items J.items
  have cs : ∀ {S' : Sto}, chkOk (I.chk ++ J.chk) S' = true → chkOk I.chk S' = true ∧ chkOk J.chk S' = true := fun {S'} c => by
    unfold chkOk at c ⊢
    rw [List.all_append, Bool.and_eq_true] at c
    exact c
  refine ⟨fun i H' hi ⟨ρ', S', x, s, c⟩ => ?_, fun H' ⟨ρ', S', x, s, c⟩ => ?_, fun i H' v H'' hi _ y ρ' S' x s c => ?_⟩
  · obtain ⟨us, g1, g2⟩ := h1 _ _ _ x s (cs c).1
    obtain ⟨us2, g3, g4⟩ := h2 _ _ _ x s (cs c).2
    have hi : i < (zipW I.items J.items).length := hi
    have l1 := g2.length
    have l2 := g4.length
    exact ⟨us, us2, _, _, g1, g3, List.getElem?_eq_getElem (by omega), List.getElem?_eq_getElem (by omega)⟩
  · obtain ⟨us, g1, g2⟩ := h1 _ _ _ x s (cs c).1
    obtain ⟨us2, g3, g4⟩ := h2 _ _ _ x s (cs c).2
    have l1 := g2.length
    have l2 := g4.length
    refine ⟨us, us2, g1, g3, ?_⟩
    show (zipW I.items J.items).length ≤ us.length ∧ (zipW I.items J.items).length ≤ us2.length ∧ ((zipW I.items J.items).length = us.length ∨ (zipW I.items J.items).length = us2.length)
    omega
  · obtain ⟨us, g1, g2⟩ := h1 _ _ _ x s (cs c).1
    obtain ⟨us2, g3, g4⟩ := h2 _ _ _ x s (cs c).2
    have hi : i < (zipW I.items J.items).length := hi
    obtain ⟨u, e1, e2⟩ := g2.get (List.getElem?_eq_getElem (show i < I.items.length by omega))
    obtain ⟨u2, e3, e4⟩ := g4.get (List.getElem?_eq_getElem (show i < J.items.length by omega))
    obtain ⟨T, xv, yv, rfl, hT, rfl, y2, y3⟩ := y
    have z := y2 us g1
    rw [e1] at z; cases z
    have z := y3 us2 g3
    rw [e3] at z; cases z
    obtain ⟨p1, p2, p3⟩ := pair_new s hT e2 e4
    exact ⟨_, zipW_get _ _ _ _ _ (List.getElem?_eq_getElem _) (List.getElem?_eq_getElem _), p1, p2, p3⟩
theorem walkE {G : Gp} {ρ : List Addr} {H : Hp} {I : Its} {J : L2.It} (h : relI K G ρ H I J) : relI K G ρ H (enuJ I) (ItEn J) := by
  have hl : (enuJ I).items.length = I.items.length := enuW_len I.items 0
  refine ⟨fun i H' hi g => h.goes i H' (by rw [← hl]; exact hi) g, fun H' g => ?_, fun i H' v H'' hi g y ρ' S' x s c => ?_⟩
  · rw [hl]
    exact h.stops H' g
  · have hi' : i < I.items.length := by rw [← hl]; exact hi
    obtain ⟨T, xv, H1, rfl, y1, hT, rfl⟩ := y
    obtain ⟨w, h1, h2, h3, h4⟩ := h.yields i H' xv H1 hi' g y1 ρ' S' x s c
    obtain ⟨p1, p2, p3⟩ := pair_new h3 hT (RW.int (i : Nat)) h4
    refine ⟨_, ?_, h2.trans p1, p2, p3⟩
    show (enuW 0 I.items)[i]? = _
    rw [enuW_get I.items 0 i w h1, Nat.zero_add]
theorem zipI_rel {ρ : List Addr} {S : Sto} {H : Hp} {w w2 : W} {v v2 : V} {I : Its} {G : Gp} (s : SR K G.gad ρ S H) (r : RW K G.gad ρ H w v) (r2 : RW K G.gad ρ H w2 v2) (e : zipI S w w2 = some I) :
    ∃ a b t1 t2 xs ys, [v, v2] = [.ref a, .ref b] ∧ SqK t1 K H a xs ∧ SqK t2 K H b ys ∧ relI K G ρ H I (ItZ t1 t2 K a b) := by
  unfold zipI at e
  split at e
  · rename_i J J2 h1 h2
    cases e
    obtain ⟨a, t1, rfl, q1⟩ := seqI_K s r h1
    obtain ⟨b, t2, rfl, q2⟩ := seqI_K s r2 h2
    obtain ⟨xs, x1, _⟩ := q1 _ _ _ (.refl _ _) s (seqI_chk0 h1)
    obtain ⟨ys, y1, _⟩ := q2 _ _ _ (.refl _ _) s (seqI_chk0 h2)
    exact ⟨a, b, t1, t2, xs, ys, rfl, x1, y1, walkZ q1 q2⟩
  · cases e
end
section
variable {X : Cx} {G : Gp} {Wx : WX} {pos p p2 pos2 tpos : Pos} {tg a b : Expr} {d d2 : Dn W} {elts : List Expr} {kk : Nat}
theorem iEnu (hg : Gl X "enumerate") (hm : X.mg "enumerate" = none) (ha : PE X a (tE X.K G Wx d)) (hs : starEach [a] X.env = [(false, eval a X.env)]) :
    PI X (.Tuple elts kk tpos) (.Call (.Name "enumerate" p) [a] [] pos) (tIt X.K G Wx (dItEnu d)) := by
  refine piW (pi_enK hg hm (pCons ha pNil hs) hs) fun σ H R h => ?_
  refine tD.one (f := fun _ _ x S1 => .opt S1 ((seqI S1 x).map enuJ)) h fun ρ S env w H' v a1 r1 f1 => ?_
  obtain ⟨J, e, f2⟩ := f1.opt
  obtain ⟨I, e1, rfl⟩ := Option.map_eq_some_iff.mp e
  obtain ⟨a, t, rfl, q⟩ := seqI_K a1.s r1 e1
  obtain ⟨xs, x1, _⟩ := q _ _ _ (.refl _ _) a1.s (seqI_chk0 e1)
  exact ⟨a, t, xs, rfl, x1, f2.ok a1.s (walkE (walkK q))⟩
theorem iZip' (hg : Gl X "zip") (hm : X.mg "zip" = none) (ha : PE X a (tE X.K G Wx d)) (hb : PE X b (tE X.K G Wx d2)) (hs : starEach [a, b] X.env = (false, eval a X.env) :: starEach [b] X.env) (hs2 : starEach [b] X.env = [(false, eval b X.env)]) (hpl : (backTo pos (starEach [b] X.env)).any (·.1) = false) :
    PI X (.Tuple elts kk tpos) (.Call (.Name "zip" p) [a, b] [] pos) (tIt X.K G Wx (dItZip d d2)) := by
  refine piW (pi_zipK hg hm (pCons ha (pCons hb pNil hs2) hs) hs hpl) fun σ H R h => ?_
  refine tD.two (f := fun x y S => .opt S (zipI S x y)) h fun ρ S env w w2 H' v v2 a1 r1 r2 f1 => ?_
  obtain ⟨J, e, f2⟩ := f1.opt
  obtain ⟨a, b, t1, t2, xs, ys, e1, x1, y1, q⟩ := zipI_rel a1.s r1 r2 e
  exact ⟨a, b, t1, t2, xs, ys, e1, x1, y1, f2.ok a1.s q⟩
theorem iEnz (hg : Gl X "enumerate") (hm : X.mg "enumerate" = none) (hg2 : Gl X "zip") (hm2 : X.mg "zip" = none) (ha : PE X a (tE X.K G Wx d)) (hb : PE X b (tE X.K G Wx d2)) (hs : starEach [a, b] X.env = (false, eval a X.env) :: starEach [b] X.env) (hs2 : starEach [b] X.env = [(false, eval b X.env)]) (hpl : (backTo pos2 (starEach [b] X.env)).any (·.1) = false) :
    PI X (.Tuple elts kk tpos) (.Call (.Name "enumerate" p) [.Call (.Name "zip" p2) [a, b] [] pos2] [] pos) (tIt X.K G Wx (dItEnz d d2)) := by
  refine piW (pi_ezK hg hm hg2 hm2 (pCons ha (pCons hb pNil hs2) hs) hs hpl) fun σ H R h => ?_
  refine tD.two (f := fun x y S => .opt S ((zipI S x y).map enuJ)) h fun ρ S env w w2 H' v v2 a1 r1 r2 f1 => ?_
  obtain ⟨J, e, f2⟩ := f1.opt
  obtain ⟨I, e0, rfl⟩ := Option.map_eq_some_iff.mp e
  obtain ⟨a, b, t1, t2, xs, ys, e1, x1, y1, q⟩ := zipI_rel a1.s r1 r2 e0
  exact ⟨a, b, t1, t2, xs, ys, e1, x1, y1, f2.ok a1.s (walkE q)⟩
end
end Pv
set_option autoImplicit false
set_option Elab.async false
set_option linter.all false
set_option maxRecDepth 100000
set_option maxHeartbeats 2000000
/-! From the program's text to the evaluator's. -/
namespace Pv
open PySem PySem.Spec PyProof.Rows L2

/-! ### a test is its value's truth -/
theorem tru_opt {r : R W} {f : W → Sto → R Bool} : r.bind f = r.bind f := rfl
theorem bind_ok {α : Type} (r : R α) : (r.bind fun x S => .ok x S) = r := by cases r <;> rfl
theorem bind_assoc {α β γ : Type} (r : R α) (f : α → Sto → R β) (g : β → Sto → R γ) : (r.bind f).bind g = r.bind fun x S => (f x S).bind g := by cases r <;> rfl
theorem bind_congr {α β : Type} {r : R α} {f g : α → Sto → R β} (h : ∀ x S, f x S = g x S) : r.bind f = r.bind g := by rw [show f = g from funext fun x => funext fun S => h x S]
theorem tru_bl (t : Dn Bool) : dTru (dBl t) = t := by
  funext cl env S
  show ((t cl env S).bind fun k S1 => .ok (W.bl k) S1).bind _ = _
  rw [bind_assoc]
  exact bind_ok _
theorem tru_ite (c : Dn Bool) (a b : Dn W) : dTru (dIf c a b) = dIf c (dTru a) (dTru b) := by
  funext cl env S
  show ((c cl env S).bind fun k S1 => if k then a cl env S1 else b cl env S1).bind _ = _
  rw [bind_assoc]
  exact bind_congr fun k S1 => by cases k <;> rfl
theorem tru_and (a b : Dn W) : dTru (dAnd a b) = dIf (dTru a) (dTru b) (dBool false) := by
  funext cl env S
  show ((a cl env S).bind fun x S1 => match truW S1 x with
    | some true => b cl env S1
    | some false => .ok x S1
    | none => .no).bind _ = ((a cl env S).bind fun x S1 => .opt S1 (truW S1 x)).bind _
  rw [bind_assoc, bind_assoc]
  refine bind_congr fun x S1 => ?_
  cases h : truW S1 x with
  | none => rfl
  | some k =>
    cases k with
    | true => rfl
    | false =>
      show R.opt S1 (truW S1 x) = _
      rw [h]
      rfl
theorem tru_or (a b : Dn W) : dTru (dOr a b) = dIf (dTru a) (dBool true) (dTru b) := by
  funext cl env S
  show ((a cl env S).bind fun x S1 => match truW S1 x with
    | some true => .ok x S1
    | some false => b cl env S1
    | none => .no).bind _ = ((a cl env S).bind fun x S1 => .opt S1 (truW S1 x)).bind _
  rw [bind_assoc, bind_assoc]
  refine bind_congr fun x S1 => ?_
  cases h : truW S1 x with
  | none => rfl
  | some k =>
    cases k with
    | false => rfl
    | true =>
      show R.opt S1 (truW S1 x) = _
      rw [h]
      rfl
theorem denT_tru : ∀ (e : Ex), denT e = dTru (denE e)
  | .not a => (tru_bl _).symm
  | .and a b => by
    show dIf (denT a) (denT b) (dBool false) = dTru (dAnd (denE a) (denE b))
    rw [tru_and, denT_tru a, denT_tru b]
  | .or a b => by
    show dIf (denT a) (dBool true) (denT b) = dTru (dOr (denE a) (denE b))
    rw [tru_or, denT_tru a, denT_tru b]
  | .cmp op a b => (tru_bl _).symm
  | .cmp2 op op' a b c => (tru_bl _).symm
  | .ite c a b => by
    show dIf (denT c) (denT a) (denT b) = dTru (dIf (denT c) (denE a) (denE b))
    rw [tru_ite, denT_tru a, denT_tru b]
  | .con w => by cases w <;> rfl
  | .dct .nil | .dct (.cons _ _ _) | .var _ | .tup _ | .lst _ | .bin _ _ _ | .neg _ | .idx _ _ | .slc _ _ _ | .rev _ | .call _ _ | .blt _ _ | .met _ _ _ | .isi _ _ | .lc _ _ _ _ _ => rfl

/-! ### the static context, the module -/
structure Cs where
  N : List Str
  sc : Scope
  cell : Str → Bool
  av : Nat → Bool
structure Tb where
  fn : Str → Option Nat
  gc : Str → Option W
  bi : Str → Bool
structure Okx (X : Cx) (c : Cs) (T : Tb) (G : Gp) (Wx : WX) : Prop where
  calm : X.calm = true
  N : X.N = c.N
  nd : c.N.Nodup
  sc : X.env.scope = c.sc
  kind : c.sc.kind = .function
  cell : X.fn = c.cell
  tk : Takes X Wx
  hu : X.A.units + 64 < cLine
  fl : Flat c.av Wx
  bi : ∀ x, T.bi x = true → X.mg x = none
  gc : ∀ x w, T.gc x = some w → ∃ v u, X.mg x = some u ∧ RelV v u ∧ ∀ ρ H, RW X.K G.gad ρ H w v
  fn : ∀ x f, T.fn x = some f → ∃ k fd ps, FnOk X.prog X.w X.K X.mg X.base (CX X.prog X.w) k (G.gad f) fd ps (spF X.K G f) ∧ Room k X.A ∧ X.mg x = some (.ref (G.gad f)) ∧ W.keepIn X.K (.ref (G.gad f)) = true ∧ L2.Binds X.K fd ps []
def TrE := Cs → Expr → Option Ex
def SndE (T : Tb) (G : Gp) (r : TrE) : Prop := ∀ X c Wx, Okx X c T G Wx → ∀ e ex, r c e = some ex → PE X e (tE X.K G Wx (denE ex)) ∧ PT X e (tT X.K G Wx (denT ex))

/-! ### side conditions by form -/
def starB : Expr → Bool
  | .Starred _ _ => true
  | _ => false
theorem starEach_cons {e : Expr} {es : List Expr} {env : Env} (h : starB e = false) : starEach (e :: es) env = (false, eval e env) :: starEach es env := by
  cases e <;> first | rfl | cases h
theorem starEach_one {e : Expr} {env : Env} (h : starB e = false) : starEach [e] env = [(false, eval e env)] := by
  rw [starEach_cons h]; rfl
theorem starEach_any (pos : Pos) (env : Env) : ∀ {es : List Expr}, es.all (fun e => !starB e) = true → (backTo pos (starEach es env)).any (·.1) = false
  | [], _ => rfl
  | e :: es, h => by
    simp only [List.all_cons, Bool.and_eq_true, Bool.not_eq_true'] at h
    rw [starEach_cons h.1]
    show (false || (backTo pos (starEach es env)).any (·.1)) = false
    rw [starEach_any pos env h.2]
    rfl
theorem starEach_all (pos : Pos) (env : Env) : ∀ {es : List Expr}, es.all (fun e => !starB e) = true → (backTo pos (starEach es env)).all (fun x => !x.1) = true
  | [], _ => rfl
  | e :: es, h => by
    simp only [List.all_cons, Bool.and_eq_true, Bool.not_eq_true'] at h
    rw [starEach_cons h.1]
    show (true && (backTo pos (starEach es env)).all (fun x => !x.1)) = true
    rw [starEach_all pos env h.2]
    rfl
def plainT : Expr → Bool
  | .UnaryOp .Not _ _ | .BoolOp _ _ _ | .IfExp _ _ _ _ | .Compare _ _ _ _ => false
  | _ => true
theorem isTrue_plain {e : Expr} {env : Env} (h : plainT e = true) (whole : Sem Value) : isTrue e env whole = (do let v ← whole; standAt e.pos; holding [v] (truthy v)) := by
  cases e with
  | UnaryOp op a p => cases op <;> first | rfl | cases h
  | BoolOp => cases h
  | IfExp => cases h
  | Compare => cases h
  | _ => rfl
def plainIx : Expr → Bool
  | .Slice _ _ _ _ => false
  | _ => true
theorem plainIx_ok {e : Expr} (h : plainIx e = true) : PlainIx e := by
  intro o i
  cases e <;> first | rfl | cases h
def baseOk : Expr → Bool
  | .Call (.Name _ _) [] [] _ => false
  | _ => true
theorem baseOk_ok {o : Expr} {n : Str} {env : Env} {whole : Sem Value} (h : baseOk o = true) : attributeBase o n env whole = whole := by
  unfold attributeBase
  split
  · cases h
  · rfl
def noSet : Expr → Bool
  | .Set _ _ _ => false
  | _ => true
theorem behind_ok {op : CmpOp} {e : Expr} (h : noSet e = true) : behindInMarks op e = false := by
  cases e <;> first | rfl | cases h
theorem last_ok {op op' : CmpOp} {e e' : Expr} (h : noSet e' = true) : lastMarks [op, op'] [e, e'] = false := behind_ok (op := op') h
theorem folded_ok {e : Expr} {env : Env} (h : noSet e = true) (x : Value) : foldedSetIterable e env x = pure x := by
  cases e <;> first | rfl | cases h
def compB : Expr → Bool
  | .ListComp _ _ _ _ | .SetComp _ _ _ _ | .DictComp _ _ _ _ _ => true
  | _ => false
theorem swaps_none {e : Expr} {line : Nat} {env : Env} {t : Option Expr} (h : compB e = false) : swapsWith e t line env = pure false := by
  cases e <;> first | rfl | cases h
def nameB : Expr → Bool
  | .Name _ _ => true
  | _ => false
theorem swaps_tgt {e t : Expr} {line : Nat} {env : Env} (h : nameB t = false) : swapsWith e (some t) line env = pure false := by
  cases e <;> first | rfl | (cases t <;> first | rfl | cases h)
theorem assign_cons {e : Expr} {es : List Expr} {env : Env} (h : starB e = false) : assignEach (e :: es) env = (false, assign e env) :: assignEach es env := by
  cases e <;> first | rfl | cases h
theorem assign_none (env : Env) : ∀ {es : List Expr}, es.all (fun e => !starB e) = true → List.findIdx? (fun x => x.fst) (assignEach es env) = none ∧ (assignEach es env).length = es.length
  | [], _ => ⟨rfl, rfl⟩
  | e :: es, h => by
    simp only [List.all_cons, Bool.and_eq_true, Bool.not_eq_true'] at h
    rw [assign_cons h.1]
    obtain ⟨h1, h2⟩ := assign_none env h.2
    exact ⟨by rw [List.findIdx?_cons, h1]; rfl, by rw [List.length_cons, List.length_cons, h2]⟩
section
variable {X : Cx} {c : Cs} {T : Tb} {G : Gp} {Wx : WX}
theorem Okx.gl (O : Okx X c T G Wx) {x : Str} (h : c.sc.names.lookup x = some .globalImplicit) : Gl X x := by
  show List.lookup x X.env.scope.names = _
  rw [O.sc]; exact h
theorem Okx.slot (O : Okx X c T G Wx) {i : Nat} {x : Str} (h : c.N[i]? = some x) : X.N[i]? = some x := by rw [O.N]; exact h
end

/-! ### expressions -/
def glB (c : Cs) (x : Str) : Bool := decide (c.sc.names.lookup x = some .globalImplicit)
def visB (c : Cs) (x : Str) : Bool := decide (c.sc.names.lookup x = some .local) || decide (c.sc.names.lookup x = some .cell) || decide (c.sc.names.lookup x = some .free)
def idxB (N : List Str) (x : Str) : Option Nat := match N.findIdx? (fun y => decide (y = x)) with
  | some i => if N[i]? = some x then some i else none
  | none => none
theorem idxB_ok {N : List Str} {x : Str} {i : Nat} (h : idxB N x = some i) : N[i]? = some x := by
  unfold idxB at h
  split at h
  · split at h
    · rename_i h2; cases h; exact h2
    · cases h
  · cases h
def trC : Const → Option Ex
  | .none => some (.con .non)
  | .bool b => some (.con (.bl b))
  | .int i => some (.con (.int i))
  | .str x => some (.con (.str x))
  | _ => none
def dbg (x : Str) : Bool := (x == ("__debug__" : Str)) || (x == ("__classdict__" : Str)) || (x == ("__name__" : Str))
def trN (T : Tb) (c : Cs) (x : Str) : Option Ex := if dbg x then none else match idxB c.N x with
  | some i => if visB c x then some (.var i) else none
  | none => if glB c x then (T.gc x).map .con else none
def trX (r : TrE) (c : Cs) : List Expr → Option Xs
  | [] => some .nil
  | .Starred e _ :: es => match r c e, trX r c es with
    | some a, some x => some (.star a x)
    | _, _ => none
  | e :: es => if starB e then none else match r c e, trX r c es with
    | some a, some x => some (.cons a x)
    | _, _ => none
def opB : Operator → Option Bo
  | .Add => some .add
  | .Sub => some .sub
  | .Mult => some .mul
  | .FloorDiv => some .fdiv
  | .Mod => some .mod
  | .Pow => some .pow
  | _ => none
theorem opB_ok {o : Operator} {b : Bo} (h : opB o = some b) : o = opOf b := by
  cases o <;> first | (cases h; done) | (cases h; rfl)
def coB : CmpOp → Option Co
  | .Eq => some .eq
  | .NotEq => some .ne
  | .Lt => some .lt
  | .LtE => some .le
  | .Gt => some .gt
  | .GtE => some .ge
  | .Is => some .is
  | .IsNot => some .isn
  | .In => some .inn
  | .NotIn => some .nin
theorem coB_ok {o : CmpOp} {b : Co} (h : coB o = some b) : o = coOf b := by
  cases o <;> first | (cases h; done) | (cases h; rfl)
section
variable {T : Tb} {G : Gp} {r : TrE}
abbrev Snd1 (T : Tb) (G : Gp) (c : Cs) (e : Expr) (ex : Ex) : Prop := ∀ X Wx, Okx X c T G Wx → PE X e (tE X.K G Wx (denE ex)) ∧ PT X e (tT X.K G Wx (denT ex))
theorem snd_plain {c : Cs} {e : Expr} {ex : Ex} (hp : plainT e = true) (h : ∀ X Wx, Okx X c T G Wx → PE X e (tE X.K G Wx (denE ex))) : Snd1 T G c e ex := fun X Wx O => by
  have h1 := h X Wx O
  refine ⟨h1, ?_⟩
  rw [denT_tru ex]
  exact tTru h1 (isTrue_plain hp)
theorem snd_con {c : Cs} {k : Const} {j : Nat} {pos : Pos} {ex : Ex} (h : trC k = some ex) : Snd1 T G c (.Constant k j pos) ex := by
  refine snd_plain rfl fun X Wx O => ?_
  cases k <;> first
    | (cases h; done)
    | (cases h; exact sCon pe_non fun _ _ => .non)
    | (cases h; exact sCon pe_bl fun _ _ => .bl _)
    | (cases h; exact sCon pe_int fun _ _ => .int _)
    | (cases h; exact sCon pe_str fun _ _ => .str _)
theorem snd_name {c : Cs} {x : Str} {pos : Pos} {ex : Ex} (h : trN T c x = some ex) : Snd1 T G c (.Name x pos) ex := by
  refine snd_plain rfl fun X Wx O => ?_
  unfold trN at h
  split at h
  · cases h
  · rename_i hd
    simp only [dbg, Bool.or_eq_true, not_or, Bool.not_eq_true] at hd
    split at h
    · rename_i i hi
      split at h
      · rename_i hv
        cases h
        refine sVar (O.slot (idxB_ok hi)) ?_ hd.1.1 hd.1.2
        rw [O.sc]
        simp only [visB, Bool.or_eq_true, decide_eq_true_eq] at hv
        rcases hv with (h | h) | h
        · exact .inl h
        · exact .inr (.inl h)
        · exact .inr (.inr h)
      · cases h
    · split at h
      · rename_i hg
        obtain ⟨w, hw, e⟩ := Option.map_eq_some_iff.mp h
        subst e
        obtain ⟨v, u, h1, h2, h3⟩ := O.gc x w hw
        exact sCon (pe_glob (O.gl (of_decide_eq_true hg)) h1 h2 hd.1.1) h3
      · cases h
theorem snd_X (hr : SndE T G r) {c : Cs} {X : Cx} {Wx : WX} (O : Okx X c T G Wx) : ∀ {es : List Expr} {xs : Xs}, trX r c es = some xs → PA X es (tA X.K G Wx (denX xs))
  | [], xs, h => by cases h; exact pNil
  | e :: es, xs, h => by
    by_cases hs : ∃ a p, e = .Starred a p
    · obtain ⟨a, p, rfl⟩ := hs
      unfold trX at h
      split at h
      · rename_i ex x h1 h2
        cases h
        exact pStar (hr X c Wx O a ex h1).1 (snd_X hr O h2)
      · cases h
    · have hs' : starB e = false := by
        cases e <;> first | rfl | exact (hs ⟨_, _, rfl⟩).elim
      have h : (if starB e then none else match r c e, trX r c es with
        | some a, some x => some (Xs.cons a x)
        | _, _ => none) = some xs := by
        rw [← h]
        cases e <;> first | rfl | cases hs'
      rw [hs', if_neg Bool.false_ne_true] at h
      split at h
      · rename_i ex x h1 h2
        cases h
        exact pCons (hr X c Wx O e ex h1).1 (snd_X hr O h2) (starEach_cons hs')
      · cases h
end
end Pv
set_option autoImplicit false
set_option Elab.async false
set_option linter.all false
set_option maxRecDepth 100000
set_option maxHeartbeats 2000000
/-! From the program's text to the evaluator's: expressions. -/
namespace Pv
open PySem PySem.Spec PyProof.Rows L2

section
variable {X : Cx} {G : Gp} {Wx : WX} {pos : Pos}
theorem sDct0 : PE X (.Dict [] [] pos) (tE X.K G Wx dDct0) := peW pe_dnewK fun σ H Q ⟨ρ, S, env, sr, er, f⟩ p hp => by
  obtain ⟨s2, x2⟩ := sr.new (o := .dct []) (ho := .dK []) hp ⟨[], upd_same, rfl, fun i p h => by simp at h⟩
  exact f _ _ (.ref p) x2 s2 (.ref (by rw [← sr.len, List.getElem?_append_right (Nat.le_refl _), Nat.sub_self]; rfl))
end
def ob2 {α β γ : Type} (a : Option α) (b : Option β) (f : α → β → γ) : Option γ := match a, b with
  | some x, some y => some (f x y)
  | _, _ => none
theorem ob2_ok {α β γ : Type} {a : Option α} {b : Option β} {f : α → β → γ} {z : γ} (h : ob2 a b f = some z) : ∃ x y, a = some x ∧ b = some y ∧ z = f x y := by
  unfold ob2 at h
  split at h
  · cases h; exact ⟨_, _, rfl, rfl, rfl⟩
  · cases h
def ob3 {α β γ δ : Type} (a : Option α) (b : Option β) (c : Option γ) (f : α → β → γ → δ) : Option δ := match a, b, c with
  | some x, some y, some z => some (f x y z)
  | _, _, _ => none
theorem ob3_ok {α β γ δ : Type} {a : Option α} {b : Option β} {c : Option γ} {f : α → β → γ → δ} {u : δ} (h : ob3 a b c f = some u) : ∃ x y z, a = some x ∧ b = some y ∧ c = some z ∧ u = f x y z := by
  unfold ob3 at h
  split at h
  · cases h; exact ⟨_, _, _, rfl, rfl, rfl, rfl⟩
  · cases h
/-- a and b and .. -/
def trAnd (r : TrE) (c : Cs) : List Expr → Option Ex
  | [] => none
  | [a] => r c a
  | a :: es => ob2 (r c a) (trAnd r c es) .and
def trOr (r : TrE) (c : Cs) : List Expr → Option Ex
  | [] => none
  | [a] => r c a
  | a :: es => ob2 (r c a) (trOr r c es) .or
def trSl (r : TrE) (c : Cs) : Option Expr → Option Ex
  | none => some (.con .non)
  | some e => match r c e with
    | some (.con .non) => none
    | x => x
def tyB (x : Str) : Option Ty := if x = "int" then some .int else if x = "bool" then some .bool else if x = "str" then some .str else if x = "tuple" then some .tuple else if x = "list" then some .list else if x = "dict" then some .dict else none
def xsLen : Xs → Nat
  | .nil => 0
  | .cons _ r => xsLen r + 1
  | .star _ r => xsLen r + 1
/-- built-ins by name and number of arguments -/
def btB (x : Str) (n : Nat) : Option Bt :=
  if x = "len" then some .len else if x = "tuple" then some .tuple else if x = "list" then some .list else if x = "int" then some .int else if x = "abs" then some .abs else if x = "divmod" then some .divmod
  else if x = "all" then some .all else if x = "any" then some .any else if x = "min" then some .min2 else if x = "max" then some .max2 else none
def mtB (x : Str) : Option Mt := if x = "append" then some .append else if x = "extend" then some .extend else none
def trCall (T : Tb) (r : TrE) (c : Cs) (n : Str) (es : List Expr) : Option Ex :=
  if dbg n then none else if glB c n then
    match T.fn n with
    | some f => (match es with
      | [] => none
      | e :: r' => if es.all (fun e => !starB e) then (trX r c es).map (.call f) else none)
    | none => if T.bi n then
        (if n = "isinstance" then (match es with
          | [a, .Name t _] => if glB c t && T.bi t && !starB a then ob2 (r c a) (tyB t) .isi else none
          | _ => none)
        else match es with
          | [] => none
          | e :: r' => if es.all (fun e => !starB e) then ob2 (btB n es.length) (trX r c es) .blt else none)
      else none
  else none
def trMet (T : Tb) (r : TrE) (c : Cs) (o : Expr) (n : Str) (es : List Expr) (apos cpos : Pos) : Option Ex :=
  match es with
  | [] => none
  | e :: r' => if es.all (fun e => !starB e) && baseOk o && (apos.endLine == cpos.line) && decide (es.length < 20) then ob3 (mtB n) (r c o) (trX r c es) .met else none
/-- what is walked -/
def tupB : Expr → Bool
  | .Tuple _ _ _ => true
  | _ => false
def trI (T : Tb) (r : TrE) (c : Cs) (tg : Expr) : Expr → Option It
  | .Call (.Name n p) es [] pos =>
    if n = "range" then (if glB c n && T.bi n then (match es with
      | [a] => if starB a then none else (r c a).map .rng
      | [a, b] => if starB a || starB b then none else ob2 (r c a) (r c b) .rng2
      | _ => none) else none)
    else if n = "enumerate" then (if glB c n && T.bi n && tupB tg then (match es with
      | [.Call (.Name n2 _) [a, b] [] _] => if n2 = "zip" && glB c n2 && T.bi n2 && !starB a && !starB b then ob2 (r c a) (r c b) .enz else none
      | [a] => if starB a then none else (r c a).map .enu
      | _ => none) else none)
    else if n = "zip" then (if glB c n && T.bi n && tupB tg then (match es with
      | [a, b] => if starB a || starB b then none else ob2 (r c a) (r c b) .zip
      | _ => none) else none)
    else (r c (.Call (.Name n p) es [] pos)).map .seq
  | e => if noSet e then (r c e).map .seq else none
/-- targets -/
def locB (c : Cs) (x : Str) : Bool := decide (c.sc.names.lookup x = some .local) || (decide (c.sc.names.lookup x = some .cell) && c.cell x)
def trNm (c : Cs) (x : Str) : Option Tg := match idxB c.N x with
  | some i => if locB c x && c.av i then some (.nm i) else none
  | none => none
def trG (r : TrE) (c : Cs) : Nat → Expr → Option Tg
  | 0, _ => none
  | n + 1, .Name x _ => trNm c x
  | n + 1, .Tuple es _ _ => if es.all (fun e => !starB e) then (es.foldr (fun e k => ob2 (trG r c n e) k .cons) (some .nil)).map .tp else none
  | n + 1, .Subscript o i _ => if plainIx i then ob2 (r c o) (r c i) .sub else none
  | _, _ => none
/-- a comprehension's own names -/
def ownOf (N : List Str) (scope : Scope) : List (Str × Nat) := scope.names.filterMap fun y => match y.2 with
  | .local | .cell => (idxB N y.1).map fun i => (y.1, i)
  | _ => none
def blkCs (c : Cs) (scope : Scope) : Cs := ⟨c.N, relS scope c.sc, fun x => List.lookup x scope.names == some .cell, avOf ((ownOf c.N scope).map (·.2))⟩
def trIfs (r : TrE) (c : Cs) : List Expr → Option Ex
  | [] => some (.con (.bl true))
  | [e] => r c e
  | _ => none
def trLc (T : Tb) (r : TrE) (c : Cs) (elt : Expr) : List Comprehension → Scope → Option Ex
  | [⟨tg, iter, ifs, 0⟩], scope => if blkC c.N c.sc scope (ownOf c.N scope) && noSet iter then
      match trI T r c tg iter, trG r (blkCs c scope) 4 tg, ob2 (trIfs r (blkCs c scope) ifs) (r (blkCs c scope) elt) Prod.mk with
      | some i, some t, some p => some (.lc ((ownOf c.N scope).map (·.2)) i t p.1 p.2)
      | _, _, _ => none
    else none
  | _, _ => none
def stepE (T : Tb) (r : TrE) : TrE := fun c e => match e with
  | .Constant k _ _ => trC k
  | .Name x _ => trN T c x
  | .Tuple es _ _ => (trX r c es).map .tup
  | .List es _ => (trX r c es).map .lst
  | .Dict [] [] _ => some (.dct .nil)
  | .BinOp a op b _ => ob3 (opB op) (r c a) (r c b) .bin
  | .UnaryOp .USub a _ => (r c a).map .neg
  | .UnaryOp .Not a _ => (r c a).map .not
  | .BoolOp .And es _ => trAnd r c es
  | .BoolOp .Or es _ => trOr r c es
  | .IfExp t a b _ => ob3 (r c t) (r c a) (r c b) .ite
  | .Compare a [op] [b] _ => if noSet b then ob3 (coB op) (r c a) (r c b) .cmp else none
  | .Compare a [op, op'] [b, d] _ => if noSet d then ob2 (ob2 (coB op) (coB op') Prod.mk) (ob3 (r c a) (r c b) (r c d) fun x y z => (x, y, z)) fun p q => .cmp2 p.1 p.2 q.1 q.2.1 q.2.2 else none
  | .Subscript a (.Slice lo hi none _) _ => ob3 (r c a) (trSl r c lo) (trSl r c hi) .slc
  | .Subscript a (.Slice none none (some (.UnaryOp .USub (.Constant (.int 1) _ _) _)) _) _ => (r c a).map .rev
  | .Subscript a i _ => if plainIx i then ob2 (r c a) (r c i) .idx else none
  | .Call (.Name n _) es [] _ => trCall T r c n es
  | .Call (.Attribute o n apos) es [] cpos => trMet T r c o n es apos cpos
  | .ListComp elt gens scope _ => trLc T r c elt gens scope
  | _ => none
def trE (T : Tb) : Nat → TrE
  | 0 => fun _ _ => none
  | n + 1 => stepE T (trE T n)

/-! ### soundness -/
section
variable {T : Tb} {G : Gp} {r : TrE}
theorem snd_and (hr : SndE T G r) {c : Cs} {pos : Pos} {X : Cx} {Wx : WX} (O : Okx X c T G Wx) : ∀ {es : List Expr} {ex : Ex}, trAnd r c es = some ex → PE X (.BoolOp .And es pos) (tE X.K G Wx (denE ex)) ∧ PW X (.BoolOp .And es pos) (tT X.K G Wx (denT ex))
  | [], _, h => by cases h
  | [a], ex, h => by
    obtain ⟨h1, h2⟩ := hr X c Wx O a ex h
    exact ⟨pe_one h1, pw_and1 h2⟩
  | a :: b :: es, ex, h => by
    obtain ⟨x, y, e1, e2, rfl⟩ := ob2_ok (show ob2 (r c a) (trAnd r c (b :: es)) .and = some ex from h)
    obtain ⟨h1, h2⟩ := hr X c Wx O a x e1
    obtain ⟨h3, h4⟩ := snd_and hr O (pos := pos) e2
    exact ⟨sAnd h1 h3, wAnd h2 h4⟩
theorem snd_or (hr : SndE T G r) {c : Cs} {pos : Pos} {X : Cx} {Wx : WX} (O : Okx X c T G Wx) : ∀ {es : List Expr} {ex : Ex}, trOr r c es = some ex → PE X (.BoolOp .Or es pos) (tE X.K G Wx (denE ex)) ∧ PW X (.BoolOp .Or es pos) (tT X.K G Wx (denT ex))
  | [], _, h => by cases h
  | [a], ex, h => by
    obtain ⟨h1, h2⟩ := hr X c Wx O a ex h
    exact ⟨pe_one h1, pw_or1 h2⟩
  | a :: b :: es, ex, h => by
    obtain ⟨x, y, e1, e2, rfl⟩ := ob2_ok (show ob2 (r c a) (trOr r c (b :: es)) .or = some ex from h)
    obtain ⟨h1, h2⟩ := hr X c Wx O a x e1
    obtain ⟨h3, h4⟩ := snd_or hr O (pos := pos) e2
    exact ⟨sOr h1 h3, wOr h2 h4⟩
theorem snd_slp (hr : SndE T G r) {c : Cs} {X : Cx} {Wx : WX} (O : Okx X c T G Wx) {e : Option Expr} {ex : Ex} (h : trSl r c e = some ex) : PO X e (tO X.K G Wx (parD ex (denE ex))) := by
  cases e with
  | none => cases h; exact poNone
  | some e =>
    have h : (match r c e with
      | some (.con .non) => none
      | x => x) = some ex := h
    split at h
    · cases h
    · rename_i hn
      have z := poSome (hr X c Wx O e ex h).1
      have : parD ex (denE ex) = dPart (denE ex) := by
        unfold parD
        split
        · exact (hn h).elim
        · rfl
      rw [this]
      exact z
theorem tyB_ok {x : Str} {t : Ty} (h : tyB x = some t) : bootBuiltins x = some (.type (tyOf t)) ∧ x ≠ "__name__" ∧ (x == ("__debug__" : Str)) = false := by
  unfold tyB at h
  repeat' split at h
  all_goals first
    | (cases h; done)
    | (cases h; rename_i e; subst e; exact ⟨by kernel_rfl, by decide +kernel, by decide +kernel⟩)
end
end Pv
set_option autoImplicit false
set_option Elab.async false
set_option linter.all false
set_option maxRecDepth 100000
set_option maxHeartbeats 2000000
/-! From the program's text to the evaluator's: expressions are sound. -/
namespace Pv
open PySem PySem.Spec PyProof.Rows L2

theorem ty_append : typeOf (.builtin "list.append") = pure (.type "method_descriptor") := by show builtinType _ = _; rw [builtinType_eq_fast]; kernel_rfl
theorem ty_extend : typeOf (.builtin "list.extend") = pure (.type "method_descriptor") := by show builtinType _ = _; rw [builtinType_eq_fast]; kernel_rfl
theorem all_tail {e : Expr} {es : List Expr} (h : (e :: es).all (fun e => !starB e) = true) : starB e = false ∧ es.all (fun e => !starB e) = true := by
  simp only [List.all_cons, Bool.and_eq_true, Bool.not_eq_true'] at h
  exact h
section
variable {T : Tb} {G : Gp} {r : TrE}
theorem snd_blt (hr : SndE T G r) {c : Cs} {X : Cx} {Wx : WX} (O : Okx X c T G Wx) {n : Str} {p pos : Pos} {e : Expr} {es : List Expr} {b : Bt} {k : Nat} {xs : Xs} (hb : btB n k = some b) (hx : trX r c (e :: es) = some xs) (hg : glB c n = true) (hi : T.bi n = true) (hs : (e :: es).all (fun e => !starB e) = true) :
    PE X (.Call (.Name n p) (e :: es) [] pos) (tE X.K G Wx (dBlt b (denX xs))) := by
  have ha := snd_X hr O hx
  have hg' := O.gl (of_decide_eq_true hg)
  have hm := O.bi n hi
  have he := starEach_cons (es := es) (env := X.env) (all_tail hs).1
  have hpl := starEach_any pos X.env (all_tail hs).2
  unfold btB at hb
  repeat' split at hb
  all_goals first
    | (cases hb; done)
    | (cases hb; rename_i en; subst en; first
        | exact sBltB blt_len hg' hm (by kernel_rfl) ha (by decide +kernel) (by decide +kernel) he hpl
        | exact sBltT blt_tuple hg' hm (by kernel_rfl) ha (by decide +kernel) (by decide +kernel) he hpl
        | exact sBltT blt_list hg' hm (by kernel_rfl) ha (by decide +kernel) (by decide +kernel) he hpl
        | exact sBltT blt_int hg' hm (by kernel_rfl) ha (by decide +kernel) (by decide +kernel) he hpl
        | exact sBltB blt_abs hg' hm (by kernel_rfl) ha (by decide +kernel) (by decide +kernel) he hpl
        | exact sBltB blt_divmod hg' hm (by kernel_rfl) ha (by decide +kernel) (by decide +kernel) he hpl
        | exact sBltB (blt_all O.calm) hg' hm (by kernel_rfl) ha (by decide +kernel) (by decide +kernel) he hpl
        | exact sBltB (blt_any O.calm) hg' hm (by kernel_rfl) ha (by decide +kernel) (by decide +kernel) he hpl
        | exact sBltB (blt_min2 O.calm) hg' hm (by kernel_rfl) ha (by decide +kernel) (by decide +kernel) he hpl
        | exact sBltB (blt_max2 O.calm) hg' hm (by kernel_rfl) ha (by decide +kernel) (by decide +kernel) he hpl)
theorem snd_call (hr : SndE T G r) {c : Cs} {n : Str} {p pos : Pos} {es : List Expr} {ex : Ex} (h : trCall T r c n es = some ex) : Snd1 T G c (.Call (.Name n p) es [] pos) ex := by
  refine snd_plain rfl fun X Wx O => ?_
  unfold trCall at h
  split at h
  · cases h
  · rename_i hd
    simp only [dbg, Bool.or_eq_true, not_or, Bool.not_eq_true] at hd
    split at h
    · rename_i hg
      split at h
      · rename_i f hf
        split at h
        · cases h
        · rename_i e r'
          split at h
          · rename_i hs
            obtain ⟨xs, hx, rfl⟩ := Option.map_eq_some_iff.mp h
            obtain ⟨k, fd, ps, hF, hR, hm, hk, hb⟩ := O.fn n f hf
            exact sCall hF hR (O.gl (of_decide_eq_true hg)) hm hk hb O.tk (snd_X hr O hx) hd.1.1 (starEach_cons (all_tail hs).1) (starEach_any pos X.env (all_tail hs).2)
          · cases h
      · split at h
        · rename_i hi
          split at h
          · rename_i hn
            subst hn
            split at h
            · rename_i a t p2
              split at h
              · rename_i hc
                simp only [Bool.and_eq_true, Bool.not_eq_true'] at hc
                obtain ⟨x, t', h1, h2, rfl⟩ := ob2_ok h
                obtain ⟨v1, v2, v3⟩ := tyB_ok h2
                exact sIsi (hr X c Wx O a x h1).1 (O.gl (of_decide_eq_true hg)) (O.bi _ hi) (O.gl (of_decide_eq_true hc.1.1)) (O.bi _ hc.1.2) v1 v2 v3 (starEach_cons hc.2)
              · cases h
            · cases h
          · split at h
            · cases h
            · rename_i e r'
              split at h
              · rename_i hs
                obtain ⟨b, xs, h1, h2, rfl⟩ := ob2_ok h
                exact snd_blt hr O h1 h2 hg hi hs
              · cases h
        · cases h
    · cases h
theorem snd_met (hr : SndE T G r) {c : Cs} {o : Expr} {n : Str} {es : List Expr} {apos cpos : Pos} {ex : Ex} (h : trMet T r c o n es apos cpos = some ex) : Snd1 T G c (.Call (.Attribute o n apos) es [] cpos) ex := by
  refine snd_plain rfl fun X Wx O => ?_
  unfold trMet at h
  split at h
  · cases h
  · rename_i e r'
    split at h
    · rename_i hc
      simp only [Bool.and_eq_true, decide_eq_true_eq] at hc
      obtain ⟨⟨⟨hs, hb⟩, hl⟩, hn⟩ := hc
      obtain ⟨m, x, xs, h1, h2, h3, rfl⟩ := ob3_ok h
      have ho := (hr X c Wx O o x h2).1
      have ha := snd_X hr O h3
      have hfew : ((backTo cpos (starEach (e :: r') X.env)).all (fun x => !x.1) && (backToKw cpos (keywordEach [] X.env)).all (fun x => x.1.isSome)
        && decide ((e :: r').length + ([] : List Keyword).length + (if ([] : List Keyword).isEmpty then 0 else 1) < 30)) = true := by
        rw [starEach_all cpos X.env hs]
        simp only [Bool.true_and, Bool.and_eq_true, decide_eq_true_eq]
        exact ⟨rfl, by simp only [List.length_nil, List.isEmpty_nil, if_true]; omega⟩
      unfold mtB at h1
      repeat' split at h1
      all_goals first
        | (cases h1; done)
        | (cases h1; rename_i en; subst en; first
            | exact sMetL PySem.F.slot_list_append ty_append mtAppend rfl ho ha (baseOk_ok hb) hfew hl (starEach_cons (all_tail hs).1) (starEach_any cpos X.env (all_tail hs).2)
            | exact sMetL PySem.F.slot_list_extend ty_extend mtExtend rfl ho ha (baseOk_ok hb) hfew hl (starEach_cons (all_tail hs).1) (starEach_any cpos X.env (all_tail hs).2))
    · cases h
theorem snd_seq (hr : SndE T G r) {c : Cs} {X : Cx} {Wx : WX} (O : Okx X c T G Wx) {tg e : Expr} {i : It} (h : (r c e).map It.seq = some i) : PI X tg e (tIt X.K G Wx (denI i)) := by
  obtain ⟨x, h1, rfl⟩ := Option.map_eq_some_iff.mp h
  exact iSeq (hr X c Wx O e x h1).1
theorem snd_I (hr : SndE T G r) {c : Cs} {X : Cx} {Wx : WX} (O : Okx X c T G Wx) {tg e : Expr} {i : It} (h : trI T r c tg e = some i) : PI X tg e (tIt X.K G Wx (denI i)) := by
  unfold trI at h
  split at h
  · rename_i n p es pos
    split at h
    · rename_i hn
      subst hn
      split at h
      · rename_i hc
        simp only [Bool.and_eq_true] at hc
        split at h
        · rename_i a
          split at h
          · cases h
          · rename_i hs
            simp only [Bool.not_eq_true] at hs
            obtain ⟨x, h1, rfl⟩ := Option.map_eq_some_iff.mp h
            exact iRng (O.gl (of_decide_eq_true hc.1)) (O.bi _ hc.2) (hr X c Wx O a x h1).1 (starEach_one hs)
        · rename_i a b
          split at h
          · cases h
          · rename_i hs
            simp only [Bool.or_eq_true, not_or, Bool.not_eq_true] at hs
            obtain ⟨x, y, h1, h2, rfl⟩ := ob2_ok h
            exact iRng2' (O.gl (of_decide_eq_true hc.1)) (O.bi _ hc.2) (hr X c Wx O a x h1).1 (hr X c Wx O b y h2).1 (by rw [starEach_cons hs.1, starEach_one hs.2]) (starEach_one hs.2)
        · cases h
      · cases h
    · split at h
      · rename_i hn
        subst hn
        split at h
        · rename_i hc
          simp only [Bool.and_eq_true] at hc
          split at h
          · rename_i n2 p2 a b pos2
            split at h
            · rename_i hc2
              simp only [Bool.and_eq_true, Bool.not_eq_true', decide_eq_true_eq] at hc2
              obtain ⟨⟨⟨⟨hn2, g2⟩, b2⟩, s1⟩, s2⟩ := hc2
              subst hn2
              obtain ⟨x, y, h1, h2, rfl⟩ := ob2_ok h
              cases tg with
              | Tuple elts kk tpos => exact iEnz (O.gl (of_decide_eq_true hc.1.1)) (O.bi _ hc.1.2) (O.gl (of_decide_eq_true g2)) (O.bi _ b2) (hr X c Wx O a x h1).1 (hr X c Wx O b y h2).1 (starEach_cons s1) (starEach_one s2) (starEach_any pos2 X.env (by simp [s2]))
              | _ => exact absurd hc.2 Bool.false_ne_true
            · cases h
          · rename_i a _
            split at h
            · cases h
            · rename_i hs
              simp only [Bool.not_eq_true] at hs
              obtain ⟨x, h1, rfl⟩ := Option.map_eq_some_iff.mp h
              cases tg with
              | Tuple elts kk tpos => exact iEnu (O.gl (of_decide_eq_true hc.1.1)) (O.bi _ hc.1.2) (hr X c Wx O a x h1).1 (starEach_one hs)
              | _ => exact absurd hc.2 Bool.false_ne_true
          · cases h
        · cases h
      · split at h
        · rename_i hn
          subst hn
          split at h
          · rename_i hc
            simp only [Bool.and_eq_true] at hc
            split at h
            · rename_i a b
              split at h
              · cases h
              · rename_i hs
                simp only [Bool.or_eq_true, not_or, Bool.not_eq_true] at hs
                obtain ⟨x, y, h1, h2, rfl⟩ := ob2_ok h
                cases tg with
                | Tuple elts kk tpos => exact iZip' (O.gl (of_decide_eq_true hc.1.1)) (O.bi _ hc.1.2) (hr X c Wx O a x h1).1 (hr X c Wx O b y h2).1 (starEach_cons hs.1) (starEach_one hs.2) (starEach_any pos X.env (by simp [hs.2]))
                | _ => exact absurd hc.2 Bool.false_ne_true
            · cases h
          · cases h
        · exact snd_seq hr O h
  · split at h
    · exact snd_seq hr O h
    · cases h
theorem locB_ok {c : Cs} {x : Str} (h : locB c x = true) : (L2.Loc c.sc x) ∧ (c.cell x = true ∨ List.lookup x c.sc.names = some NameKind.local) := by
  simp only [locB, Bool.or_eq_true, Bool.and_eq_true, decide_eq_true_eq] at h
  rcases h with h | ⟨h1, h2⟩
  · exact ⟨.inl h, .inr h⟩
  · exact ⟨.inr h1, .inl h2⟩
theorem snd_nm {c : Cs} {X : Cx} {Wx : WX} (O : Okx X c T G Wx) {x : Str} {pos : Pos} {t : Tg} (h : trNm c x = some t) : PG X (.Name x pos) (gD X.K G Wx c.av (denG t)) := by
  unfold trNm at h
  split at h
  · rename_i i hi
    split at h
    · rename_i hc
      simp only [Bool.and_eq_true] at hc
      cases h
      obtain ⟨h1, h2⟩ := locB_ok hc.1
      exact gName' (by rw [O.N]; exact O.nd) (O.slot (idxB_ok hi)) (by rw [O.sc]; exact h1) (by rw [O.sc, O.cell]; exact h2) hc.2
    · cases h
  · cases h
theorem snd_G (hr : SndE T G r) {c : Cs} {X : Cx} {Wx : WX} (O : Okx X c T G Wx) : ∀ (n : Nat) {e : Expr} {t : Tg}, trG r c n e = some t → PG X e (gD X.K G Wx c.av (denG t))
  | 0, _, _, h => by cases h
  | n + 1, e, t, h => by
    unfold trG at h
    split at h
    · rename_i e1; cases e1
    · exact snd_nm O h
    · rename_i m es k pos hm
      cases hm
      split at h
      · rename_i hs
        obtain ⟨ts, h1, rfl⟩ := Option.map_eq_some_iff.mp h
        have key : ∀ (es : List Expr) (ts : Tgs), es.all (fun e => !starB e) = true → es.foldr (fun e k => ob2 (trG r c n e) k .cons) (some .nil) = some ts → PGs X es (gsD X.K G Wx c.av (denGs ts)) ∧ es.length = tgsLen ts := by
          intro es
          induction es with
          | nil => intro ts _ h; cases h; exact ⟨gsNil, rfl⟩
          | cons e es ih =>
            intro ts hs h
            obtain ⟨t, u, h1, h2, rfl⟩ := ob2_ok (show ob2 (trG r c n e) (es.foldr (fun e k => ob2 (trG r c n e) k .cons) (some .nil)) .cons = some ts from h)
            obtain ⟨s1, s2⟩ := all_tail hs
            obtain ⟨h3, h4⟩ := ih u s2 h2
            exact ⟨gsCons O.fl (snd_G hr O n h1) h3 (by rw [assign_cons s1]; rfl), by rw [List.length_cons, h4]; rfl⟩
        obtain ⟨h2, h3⟩ := key es ts hs h1
        obtain ⟨h4, h5⟩ := assign_none X.env hs
        exact gTp O.calm h2 (h5.trans h3) h4
      · cases h
    · rename_i m o i pos hm
      split at h
      · rename_i hp
        obtain ⟨x, y, h1, h2, rfl⟩ := ob2_ok h
        refine gSub' (hr X c Wx O o x h1).1 (hr X c Wx O i y h2).1 fun v => ?_
        cases i <;> first | rfl | cases hp
      · cases h
    · cases h
theorem ownOf_ix (N : List Str) (scope : Scope) : True := trivial
theorem blk_ok {c : Cs} {X : Cx} {Wx : WX} (O : Okx X c T G Wx) {scope : Scope} (hb : blkC c.N c.sc scope (ownOf c.N scope) = true) (s : Shared) (H : Hp) (C : Addr) (cl : List (Str × Addr)) (fp : List Addr) : Okx (X.blk s H scope (compEnvC scope cl C X.env) fp) (blkCs c scope) T G W0 where
  calm := O.calm
  N := O.N
  nd := O.nd
  sc := by
    show (compEnvC scope cl C X.env).scope = relS scope c.sc
    rw [← O.sc]
    rfl
  kind := (blkOk_by hb).kind
  cell := rfl
  tk := takes0
  hu := O.hu
  fl := .none _
  bi := O.bi
  gc := O.gc
  fn := O.fn
theorem snd_ifs (hr : SndE T G r) {c : Cs} {X : Cx} {Wx : WX} (O : Okx X c T G Wx) {ifs : List Expr} {ex : Ex} (h : trIfs r c ifs = some ex) : PTs X ifs (tT X.K G Wx (denT ex)) := by
  unfold trIfs at h
  split at h
  · cases h; exact tsNil
  · exact pts_one (hr X c Wx O _ ex h).2
  · cases h
theorem snd_lc (hr : SndE T G r) {c : Cs} {X : Cx} {Wx : WX} (O : Okx X c T G Wx) {elt : Expr} {gens : List Comprehension} {scope : Scope} {pos : Pos} {ex : Ex} (h : trLc T r c elt gens scope = some ex) : PE X (.ListComp elt gens scope pos) (tE X.K G Wx (denE ex)) := by
  unfold trLc at h
  split at h
  · rename_i tg iter ifs
    split at h
    · rename_i hc
      simp only [Bool.and_eq_true] at hc
      split at h
      · rename_i i t p h1 h2 h3
        cases h
        obtain ⟨x, y, h4, h5, rfl⟩ := ob2_ok h3
        have ob : ∀ s H C cl fp, Okx (X.blk s H scope (compEnvC scope cl C X.env) fp) (blkCs c scope) T G W0 := blk_ok O hc.1
        exact sLc O.calm (by rw [O.N]; exact O.nd) (snd_I hr O h1) rfl (by rw [O.N, O.sc]; exact blkOk_by hc.1) (fun s H C cl fp => snd_G hr (ob s H C cl fp) 4 h2) (fun s H C cl fp => snd_ifs hr (ob s H C cl fp) h4) (fun s H C cl fp => (hr _ _ _ (ob s H C cl fp) elt y h5).1) (folded_ok hc.2)
      · cases h
    · cases h
  · cases h
theorem snd_step (hr : SndE T G r) : SndE T G (stepE T r) := by
  intro X c Wx O e ex h
  unfold stepE at h
  split at h
  · exact snd_con h X Wx O
  · exact snd_name h X Wx O
  · obtain ⟨xs, h1, rfl⟩ := Option.map_eq_some_iff.mp h
    exact snd_plain rfl (fun X Wx O => sTup (snd_X hr O h1)) X Wx O
  · obtain ⟨xs, h1, rfl⟩ := Option.map_eq_some_iff.mp h
    exact snd_plain rfl (fun X Wx O => sLst (snd_X hr O h1)) X Wx O
  · cases h
    exact snd_plain rfl (fun X Wx O => sDct0) X Wx O
  · obtain ⟨o, x, y, h1, h2, h3, rfl⟩ := ob3_ok h
    rw [opB_ok h1]
    exact snd_plain rfl (fun X Wx O => sBin (hr X c Wx O _ x h2).1 (hr X c Wx O _ y h3).1) X Wx O
  · obtain ⟨x, h1, rfl⟩ := Option.map_eq_some_iff.mp h
    exact snd_plain rfl (fun X Wx O => sNeg (hr X c Wx O _ x h1).1) X Wx O
  · obtain ⟨x, h1, rfl⟩ := Option.map_eq_some_iff.mp h
    obtain ⟨h2, h3⟩ := hr X c Wx O _ x h1
    refine ⟨?_, tNot' h3⟩
    show PE X _ (tE X.K G Wx (dBl (dNotT (denT x))))
    rw [denT_tru x]
    exact sNot h2
  · obtain ⟨h1, h2⟩ := snd_and hr O (pos := by assumption) h
    exact ⟨h1, h2.pt⟩
  · obtain ⟨h1, h2⟩ := snd_or hr O (pos := by assumption) h
    exact ⟨h1, h2.pt⟩
  · obtain ⟨t, x, y, h1, h2, h3, rfl⟩ := ob3_ok h
    obtain ⟨a1, a2⟩ := hr X c Wx O _ t h1
    obtain ⟨b1, b2⟩ := hr X c Wx O _ x h2
    obtain ⟨c1, c2⟩ := hr X c Wx O _ y h3
    exact ⟨sIfE a2 b1 c1, tIfE a2 b2 c2⟩
  · split at h
    · rename_i hs
      obtain ⟨o, x, y, h1, h2, h3, rfl⟩ := ob3_ok h
      rw [coB_ok h1]
      exact ⟨sCmp O.hu (hr X c Wx O _ x h2).1 (hr X c Wx O _ y h3).1 (behind_ok hs), tCmp' O.hu (hr X c Wx O _ x h2).1 (hr X c Wx O _ y h3).1 (behind_ok hs)⟩
    · cases h
  · split at h
    · rename_i hs
      obtain ⟨p, q, h1, h2, rfl⟩ := ob2_ok h
      obtain ⟨o1, o2, h3, h4, rfl⟩ := ob2_ok h1
      obtain ⟨x, y, z, h5, h6, h7, rfl⟩ := ob3_ok h2
      rw [coB_ok h3, coB_ok h4]
      exact ⟨sCmp2 O.hu (hr X c Wx O _ x h5).1 (hr X c Wx O _ y h6).1 (hr X c Wx O _ z h7).1 (last_ok hs), tCmp2' O.hu (hr X c Wx O _ x h5).1 (hr X c Wx O _ y h6).1 (hr X c Wx O _ z h7).1 (last_ok hs)⟩
    · cases h
  · obtain ⟨x, y, z, h1, h2, h3, rfl⟩ := ob3_ok h
    exact snd_plain rfl (fun X Wx O => sSlc (hr X c Wx O _ x h1).1 (snd_slp hr O h2) (snd_slp hr O h3)) X Wx O
  · obtain ⟨x, h1, rfl⟩ := Option.map_eq_some_iff.mp h
    exact snd_plain rfl (fun X Wx O => sRev (hr X c Wx O _ x h1).1) X Wx O
  · split at h
    · rename_i hp
      obtain ⟨x, y, h1, h2, rfl⟩ := ob2_ok h
      exact snd_plain rfl (fun X Wx O => sIdx (hr X c Wx O _ x h1).1 (hr X c Wx O _ y h2).1 (plainIx_ok hp)) X Wx O
    · cases h
  · exact snd_call hr h X Wx O
  · exact snd_met hr h X Wx O
  · exact snd_plain rfl (fun X Wx O => snd_lc hr O h) X Wx O
  · cases h
theorem snd_E : ∀ n, SndE T G (trE T n)
  | 0 => fun _ _ _ _ _ _ h => by cases h
  | n + 1 => snd_step (snd_E n)
end
end Pv
set_option autoImplicit false
set_option Elab.async false
set_option linter.all false
set_option maxRecDepth 100000
set_option maxHeartbeats 2000000
/-! From the program's text to the evaluator's: statements, defs. -/
namespace Pv
open PySem PySem.Spec PyProof.Rows L2

/-- the names of targets, with their places -/
def nmOf (c : Cs) : List Expr → Option (List Nat)
  | [] => some []
  | .Name x _ :: es => match idxB c.N x, nmOf c es with
    | some i, some r => if decide (c.sc.names.lookup x = some .local) && c.av i && !r.contains i then some (i :: r) else none
    | _, _ => none
  | _ :: _ => none
/-- how a tuple of values is stored into a tuple of targets: in order, or the names swapped; none: not told -/
def swF (kd : Str → Option NameKind) (ts vs : List Expr) : Option (Option (List Str)) :=
  if !(ts.length == 2 || ts.length == 3) || vs.length != ts.length then some none else if (vs.any fun e => starB e) then some none else
    let l := (ts.head?.map (·.pos.line)).getD 0
    let ns := ts.filterMap fun e => match e with
      | .Name x p => if kd x == some .local && p.line == l then some x else none
      | _ => none
    if ns.length != ts.length || ns.eraseDups.length != ns.length then some none else if vs.all (foldedForSure 8) then some none else if vs.all (constantsAlone 8) then none else some (some ns)
def kdOf (c : Cs) : Str → Option NameKind := fun x => c.sc.names.lookup x
def trPar (r : TrE) (c : Cs) : Expr → Expr → Option St
  | .Tuple [.Name x px, .Name y py] _ _, .Tuple [a, b] _ _ =>
    if decide (swF (kdOf c) [.Name x px, .Name y py] [a, b] = some (some [x, y])) then
      match nmOf c [.Name x px, .Name y py], trX r c [a, b] with
      | some [i, j], some xs => some (.par [i, j] xs)
      | _, _ => none
    else none
  | .Tuple [.Name x px, .Name y py, .Name z pz] _ _, .Tuple [a, b, d] _ _ =>
    if decide (swF (kdOf c) [.Name x px, .Name y py, .Name z pz] [a, b, d] = some (some [x, y, z])) then
      match nmOf c [.Name x px, .Name y py, .Name z pz], trX r c [a, b, d] with
      | some [i, j, l], some xs => some (.par [i, j, l] xs)
      | _, _ => none
    else none
  | _, _ => none
/-- the stores of an assignment surely come in order -/
def inOrd (c : Cs) : Expr → Expr → Bool
  | .Tuple ts _ _, .Tuple vs _ _ => decide (swF (kdOf c) ts vs = some none)
  | .List _ _, _ => false
  | _, _ => true
/-- whether name = [..] stores swapping -/
def swapB (c : Cs) : Expr → Expr → Bool
  | .Name y py, .ListComp _ _ scope pos | .Name y py, .SetComp _ _ scope pos | .Name y py, .DictComp _ _ _ scope pos => kdOf c y == some .local && py.line == pos.line && !scope.names.any fun z => z.1 == y && (z.2 == .local || z.2 == .cell)
  | _, _ => false
def trAsg (T : Tb) (r : TrE) (c : Cs) (tg e : Expr) : Option St :=
  if starB tg then none else if inOrd c tg e then (if swapB c tg e then none else ob2 (trG r c 4 tg) (r c e) .asg) else trPar r c tg e
def lcSwap (c : Cs) (y : Str) (py pos : Pos) (scope : Scope) : Bool :=
  kdOf c y == some .local && py.line == pos.line && !scope.names.any fun z => z.1 == y && (z.2 == .local || z.2 == .cell)
/-- name = [..] -/
def trLcA (T : Tb) (r : TrE) (c : Cs) : Expr → Expr → Option St
  | .Name y py, .ListComp elt gens scope pos =>
    if decide (c.sc.names.lookup y = some .local) && lcSwap c y py pos scope then
      ob2 (match idxB c.N y with
        | some i => if c.av i then some i else none
        | none => none) (trLc T r c elt gens scope) fun i x => .asg (.nm i) x
    else none
  | _, _ => none
def stepS (T : Tb) (r : TrE) (rs : Cs → List Stmt → Sts) (c : Cs) : Stmt → St
  | .Expr e _ => if compB e then .dead else match r c e with
    | some x => .exp x
    | none => .dead
  | .Assign [tg] e pos => match trAsg T r c tg e with
    | some s => s
    | none => (match trLcA T r c tg e with
      | some s => s
      | none => .dead)
  | .AugAssign (.Name x _) op e _ => (match trNm c x, r c e with
    | some (.nm i), some d => (match op with
      | .Add => .aug i .add d
      | .Sub => .aug i .sub d
      | _ => .dead)
    | _, _ => .dead)
  | .Return (some e) _ => (match r c e with
    | some x => .ret x
    | none => .dead)
  | .Return none _ => .retn
  | .If t a b _ => (match r c t with
    | some x => .ite x (rs c a) (rs c b)
    | none => .dead)
  | .For tg it b [] _ => if noSet it then (match trI T r c tg it, trG r c 4 tg with
    | some i, some t => .fr i t (rs c b)
    | _, _ => .dead) else .dead
  | .While t b [] _ => (match r c t with
    | some x => .whl x (rs c b)
    | none => .dead)
  | .Pass _ => .pas
  | .Continue _ => .cnt
  | _ => .dead
def mapS (f : Stmt → St) : List Stmt → Sts
  | [] => .nil
  | s :: r => .cons (f s) (mapS f r)
def trSs (T : Tb) (k : Nat) : Nat → Cs → List Stmt → Sts
  | 0 => fun _ _ => .cons .dead .nil
  | n + 1 => fun c => mapS (stepS T (trE T k) (trSs T k n) c)
/-! ### soundness -/
section
variable {T : Tb} {G : Gp} {r : TrE}
theorem starB_any (vs : List Expr) : (vs.any fun | .Starred .. => true | _ => false) = vs.any fun e => starB e := by
  congr 1
theorem swF_ok {kd : Str → Option NameKind} {ts vs : List Expr} {k1 k2 : Nat} {p1 p2 : Pos} {env : Env} {o : Option (List Str)} (hk : env.blockKind = .function) (hkd : env.kindOf = kd) (h : swF kd ts vs = some o) : swappedStores [.Tuple ts k1 p1] (.Tuple vs k2 p2) env = pure o := by
  subst hkd
  unfold swF at h
  unfold swappedStores
  dsimp only at h ⊢
  rw [hk]
  by_cases h1 : (!(ts.length == 2 || ts.length == 3) || vs.length != ts.length) = true
  · rw [if_pos h1] at h
    cases h
    rw [h1]
    rfl
  · rw [if_neg h1] at h
    rw [Bool.not_eq_true] at h1
    rw [h1]
    refine (if_neg (by decide)).trans ?_
    by_cases h2 : (vs.any fun e => starB e) = true
    · rw [if_pos h2] at h
      cases h
      exact if_pos h2
    · rw [if_neg h2] at h
      refine (if_neg h2).trans ?_
      split at h
      · rename_i h3
        cases h
        exact if_pos h3
      · rename_i h3
        refine (if_neg h3).trans ?_
        split at h
        · rename_i h4
          cases h
          exact if_pos h4
        · rename_i h4
          refine (if_neg h4).trans ?_
          split at h
          · cases h
          · rename_i h5
            cases h
            exact if_neg h5
theorem swapped_tgt {c : Cs} {tg e : Expr} {env : Env} (h : inOrd c tg e = true) (hk : env.blockKind = .function) (hkd : env.kindOf = kdOf c) : swappedStores [tg] e env = pure none := by
  cases tg with
  | Tuple ts k p =>
    cases e with
    | Tuple vs k2 p2 => exact swF_ok hk hkd (of_decide_eq_true h)
    | _ => rfl
  | List ts p => cases h
  | _ => rfl
def SndS (T : Tb) (G : Gp) (rs : Cs → List Stmt → Sts) : Prop := ∀ X c Wx, Okx X c T G Wx → PassesOwn (model X.prog X.w) X.A X.env X.xe → ∀ ss, PSs X ss (tSt X.K G Wx c.av (denSs (rs c ss)))
abbrev Snd1S (T : Tb) (G : Gp) (c : Cs) (s : Stmt) (st : St) : Prop := ∀ X Wx, Okx X c T G Wx → PassesOwn (model X.prog X.w) X.A X.env X.xe → PS X s (tSt X.K G Wx c.av (denS st))
theorem nmOf_cons {c : Cs} {x : Str} {p : Pos} {es : List Expr} {l : List Nat} (h : nmOf c (.Name x p :: es) = some l) : ∃ i r, l = i :: r ∧ idxB c.N x = some i ∧ nmOf c es = some r ∧ c.sc.names.lookup x = some .local ∧ c.av i = true ∧ i ∉ r := by
  have h : (match idxB c.N x, nmOf c es with
    | some i, some r => if decide (c.sc.names.lookup x = some .local) && c.av i && !r.contains i then some (i :: r) else none
    | _, _ => none) = some l := h
  split at h
  · rename_i i r h1 h2
    split at h
    · rename_i hc
      cases h
      simp only [Bool.and_eq_true, decide_eq_true_eq, Bool.not_eq_true'] at hc
      exact ⟨i, r, rfl, h1, h2, hc.1.1, hc.1.2, by simpa using hc.2⟩
    · cases h
  · cases h
theorem kind_of {c : Cs} {X : Cx} {Wx : WX} (O : Okx X c T G Wx) : X.env.blockKind = .function := by
  unfold Env.blockKind
  rw [O.sc, O.kind]
  rfl
theorem kdE {c : Cs} {X : Cx} {Wx : WX} (O : Okx X c T G Wx) : X.env.kindOf = kdOf c := by
  funext x
  show List.lookup x X.env.scope.names = _
  rw [O.sc]
  rfl
theorem snd_par (hr : SndE T G r) {c : Cs} {tg e : Expr} {pos : Pos} {s : St} (h : trPar r c tg e = some s) : Snd1S T G c (.Assign [tg] e pos) s := by
  intro X Wx O hp
  have hb := kind_of O
  unfold trPar at h
  split at h
  · rename_i x px y py k1 p1 a b k2 p2
    split at h
    · rename_i hc
      split at h
      · rename_i i j xs h1 h2
        cases h
        obtain ⟨i', r1, e1, a1, a2, a3, a4, a5⟩ := nmOf_cons h1
        cases e1
        obtain ⟨j', r2, e2, b1, b2, b3, b4, b5⟩ := nmOf_cons a2
        cases e2
        exact stPar2 O.calm (by rw [O.N]; exact O.nd) (O.slot (idxB_ok a1)) (O.slot (idxB_ok b1)) (fun z => a5 (by rw [z]; simp)) (by rw [O.sc]; exact a3) (by rw [O.sc]; exact b3) (snd_X hr O h2) (swF_ok hb (kdE O) (of_decide_eq_true hc)) rfl a4 b4
      · cases h
    · cases h
  · rename_i x px y py z pz k1 p1 a b d k2 p2
    split at h
    · rename_i hc
      split at h
      · rename_i i j l xs h1 h2
        cases h
        obtain ⟨i', r1, e1, a1, a2, a3, a4, a5⟩ := nmOf_cons h1
        cases e1
        obtain ⟨j', r2, e2, b1, b2, b3, b4, b5⟩ := nmOf_cons a2
        cases e2
        obtain ⟨l', r3, e3, d1, d2, d3, d4, d5⟩ := nmOf_cons b2
        cases e3
        exact stPar3 O.calm (by rw [O.N]; exact O.nd) (O.slot (idxB_ok a1)) (O.slot (idxB_ok b1)) (O.slot (idxB_ok d1)) (fun z => a5 (by rw [z]; simp)) (fun z => a5 (by rw [z]; simp)) (fun z => b5 (by rw [z]; simp)) (by rw [O.sc]; exact a3) (by rw [O.sc]; exact b3) (by rw [O.sc]; exact d3) (snd_X hr O h2) (swF_ok hb (kdE O) (of_decide_eq_true hc)) rfl a4 b4 d4
      · cases h
    · cases h
  · cases h
theorem swapB_ok {c : Cs} {X : Cx} {Wx : WX} (O : Okx X c T G Wx) {tg e : Expr} {line : Nat} : swapsWith e (some tg) line X.env = pure (swapB c tg e) := by
  cases hc : compB e with
  | false =>
    rw [swaps_none hc]
    have : swapB c tg e = false := by
      unfold swapB
      split
      · cases hc
      · cases hc
      · cases hc
      · rfl
    rw [this]
  | true =>
    cases hn : nameB tg with
    | false =>
      rw [swaps_tgt hn]
      have : swapB c tg e = false := by
        unfold swapB
        split
        · cases hn
        · cases hn
        · cases hn
        · rfl
      rw [this]
    | true =>
      cases tg with
      | Name y py =>
        have key : ∀ (scope : Scope) (p : Pos), (X.env.blockKind == ScopeKind.function && X.env.kindOf y == some NameKind.local && py.line == p.line && !scope.names.any fun x => match x with
          | (n, k) => n == y && (k == NameKind.local || k == NameKind.cell)) = (kdOf c y == some .local && py.line == p.line && !scope.names.any fun z => z.1 == y && (z.2 == .local || z.2 == .cell)) := fun scope p => by
          rw [kind_of O, kdE O]
          simp
        cases e with
        | ListComp elt gens scope p => exact congrArg pure (key scope p)
        | SetComp elt gens scope p => exact congrArg pure (key scope p)
        | DictComp k v gens scope p => exact congrArg pure (key scope p)
        | _ => cases hc
      | _ => cases hn
theorem snd_asg (hr : SndE T G r) {c : Cs} {tg e : Expr} {pos : Pos} {s : St} (h : trAsg T r c tg e = some s) : Snd1S T G c (.Assign [tg] e pos) s := by
  intro X Wx O hp
  unfold trAsg at h
  split at h
  · cases h
  · rename_i hs
    simp only [Bool.not_eq_true] at hs
    split at h
    · rename_i ho
      split at h
      · cases h
      · rename_i hc
        obtain ⟨t, x, h1, h2, rfl⟩ := ob2_ok h
        refine stAsg (hr X c Wx O e x h2).1 (snd_G hr O 4 h1) ?_ (swapped_tgt ho (kind_of O) (kdE O)) (by rw [assign_cons hs]; rfl)
        show swapsWith e (some tg) pos.line X.env = pure false
        rw [swapB_ok O, Bool.not_eq_true _ |>.mp hc]
    · exact snd_par hr h X Wx O hp
theorem tE.mono {K : PySem.W.Frag} {Wx : WX} {d : Dn W} {σ : L2.St} {H : Hp} {Q Q' : VK} (hq : ∀ v H, Q v H → Q' v H) (h : tE K G Wx d σ H Q) : tE K G Wx d σ H Q' := by
  obtain ⟨ρ, S, env, sr, er, f⟩ := h
  refine ⟨ρ, S, env, sr, er, ?_⟩
  cases q : d G.cl env S with
  | ok a S' => rw [q] at f; exact fun ρ' H' b e s r => hq _ _ (f ρ' H' b e s r)
  | er c g S' => rw [q] at f; exact f
  | no => rw [q] at f; exact f
theorem snd_lcA (hr : SndE T G r) {c : Cs} {tg e : Expr} {pos : Pos} {s : St} (h : trLcA T r c tg e = some s) : Snd1S T G c (.Assign [tg] e pos) s := by
  intro X Wx O hp
  unfold trLcA at h
  split at h
  · rename_i y py elt gens scope lpos
    split at h
    · rename_i hc
      simp only [Bool.and_eq_true, decide_eq_true_eq] at hc
      obtain ⟨i, x, h1, h2, rfl⟩ := ob2_ok h
      split at h1
      · rename_i i' hi
        split at h1
        · rename_i ha
          cases h1
          unfold trLc at h2
          split at h2
          · rename_i tg iter ifs
            split at h2
            · rename_i hc2
              simp only [Bool.and_eq_true] at hc2
              split at h2
              · rename_i it t p k1 k2 k3
                cases h2
                obtain ⟨x, y', k4, k5, rfl⟩ := ob2_ok k3
                have ob : ∀ s H C cl fp, Okx (X.blk s H scope (compEnvC scope cl C X.env) fp) (blkCs c scope) T G W0 := blk_ok O hc2.1
                have hsw : swapsWith (Expr.ListComp elt [⟨tg, iter, ifs, 0⟩] scope lpos) (some (Expr.Name y py)) pos.line X.env = pure true := by
                  have hl := hc.2
                  unfold lcSwap at hl
                  simp only [Bool.and_eq_true] at hl
                  show pure (X.env.blockKind == ScopeKind.function && X.env.kindOf y == some NameKind.local && py.line == lpos.line && !scope.names.any fun x => match x with
                    | (n, k) => n == y && (k == NameKind.local || k == NameKind.cell)) = pure true
                  rw [kind_of O, kdE O, hl.1.1, hl.1.2]
                  congr 1
                  simpa using hl.2
                refine psW (ps_setLc (g := gD X.K G W0 (avOf ((ownOf c.N scope).map (fun p : Str × Nat => p.2))) (denG t)) (tt := tT X.K G W0 (denT x)) (te := tE X.K G W0 (denE y')) O.calm (by rw [O.N]; exact O.nd) (O.slot (idxB_ok hi)) (by rw [O.sc]; exact hc.1) hsw (snd_I hr O k1) (by rw [O.N, O.sc]; exact blkOk_by hc2.1) (fun s H C cl fp => snd_G hr (ob s H C cl fp) 4 k2) (fun s H C cl fp => snd_ifs hr (ob s H C cl fp) k4) (fun s H C cl fp => (hr _ _ _ (ob s H C cl fp) elt y' k5).1) (folded_ok hc2.2)) fun D σ H h => ?_
                refine lcQ (X := X) (tE.mono (fun v H1 z => ?_) (asgQ (X := X) (t := aNm i) h))
                obtain ⟨ρ, S, env, w, sr, er, rw_, f⟩ := z
                exact Fin.ok (a := env.set i (some w)) (S := S) f sr ⟨er.set rw_ i, .set ha⟩
              · cases h2
            · cases h2
          · cases h2
        · cases h1
      · cases h1
    · cases h
  · cases h
theorem snd_stepS (hr : SndE T G r) {rs : Cs → List Stmt → Sts} (hrs : SndS T G rs) (c : Cs) (s : Stmt) : Snd1S T G c s (stepS T r rs c s) := by
  intro X Wx O hp
  unfold stepS
  split
  · split
    · exact stDead
    · rename_i hc
      split
      · rename_i x h
        exact stExp (hr X c Wx O _ x h).1 (swaps_none (by simpa using hc))
      · exact stDead
  · split
    · rename_i s h
      exact snd_asg hr h X Wx O hp
    · split
      · rename_i s h
        exact snd_lcA hr h X Wx O hp
      · exact stDead
  · split
    · rename_i x p op e p2 _ _ i d h1 h2
      unfold trNm at h1
      split at h1
      · rename_i i' hi
        split at h1
        · rename_i hc
          cases h1
          simp only [Bool.and_eq_true] at hc
          obtain ⟨l1, l2⟩ := locB_ok hc.1
          split
          · exact stAug (b := true) (by rw [O.N]; exact O.nd) (O.slot (idxB_ok hi)) (by rw [O.sc]; exact l1) (hr X c Wx O _ d h2).1 (by rw [O.sc, O.cell]; exact l2) hc.2
          · exact stAug (b := false) (by rw [O.N]; exact O.nd) (O.slot (idxB_ok hi)) (by rw [O.sc]; exact l1) (hr X c Wx O _ d h2).1 (by rw [O.sc, O.cell]; exact l2) hc.2
          · exact stDead
        · cases h1
      · cases h1
    · exact stDead
  · split
    · rename_i x h
      exact stRet (hr X c Wx O _ x h).1
    · exact stDead
  · exact stRetN
  · split
    · rename_i x h
      exact stIf (hr X c Wx O _ x h).2 (hrs X c Wx O hp _) (hrs X c Wx O hp _)
    · exact stDead
  · split
    · rename_i hs
      split
      · rename_i i t h1 h2
        exact stFor O.fl hp O.calm (snd_I hr O h1) (snd_G hr O 4 h2) (hrs X c Wx O hp _) (folded_ok hs)
      · exact stDead
    · exact stDead
  · split
    · rename_i x h
      exact stWhl O.fl hp (hr X c Wx O _ x h).2 (hrs X c Wx O hp _)
    · exact stDead
  · exact stPass
  · exact stCnt
  · exact stDead
theorem snd_map {c : Cs} {f : Stmt → St} (hf : ∀ s, Snd1S T G c s (f s)) {X : Cx} {Wx : WX} (O : Okx X c T G Wx) (hp : PassesOwn (model X.prog X.w) X.A X.env X.xe) : ∀ ss : List Stmt, PSs X ss (tSt X.K G Wx c.av (denSs (mapS f ss)))
  | [] => stNil
  | s :: ss => stCons O.fl (hf s X Wx O hp) (snd_map hf O hp ss)
theorem snd_Ss (k : Nat) : ∀ n, SndS T G (trSs T k n)
  | 0 => fun X c Wx O hp ss => by
    refine ⟨fun pins s σ H D I h => ?_⟩
    obtain ⟨ρ, S, env, sr, er, f⟩ := h
    exact f.no_
  | n + 1 => fun X c Wx O hp ss => snd_map (fun s => snd_stepS (snd_E k) (snd_Ss k n) c s) O hp ss
end
/-! ### defs -/
/-- a def of the text -/
structure DS where
  x : Str
  st : Stmt
  N : List Str
  ps : List Str
def csOf (d : DS) : Cs := ⟨d.N, C8.fnScope d.st, fun _ => true, fun _ => true⟩
abbrev FnP (K : PySem.W.Frag) (d : DS) (f : Addr) (fd : FuncData) : Prop := FunD K d.x d.x (C8.fnArgs d.st) (C8.fnBody d.st) (C8.fnScope d.st) [] [] f fd
/-- a def's body in the evaluator -/
def DefOk (T : Tb) (d : DS) (D : Def) : Prop := C8.scC d.N d.ps (C8.fnScope d.st) = true ∧ D.arity = d.ps.length ∧ D.slots = d.N.length ∧ ∃ k n, D.body = denSs (trSs T k n (csOf d) (C8.fnBody d.st))
/-- the module, as the evaluator has it -/
structure Md (K : PySem.W.Frag) (mg : Str → Option Value) (T : Tb) (gad : Nat → Addr) (ds : Nat → Option DS) (D : Nat → Option Def) : Prop where
  bi : ∀ x, T.bi x = true → mg x = none
  gc : ∀ x w, T.gc x = some w → ∃ v u, mg x = some u ∧ RelV v u ∧ ∀ ρ H, RW K gad ρ H w v
  fn : ∀ x f, T.fn x = some f → ∃ d, ds f = some d ∧ mg x = some (.ref (gad f))
  df : ∀ f d, ds f = some d → ∃ fd, FnP K d (gad f) fd ∧ L2.Binds K fd d.ps []
  ok : ∀ f d, ds f = some d → ∃ e, D f = some e ∧ DefOk T d e
theorem er_start {K : PySem.W.Frag} {gad : Nat → Addr} {ρ : List Addr} {H : Hp} {ws : List W} {vs : List V} (r : RWs K gad ρ H ws vs) (n : Nat) (N : List Str) (hn : N.length = n) : ER K gad ρ H (ws.map some ++ List.replicate (n - vs.length) none) (L2.start N vs) := by
  subst hn
  refine ⟨by unfold L2.start; simp [r.length], fun i w h => ?_⟩
  unfold L2.start
  by_cases hi : i < ws.length
  · rw [List.getElem?_append_left (by rw [List.length_map]; exact hi), List.getElem?_map] at h
    obtain ⟨u, h1, h2⟩ := Option.map_eq_some_iff.mp h
    cases h2
    obtain ⟨v, h3, h4⟩ := r.get h1
    refine ⟨v, ?_, h4⟩
    rw [List.getElem?_append_left (by rw [List.length_map, ← r.length]; exact hi), List.getElem?_map, h3]
    rfl
  · rw [List.getElem?_append_right (by rw [List.length_map]; omega), List.getElem?_replicate] at h
    split at h
    · cases h
    · cases h
theorem fn_all {P : Program} {w : World} {K : PySem.W.Frag} {mg : Str → Option Value} {base : Heap} {T : Tb} {gad : Nat → Addr} {cad : Nat → Addr} {fnm : Nat → Str} {ds : Nat → Option DS} {D : Nat → Option Def} (M : Md K mg T gad ds D) :
    ∀ (n f : Nat) (d : DS), ds f = some d → ∃ fd, FnOk P w K mg base (CX P w) n (gad f) fd d.ps (spF K ⟨gad, cad, fnm, callF D n⟩ f) ∧ FnP K d (gad f) fd ∧ L2.Binds K fd d.ps [] := by
  intro n
  induction n with
  | zero =>
    intro f d hd
    obtain ⟨fd, F, b⟩ := M.df f d hd
    refine ⟨fd, ⟨fun vs H Q E h => ?_, fun A outer s H args us vs Q E hr e0 bt r h => ?_⟩, F, b⟩
    · obtain ⟨ρ, S, ws, sr, rs, f⟩ := h
      exact f.no_
    · obtain ⟨ρ, S, ws, sr, rs, f⟩ := h
      exact f.no_
  | succ n ih =>
    intro f d hd
    obtain ⟨fd, F, b⟩ := M.df f d hd
    obtain ⟨e, he, hs, ha, hsl, k, m, hbody⟩ := M.ok f d hd
    have sc := C8.fnScope_by hs
    have len : ∀ (vs : List V) (H : Hp) (Q : VK) (E : XK), spF K ⟨gad, cad, fnm, callF D (n + 1)⟩ f vs H Q E → vs.length = d.ps.length := by
      rintro vs H Q E ⟨ρ, S, ws, sr, rs, fi⟩
      have fi : Fin K ⟨gad, cad, fnm, callF D (n + 1)⟩ (relW K ⟨gad, cad, fnm, callF D (n + 1)⟩) ρ H (match D f with
        | some d => runDef d (callF D n) ws S
        | none => .no) Q E := fi
      rw [he] at fi
      have fi : Fin K ⟨gad, cad, fnm, callF D (n + 1)⟩ (relW K ⟨gad, cad, fnm, callF D (n + 1)⟩) ρ H (runDef e (callF D n) ws S) Q E := fi
      unfold runDef at fi
      split at fi
      · rename_i hl
        rw [← rs.length, hl, ha]
      · exact fi.no_
    refine ⟨fd, F.ok sc len fun cdv A outer s H vs Q E hr h => ?_, F, b⟩
    have hl := len vs H Q E h
    obtain ⟨ρ, S, ws, sr, rs, fi⟩ := h
    let G : Gp := ⟨gad, cad, fnm, callF D n⟩
    refine ⟨tSt K G (fun cls d _ H' => E cls d H') (fun _ => true) e.body, ?_, ?_⟩
    · rw [hbody]
      have O : Okx (cxOf (CX P w) P w K mg base d.N d.x (C8.fnScope d.st) (gad f) cdv A outer s H E) (csOf d) T G (fun cls d _ H' => E cls d H') := {
        calm := rfl
        N := rfl
        nd := sc.nd
        sc := rfl
        kind := sc.kind
        cell := rfl
        tk := takes_of rfl rfl rfl (E := E) rfl
        hu := by
          have := hr.un
          show (A.deeper _).units + 64 < cLine
          omega
        fl := fun cls d σ σ' H _ z => z
        bi := M.bi
        gc := M.gc
        fn := fun x f' hx => by
          obtain ⟨d', h1, h2⟩ := M.fn x f' hx
          obtain ⟨fd', F', P', b'⟩ := ih f' d' h1
          exact ⟨n, fd', d'.ps, F', hr, h2, P'.kp, b'⟩ }
      exact snd_Ss k m _ (csOf d) _ O (passes_of (K := fun e s'' => CX P w outer H s E e s'') rfl) (C8.fnBody d.st)
    · refine ⟨ρ, S, ws.map some ++ List.replicate (e.slots - e.arity) none, sr, ?_, ?_⟩
      · have := er_start (gad := gad) rs d.N.length d.N rfl
        rw [hsl, ha, ← hl]
        exact this
      · have fi : Fin K ⟨gad, cad, fnm, callF D (n + 1)⟩ (relW K ⟨gad, cad, fnm, callF D (n + 1)⟩) ρ H (match D f with
          | some d => runDef d (callF D n) ws S
          | none => .no) Q E := fi
        rw [he] at fi
        have fi : Fin K ⟨gad, cad, fnm, callF D (n + 1)⟩ (relW K ⟨gad, cad, fnm, callF D (n + 1)⟩) ρ H (runDef e (callF D n) ws S) Q E := fi
        unfold runDef at fi
        split at fi
        · refine Fin.bind (rel2 := relW K G) (f := fun f S1 => match f with
            | .nx _ => .ok .non S1
            | .rt w => .ok w S1
            | .ct _ => .no) (Q := Q) (?_ : Fin K G (relW K G) ρ H _ Q E) fun a S' ρ' H' b _ x s' q f1 => ?_
          · cases q : e.body (callF D n) (ws.map some ++ List.replicate (e.slots - e.arity) none) S with
            | ok a S' =>
              rw [q] at fi
              cases a with
              | nx _ => exact fi
              | rt _ => exact fi
              | ct _ => exact fi
            | er c g S' => rw [q] at fi; exact fi
            | no => rw [q] at fi; exact fi
          · cases a with
            | nx env =>
              cases b with
              | nx σ' => exact Fin.ok (a := W.non) (S := S') (b := V.non) f1 s' .non
              | _ => exact q.elim
            | rt w =>
              cases b with
              | rt v => exact Fin.ok (a := w) (S := S') (b := v) f1 s' q
              | _ => exact q.elim
            | ct env => exact f1.no_
        · exact fi.no_
end Pv
set_option autoImplicit false
set_option Elab.async false
set_option linter.all false
set_option maxRecDepth 100000
set_option maxHeartbeats 2000000
/-! The module's facts, the law's end. -/
namespace Pv
open PySem PySem.Spec PyProof.Rows L2

/-- a constant of the module -/
inductive Kc where
  | int (i : Int) | str (x : Str)
def Kc.w : Kc → W
  | .int i => .int i
  | .str x => .str x
def Kc.fa (n : Str) : Kc → He.Fa
  | .int i => .int n i
  | .str x => .str n x
def gadOf (dn : List DS) (K : PySem.W.Frag) (i : Nat) : Addr := match dn[i]? with
  | some d => He.ga K d.x
  | none => 0
def fnOf' (d : DS) : He.DefD := ⟨(d.x, none), d.x, d.x, C8.fnArgs d.st, C8.fnBody d.st, C8.fnScope d.st, [], []⟩
def faOf (dn : List DS) (frees : List Str) (cs : List (Str × Kc)) : List He.Fa := dn.map (fun d => .glo d.x) ++ (frees.map .free ++ cs.map fun p => p.2.fa p.1)
def ixD : List DS → Str → Nat → Option Nat
  | [], _, _ => none
  | d :: r, x, i => if d.x = x then some i else ixD r x (i + 1)
def kcOf : List (Str × Kc) → Str → Option W
  | [], _ => none
  | p :: r, x => if p.1 = x then some p.2.w else kcOf r x
def tbOf (dn : List DS) (frees : List Str) (cs : List (Str × Kc)) : Tb := ⟨fun x => ixD dn x 0, kcOf cs, fun x => frees.any fun y => decide (y = x)⟩
theorem ixD_ok {x : Str} : ∀ {dn : List DS} {k f : Nat}, ixD dn x k = some f → ∃ i d, f = k + i ∧ dn[i]? = some d ∧ d.x = x
  | [], _, _, h => by cases h
  | d :: r, k, f, h => by
    unfold ixD at h
    split at h
    · rename_i e
      cases h
      exact ⟨0, d, rfl, rfl, e⟩
    · obtain ⟨i, d', h1, h2, h3⟩ := ixD_ok h
      exact ⟨i + 1, d', by omega, by simpa using h2, h3⟩
theorem kcOf_ok {x : Str} {w : W} : ∀ {cs : List (Str × Kc)}, kcOf cs x = some w → ∃ k, (x, k) ∈ cs ∧ w = k.w
  | [], h => by cases h
  | p :: r, h => by
    unfold kcOf at h
    split at h
    · rename_i e
      cases h
      subst e
      exact ⟨p.2, by simp, rfl⟩
    · obtain ⟨k, h1, h2⟩ := kcOf_ok h
      exact ⟨k, by simp [h1], h2⟩
/-- a def whose parameters are plain -/
def BindOk (d : DS) : Prop := ∀ (kV doc pm : Value) (an : Option Addr) (cdv ct : Value) (us : List Value), us.length = d.ps.length → bindArgs (PySem.W.fnOf d.x d.x (C8.fnArgs d.st) (C8.fnBody d.st) (C8.fnScope d.st) .none kV doc pm an cdv ct) ⟨us, []⟩ = pure (d.ps.zip us)
theorem md_of {dn : List DS} {frees : List Str} {cs : List (Str × Kc)} {K : PySem.W.Frag} {h : Heap} {mg : Str → Option Value} {D : Nat → Option Def} (X : K.In h) (Gn : h.Ns mainGlobals mg) (c : He.SaysD (faOf dn frees cs) (dn.map fnOf') K)
    (hb : ∀ d ∈ dn, BindOk d) (hok : ∀ (i : Nat) (d : DS), dn[i]? = some d → ∃ e, D i = some e ∧ DefOk (tbOf dn frees cs) d e) : Md K mg (tbOf dn frees cs) (gadOf dn K) (fun i => dn[i]?) D := by
  have fact : ∀ f, f ∈ faOf dn frees cs → He.Fa.ok K f = true := fun f hf => by
    obtain ⟨i, hi⟩ := List.mem_iff_getElem?.mp hf
    exact c.fact i (f := f) hi
  refine ⟨fun x hx => ?_, fun x w hx => ?_, fun x f hx => ?_, fun f d hd => ?_, hok⟩
  · obtain ⟨y, h1, h2⟩ := List.any_eq_true.mp hx
    have h2 := of_decide_eq_true h2
    subst h2
    exact He.free_ok X Gn (fact (.free y) (by unfold faOf; simp [h1]))
  · obtain ⟨k, h1, rfl⟩ := kcOf_ok hx
    have hm : k.fa x ∈ faOf dn frees cs := by
      unfold faOf
      refine List.mem_append_right _ (List.mem_append_right _ ?_)
      exact List.mem_map.mpr ⟨(x, k), h1, rfl⟩
    cases k with
    | int i =>
      obtain ⟨t, e⟩ := He.int_ok X Gn (fact (.int x i) hm)
      exact ⟨.int i, _, e, ⟨_, rfl⟩, fun _ _ => .int i⟩
    | str z =>
      obtain ⟨t, e⟩ := He.str_ok X Gn (fact (.str x z) hm)
      exact ⟨.str z, _, e, ⟨_, rfl⟩, fun _ _ => .str z⟩
  · obtain ⟨i, d, rfl, h2, h3⟩ := ixD_ok hx
    rw [Nat.zero_add]
    refine ⟨d, h2, ?_⟩
    have hm : He.Fa.glo d.x ∈ faOf dn frees cs := by
      unfold faOf
      exact List.mem_append_left _ (List.mem_map.mpr ⟨d, List.mem_of_getElem? h2, rfl⟩)
    rw [← h3, He.glo_ok X Gn (fact _ hm)]
    unfold gadOf
    rw [h2]
  · have hd : dn[f]? = some d := hd
    obtain ⟨fd, F⟩ := c.def_ f (d := fnOf' d) (by rw [List.getElem?_map, hd]; rfl)
    have e : gadOf dn K f = He.fAd K (d.x, none) := by
      unfold gadOf
      rw [hd]
      rfl
    rw [e]
    exact ⟨fd, F, FunD.bindsN F (hb d (List.mem_of_getElem? hd))⟩
/-- the law's end: what the evaluator says of the law is what the program does -/
theorem end_of {l : PySem.W.OpenLaw} {q : Program} {loose : List Str} {XP : (Str → Option Value) → Heap → Prop} {YP : World → Heap → Prop} {dr : DefRec} {k fl : Nat} {dl : DS} {T : Tb} {gadF : PySem.W.Frag → Nat → Addr} {ds : Nat → Option DS} {D : Nat → Option Def}
    (hn : l.most = some 63) (hdf : dr.params.defaults = []) (hr : Room k callerA) (hd : ds fl = some dl) (hps : dl.ps = [("script" : Str)]) (hb : BindOk dl)
    (F : ∀ (w : World) (mg : Str → Option Value) (fa : Addr) (h : Heap), YP w h → h.Ns mainGlobals mg → mg dr.name = some (.ref fa) → ∃ K : PySem.W.Frag, K.In h ∧ Md K mg T (gadF K) ds D ∧ fa = gadF K fl)
    (law : ∀ ns : List Int, ns.length ≤ 63 → ∃ S', callF D k fl [.frl (ns.map W.int)] [] = .ok (.bl true) S') :
    PySem.W.WalkO q loose XP YP l.row.toRowW dr [] (fun f vs => PySem.call f vs) := by
  refine Att.attach_call hn hdf fun w _ s mg mb fa o pm cd doc a vs ns Gr Y ho hdd hcd hmg hobj hints hlen hg => ?_
  obtain ⟨K, KX, M, rfl⟩ := F w mg fa _ Y Gr.T.g hmg
  have ok : ∀ base, ∃ fd, FnOk l.prog w K mg base (CX l.prog w) k (gadF K fl) fd [("script" : Str)] (spF K ⟨gadF K, fun _ => 0, fun _ => "", callF D k⟩ fl) ∧ FnP K dl (gadF K fl) fd := fun base => by
    obtain ⟨fd, h1, h2, _⟩ := fn_all (P := l.prog) (w := w) (base := base) (cad := fun _ => 0) (fnm := fun _ => "") M k fl dl hd
    rw [hps] at h1
    exact ⟨fd, h1, h2⟩
  obtain ⟨fd, F0⟩ := M.df fl dl hd
  have uniq : ∀ fd', FnP K dl (gadF K fl) fd' → fd' = fd := fun fd' F' => by
    obtain ⟨oc, od, dV, kV, doc, pm, an, cdv, ct, osl, e1, e2, _⟩ := F0.1.ex
    obtain ⟨oc', od', dV', kV', doc', pm', an', cdv', ct', osl', e3, e4, _⟩ := F'.ex
    rw [e2] at e4
    cases e4
    rfl
  refine law_call (fd := fd) (x := "script") (sp := spF K ⟨gadF K, fun _ => 0, fun _ => "", callF D k⟩ fl) (CX := CX l.prog w) KX Gr.T.g Gr.T.b Gr.T.builtins Gr.T.nolimit hg hobj hints (Nat.le_trans hlen (by decide)) hr (fun base _ _ => ?_) (fun s u => ?_) (fun H hO hS => ?_) fun H e s' z => ?_
  · obtain ⟨fd', h1, h2⟩ := ok base
    rw [← uniq fd' h2]
    exact h1
  · have z := FunD.bindsA F0.1 hb s [u] (by rw [hps]; rfl)
    rw [hps] at z
    exact z
  · obtain ⟨S', hS'⟩ := law ns hlen
    have hf : FrL K H a (ns.map V.int) := by
      rcases hS with (h | h) | h
      · rcases hO a with z | ⟨o, xs, z⟩
        · rw [h] at z; cases z
        · rw [h] at z; cases z
      · exact .inl h
      · exact .inr h
    refine ⟨[], [], [.frl (ns.map W.int)], ⟨rfl, List.nodup_nil, fun i o e => by simp at e⟩, .cons (.frl hf (rws_ints ns)) .nil, ?_⟩
    show Fin K _ _ [] H (callF D k fl [.frl (ns.map W.int)] []) _ _
    rw [hS']
    intro ρ' H' b _ _ r
    cases r
    rfl
  · obtain ⟨_, _, _, _, _, _, _, _, _, _, _, _, z⟩ := z
    exact z
end Pv
set_option autoImplicit false
set_option Elab.async false
set_option linter.all false
set_option maxRecDepth 100000
set_option maxHeartbeats 2000000
/-! Reasoning with the evaluator: what must hold behind. -/
namespace Pv
open PySem

def Wp {α : Type} (r : R α) (P : α → Sto → Prop) (E : Nat → Option W → Sto → Prop) (_ : Leave P := .mk) (_ : Leave E := .mk) : Prop := match r with
  | .ok a S => P a S
  | .er c f S => E c f S
  | .no => False
abbrev E0 : Nat → Option W → Sto → Prop := fun _ _ _ => False
section
variable {α β : Type} {P : α → Sto → Prop} {E : Nat → Option W → Sto → Prop}
/-- what comes behind is left alone till it is reached -/
theorem Wp_congr {r r' : R α} (h : r = r') : Wp r P E = Wp r' P E := by rw [h]
theorem bind_congrL {r r' : R β} {f : β → Sto → R α} (h : r = r') : r.bind f = r'.bind f := by rw [h]
theorem Wp_ok (a : α) (S : Sto) : Wp (.ok a S) P E = P a S := rfl
theorem Wp_no : Wp (.no : R α) P E = False := rfl
theorem Wp_er (c : Nat) (f : Option W) (S : Sto) : Wp (.er c f S : R α) P E = E c f S := rfl
theorem Wp_bind (r : R β) (f : β → Sto → R α) : Wp (r.bind f) P E = Wp r (fun a S => Wp (f a S) P E) E := by cases r <;> rfl
theorem Wp_some (a : α) (S : Sto) : Wp (.opt S (some a)) P E = P a S := rfl
theorem Wp_none (S : Sto) : Wp (.opt S (none : Option α)) P E = False := rfl
theorem Wp_ite {c : Prop} [Decidable c] (a b : R α) : Wp (if c then a else b) P E = if c then Wp a P E else Wp b P E := by split <;> rfl
theorem Wp_guard {c : Prop} [Decidable c] (a : R α) : Wp (if c then a else .no) P E = (c ∧ Wp a P E) := by
  by_cases h : c
  · rw [if_pos h]; exact propext ⟨fun x => ⟨h, x⟩, fun x => x.2⟩
  · rw [if_neg h]; exact propext ⟨fun x => x.elim, fun x => (h x.1).elim⟩
theorem Wp_iteB {k : Bool} (a b : R α) : Wp (if k = true then a else b) P E = if k = true then Wp a P E else Wp b P E := by cases k <;> rfl
theorem Wp.mono {r : R α} {P' : α → Sto → Prop} {E' : Nat → Option W → Sto → Prop} (h : Wp r P' E') (hp : ∀ a S, P' a S → P a S) (he : ∀ c f S, E' c f S → E c f S) : Wp r P E := by
  cases r with
  | ok a S => exact hp _ _ h
  | er c f S => exact he _ _ _ h
  | no => exact h
theorem Wp.then {r : R α} {P' : α → Sto → Prop} (h : Wp r P' E) (hp : ∀ a S, P' a S → P a S) : Wp r P E := h.mono hp fun _ _ _ z => z
theorem Wp.ok0 {r : R α} (h : Wp r P E0) : ∃ a S, r = .ok a S ∧ P a S := by
  cases r with
  | ok a S => exact ⟨a, S, rfl, h⟩
  | er c f S => exact h.elim
  | no => exact h.elim
theorem Wp.of_eq {r : R α} {a : α} {S : Sto} (h : r = .ok a S) (hp : P a S) : Wp r P E := by rw [h]; exact hp
end
/-! ### the operations at values of known form -/
theorem e_addi (i j : Int) (S : Sto) : binW .add (.int i) (.int j) S = .ok (.int (i + j)) S := rfl
theorem e_adds (a b : Str) (S : Sto) : binW .add (.str a) (.str b) S = if a.length + b.length ≤ lim then .ok (.str (a ++ b)) S else .no := rfl
theorem e_addt (a b : List W) (S : Sto) : binW .add (.tup a) (.tup b) S = if a.length + b.length ≤ lim then .ok (.tup (a ++ b)) S else .no := rfl
theorem e_addl (r q : Nat) (S : Sto) : binW .add (.ref r) (.ref q) S = match S[r]?, S[q]? with
      | some (.lst a), some (.lst b) => if a.length + b.length ≤ lim then new S (.lst (a ++ b)) else .no
      | _, _ => .no := rfl
theorem e_subi (i j : Int) (S : Sto) : binW .sub (.int i) (.int j) S = .ok (.int (i - j)) S := rfl
theorem e_muli (i j : Int) (S : Sto) : binW .mul (.int i) (.int j) S = if i.natAbs.log2 + j.natAbs.log2 < 1000000 then .ok (.int (i * j)) S else .no := rfl
theorem e_mult (a : List W) (k : Int) (S : Sto) : binW .mul (.tup a) (.int k) S = if a.length ≠ 0 ∧ 2 ≤ k ∧ k ≤ 1000 ∧ a.length ≤ 1000 then .ok (.tup (rep k.toNat a)) S else .no := rfl
theorem e_mull (r : Nat) (k : Int) (S : Sto) : binW .mul (.ref r) (.int k) S = match S[r]? with
      | some (.lst a) => if k < 1000000 ∧ -1000000 < k ∧ a.length * k.toNat ≤ lim then new S (.lst (rep k.toNat a)) else .no
      | _ => .no := rfl
theorem e_fdiv (i j : Int) (S : Sto) : binW .fdiv (.int i) (.int j) S = if 0 < j ∧ j.natAbs.log2 < 9000 then .ok (.int (i / j)) S else .no := rfl
theorem e_mod (i j : Int) (S : Sto) : binW .mod (.int i) (.int j) S = if 0 < j then .ok (.int (i % j)) S else .no := rfl
theorem e_pow (i j : Int) (S : Sto) : binW .pow (.int i) (.int j) S = if 0 ≤ j ∧ (i.natAbs.log2 + 1) * j.toNat ≤ 1000000 then .ok (.int (i ^ j.toNat)) S else .no := rfl
theorem e_neg (i : Int) (S : Sto) : negW (.int i) S = .ok (.int (-i)) S := rfl
theorem e_eq (x y : W) (S : Sto) : cmpW .eq x y S = .opt S (eqW S x y) := rfl
theorem e_ne (x y : W) (S : Sto) : cmpW .ne x y S = .opt S ((eqW S x y).map (!·)) := rfl
theorem e_lti (i j : Int) (S : Sto) : cmpW .lt (.int i) (.int j) S = .ok (decide (i < j)) S := rfl
theorem e_ltt (a b : List W) (S : Sto) : cmpW .lt (.tup a) (.tup b) S = match wInts a, wInts b with
      | some m, some n => .ok (HT.lexLt m n) S
      | _, _ => .no := rfl
theorem e_lei (i j : Int) (S : Sto) : cmpW .le (.int i) (.int j) S = .ok (decide (i ≤ j)) S := rfl
theorem e_gti (i j : Int) (S : Sto) : cmpW .gt (.int i) (.int j) S = .ok (decide (j < i)) S := rfl
theorem e_gei (i j : Int) (S : Sto) : cmpW .ge (.int i) (.int j) S = .ok (decide (j ≤ i)) S := rfl
theorem e_isn0 (x : W) (S : Sto) : cmpW .is x .non S = .ok (isNonW x) S := rfl
theorem e_isb (b c : Bool) (S : Sto) : cmpW .is (.bl c) (.bl b) S = .ok (b == c) S := rfl
theorem e_isnn (x : W) (S : Sto) : cmpW .isn x .non S = .ok (!isNonW x) S := rfl
theorem e_isnb (b c : Bool) (S : Sto) : cmpW .isn (.bl c) (.bl b) S = .ok (!(b == c)) S := rfl
theorem e_in (x y : W) (S : Sto) : cmpW .inn x y S = match seqW S y with
      | some ws => if flatW x && ws.all flatW then .ok (ws.any fun z => eqFlat z x) S else .no
      | none => .no := rfl
theorem e_nin (x y : W) (S : Sto) : cmpW .nin x y S = match seqW S y with
      | some ws => if flatW x && ws.all flatW then .ok (!(ws.any fun z => eqFlat z x)) S else .no
      | none => .no := rfl
theorem e_ixt (ws : List W) (k : Int) (S : Sto) : idxW (.tup ws) (.int k) S = .opt S (L2.atI ws k) := rfl
theorem e_ixf (ws : List W) (k : Int) (S : Sto) : idxW (.frl ws) (.int k) S = .opt S (L2.atI ws k) := rfl
theorem e_ixr (r : Nat) (k : Int) (S : Sto) : idxW (.ref r) (.int k) S = match seqW S (.ref r) with
      | some ws => .opt S (L2.atI ws k)
      | none => .no := rfl
theorem e_sqt (ws : List W) (S : Sto) : seqW S (.tup ws) = some ws := rfl
theorem e_sqf (ws : List W) (S : Sto) : seqW S (.frl ws) = some ws := rfl
theorem e_sqr (r : Nat) (S : Sto) : seqW S (.ref r) = match S[r]? with
      | some (.lst ws) => some ws
      | _ => none := rfl
theorem e_slt (ws : List W) (l h : Option Int) (S : Sto) : slcV (.tup ws) l h S = .ok (.tup (cutW ws l h)) S := rfl
theorem e_slr (r : Nat) (l h : Option Int) (S : Sto) : slcV (.ref r) l h S = match S[r]? with
      | some (.lst ws) => new S (.lst (cutW ws l h))
      | _ => .no := rfl
theorem e_rvt (ws : List W) (S : Sto) : revW (.tup ws) S = .ok (.tup ws.reverse) S := rfl
theorem e_rvr (r : Nat) (S : Sto) : revW (.ref r) S = match S[r]? with
      | some (.lst ws) => new S (.lst ws.reverse)
      | _ => .no := rfl
theorem e_lnt (ws : List W) (S : Sto) : lenW S (.tup ws) = some ws.length := rfl
theorem e_lnf (ws : List W) (S : Sto) : lenW S (.frl ws) = some ws.length := rfl
theorem e_lns (x : Str) (S : Sto) : lenW S (.str x) = if x.length ≤ lim then some x.length else none := rfl
theorem e_lnr (r : Nat) (S : Sto) : lenW S (.ref r) = match S[r]? with
      | some (.lst ws) => some ws.length
      | some (.dct kvs) => some kvs.length
      | _ => none := rfl
theorem e_len (x : W) (S : Sto) : bltW .len [x] S = match lenW S x with
      | some n => .ok (.int n) S
      | none => .no := rfl
theorem e_tuple (x : W) (S : Sto) : bltW .tuple [x] S = match seqW S x with
      | some ws => .ok (.tup ws) S
      | none => .no := rfl
theorem e_list (x : W) (S : Sto) : bltW .list [x] S = match seqW S x with
      | some ws => new S (.lst ws)
      | none => .no := rfl
theorem e_inti (i : Int) (S : Sto) : bltW .int [.int i] S = .ok (.int i) S := rfl
theorem e_intb (b : Bool) (S : Sto) : bltW .int [.bl b] S = .ok (.int (if b then 1 else 0)) S := rfl
theorem e_abs (i : Int) (S : Sto) : bltW .abs [.int i] S = .ok (.int (if i < 0 then -i else i)) S := rfl
theorem e_divmod (i j : Int) (S : Sto) : bltW .divmod [.int i, .int j] S = if 0 < j ∧ j.natAbs.log2 < 9000 then .ok (.tup [.int (i / j), .int (i % j)]) S else .no := rfl
theorem e_min2 (i j : Int) (S : Sto) : bltW .min2 [.int i, .int j] S = .ok (.int (if j < i then j else i)) S := rfl
theorem e_max2 (i j : Int) (S : Sto) : bltW .max2 [.int i, .int j] S = .ok (.int (if j > i then j else i)) S := rfl
theorem e_all (r : Nat) (S : Sto) : bltW .all [.ref r] S = match S[r]? with
      | some (.lst ws) => (match wBools ws with
        | some bs => .ok (.bl (bs.all id)) S
        | none => .no)
      | _ => .no := rfl
theorem e_any (r : Nat) (S : Sto) : bltW .any [.ref r] S = match S[r]? with
      | some (.lst ws) => (match wBools ws with
        | some bs => .ok (.bl (bs.any id)) S
        | none => .no)
      | _ => .no := rfl
theorem e_app (r : Nat) (x : W) (S : Sto) : metW .append (.ref r) [x] S = match S[r]? with
      | some (.lst ws) => if ws.length < lim then .ok .non (S.set r (.lst (ws ++ [x]))) else .no
      | _ => .no := rfl
theorem e_ext (r q : Nat) (S : Sto) : metW .extend (.ref r) [.ref q] S = match S[r]?, S[q]? with
      | some (.lst ws), some (.lst zs) => if ws.length + zs.length ≤ lim then .ok .non (S.set r (.lst (ws ++ zs))) else .no
      | _, _ => .no := rfl
theorem e_rec (m : Mt) (r : Nat) (S : Sto) : recOk m S (.ref r) = match S[r]? with
      | some (.lst _) => mtTy m == 0
      | some (.dct _) => mtTy m == 1
      | _ => false := rfl
theorem e_isnk (t : Ty) (S : Sto) : isW S t .non = some (tyHas t 0) := rfl
theorem e_isbk (b : Bool) (t : Ty) (S : Sto) : isW S t (.bl b) = some (tyHas t 1) := rfl
theorem e_isik (i : Int) (t : Ty) (S : Sto) : isW S t (.int i) = some (tyHas t 2) := rfl
theorem e_issk (x : Str) (t : Ty) (S : Sto) : isW S t (.str x) = some (tyHas t 3) := rfl
theorem e_istk (ws : List W) (t : Ty) (S : Sto) : isW S t (.tup ws) = some (tyHas t 4) := rfl
theorem e_isrk (r : Nat) (t : Ty) (S : Sto) : isW S t (.ref r) = (match S[r]? with
      | some (.lst _) => some 5
      | some (.dct _) => some 6
      | _ => none).map (tyHas t) := rfl
theorem e_tn (S : Sto) : truW S .non = some false := rfl
theorem e_tb (b : Bool) (S : Sto) : truW S (.bl b) = some b := rfl
theorem e_ti (i : Int) (S : Sto) : truW S (.int i) = some (i != 0) := rfl
theorem e_tt (ws : List W) (S : Sto) : truW S (.tup ws) = some (!ws.isEmpty) := rfl
theorem e_tf (ws : List W) (S : Sto) : truW S (.frl ws) = some (!ws.isEmpty) := rfl
theorem e_tr (r : Nat) (S : Sto) : truW S (.ref r) = match S[r]? with
      | some (.lst ws) => some (!ws.isEmpty)
      | some (.dct kvs) => some (!kvs.isEmpty)
      | _ => none := rfl
theorem e_sit (ws : List W) (S : Sto) : seqI S (.tup ws) = some ⟨[], ws⟩ := rfl
theorem e_sif (ws : List W) (S : Sto) : seqI S (.frl ws) = some ⟨[], ws⟩ := rfl
theorem e_sir (r : Nat) (S : Sto) : seqI S (.ref r) = match S[r]? with
      | some (.lst ws) => some ⟨[(r, ws)], ws⟩
      | _ => none := rfl
theorem e_rng (i j : Int) : rngI (.int i) (.int j) = if okB i && okB j then some ⟨[], rngW i 1 (j - i).toNat⟩ else none := rfl
theorem e_part (i : Int) : partW (.int i) = some i := rfl
theorem e_augA (i j : Int) : augV .add (.int i) (.int j) = some (.int (i + j)) := rfl
theorem e_augS (i j : Int) : augV .sub (.int i) (.int j) = some (.int (i - j)) := rfl
theorem e_nn  : isNonW .non = true := rfl
theorem e_nnb (b : Bool) : isNonW (.bl b) = false := rfl
theorem e_nni (i : Int) : isNonW (.int i) = false := rfl
theorem e_nns (x : Str) : isNonW (.str x) = false := rfl
theorem e_nnt (ws : List W) : isNonW (.tup ws) = false := rfl
theorem e_nnf (ws : List W) : isNonW (.frl ws) = false := rfl
theorem e_nnr (r : Nat) : isNonW (.ref r) = false := rfl
theorem e_tp (n : Nat) (t : Ats) (ws : List W) (cl : CL) (env : En) (S : Sto) : aTp n t (.tup ws) cl env S = if ws.length = n then t ws cl env S else .no := rfl
theorem e_acons (t : At) (r : Ats) (w : W) (ws : List W) (cl : CL) (env : En) (S : Sto) : aCons t r (w :: ws) cl env S = (t w cl env S).bind fun env1 S1 => r ws cl env1 S1 := rfl
theorem e_anil (cl : CL) (env : En) (S : Sto) : aNil [] cl env S = .ok env S := rfl
theorem lenLim : lim = 16777216 := rfl
/-- loops by what holds at each turn -/
theorem Wp_for {chk : List (Nat × List W)} {tg : At} {b : Ds} {cl : CL} {P : Fl → Sto → Prop} {E : Nat → Option W → Sto → Prop} {items : List W} (Inv : Nat → En → Sto → Prop) {env : En} {S : Sto} (h0 : Inv 0 env S) (hc : ∀ i env S, i ≤ items.length → Inv i env S → chkOk chk S = true)
    (hs : ∀ i w env S, items[i]? = some w → Inv i env S → Wp (tg w cl env S) (fun env1 S1 => Wp (b cl env1 S1) (fun f S2 => match f with
      | .nx env2 => Inv (i + 1) env2 S2
      | .ct env2 => Inv (i + 1) env2 S2
      | .rt w => P (.rt w) S2) E) E)
    (hd : ∀ env S, Inv items.length env S → P (.nx env) S) : Wp (forLoop chk tg b cl items env S) P E := by
  suffices key : ∀ (k i : Nat) (env : En) (S : Sto), k = items.length - i → i ≤ items.length → Inv i env S → Wp (forLoop chk tg b cl (items.drop i) env S) P E by
    have := key items.length 0 env S rfl (Nat.zero_le _) h0
    rwa [List.drop_zero] at this
  intro k
  induction k with
  | zero =>
    intro i env S hk hi h
    have e : i = items.length := by omega
    subst e
    rw [List.drop_length, forLoop, if_pos (hc _ _ _ (Nat.le_refl _) h)]
    exact hd env S h
  | succ k ih =>
    intro i env S hk hi h
    have hlt : i < items.length := by omega
    rw [List.drop_eq_getElem_cons hlt, forLoop, if_pos (hc _ _ _ hi h), Wp_bind]
    refine (hs i _ env S (List.getElem?_eq_getElem hlt) h).then fun env1 S1 h1 => ?_
    rw [Wp_bind]
    refine h1.then fun f S2 h2 => ?_
    cases f with
    | nx env2 => exact ih (i + 1) env2 S2 (by omega) hlt h2
    | ct env2 => exact ih (i + 1) env2 S2 (by omega) hlt h2
    | rt w => exact h2
theorem Wp_lc {chk : List (Nat × List W)} {tg : At} {c : Dn Bool} {e : Dn W} {cl : CL} {env : En} {P : List W → Sto → Prop} {E : Nat → Option W → Sto → Prop} {items : List W} (Inv : Nat → List W → Sto → Prop) {S : Sto} (h0 : Inv 0 [] S) (hc : ∀ i acc S, i ≤ items.length → Inv i acc S → chkOk chk S = true)
    (hs : ∀ i w acc S, items[i]? = some w → Inv i acc S → Wp (tg w cl env S) (fun env1 S1 => Wp (c cl env1 S1) (fun k S2 => if k = true then Wp (e cl env1 S2) (fun y S3 => acc.length < lim ∧ Inv (i + 1) (acc ++ [y]) S3) E else Inv (i + 1) acc S2) E) E)
    (hd : ∀ acc S, Inv items.length acc S → P acc S) : Wp (lcLoop chk tg c e cl env items [] S) P E := by
  suffices key : ∀ (k i : Nat) (acc : List W) (S : Sto), k = items.length - i → i ≤ items.length → Inv i acc S → Wp (lcLoop chk tg c e cl env (items.drop i) acc S) P E by
    have := key items.length 0 [] S rfl (Nat.zero_le _) h0
    rwa [List.drop_zero] at this
  intro k
  induction k with
  | zero =>
    intro i acc S hk hi h
    have e : i = items.length := by omega
    subst e
    rw [List.drop_length, lcLoop, if_pos (hc _ _ _ (Nat.le_refl _) h)]
    exact hd acc S h
  | succ k ih =>
    intro i acc S hk hi h
    have hlt : i < items.length := by omega
    rw [List.drop_eq_getElem_cons hlt, lcLoop, if_pos (hc _ _ _ hi h), Wp_bind]
    refine (hs i _ acc S (List.getElem?_eq_getElem hlt) h).then fun env1 S1 h1 => ?_
    rw [Wp_bind]
    refine h1.then fun k S2 h2 => ?_
    cases k with
    | false => exact ih (i + 1) acc S2 (by omega) hlt h2
    | true =>
      rw [if_pos rfl] at h2
      rw [if_pos rfl, Wp_bind]
      refine h2.then fun y S3 h3 => ?_
      rw [if_pos h3.1]
      exact ih (i + 1) (acc ++ [y]) S3 (by omega) hlt h3.2
theorem Wp_noErr {α : Type} {r : R α} {P : α → Sto → Prop} {E : Nat → Option W → Sto → Prop} (h : Wp r P E0) : Wp (noErr r) P E := by
  obtain ⟨a, S, e, h⟩ := h.ok0
  rw [e]
  exact h
end Pv
set_option autoImplicit false
set_option Elab.async false
set_option linter.all false
set_option maxRecDepth 100000
set_option maxHeartbeats 0
namespace L59
open PySem PySem.Spec PyProof.Rows L2 Pv
def top (i : Nat) : Stmt := PySem.Challenge.pw_diskdoubt_k59_whole_pages.main.body.getD i (.Pass ⟨0, 0, 0, 0⟩)
def d0 : DS := ⟨"is_integer", top 8, ["value"], ["value"]⟩
def d1 : DS := ⟨"is_count", top 9, ["value", "least", "most"], ["value", "least", "most"]⟩
def d2 : DS := ⟨"require_count", top 10, ["value", "least", "most"], ["value", "least", "most"]⟩
def d3 : DS := ⟨"is_plain_bounds", top 15, ["value", "one", "most"], ["value"]⟩
def d4 : DS := ⟨"require_bounds", top 16, ["bounds"], ["bounds"]⟩
def d5 : DS := ⟨"require_base", top 21, ["base"], ["base"]⟩
def d6 : DS := ⟨"worths_of", top 22, ["base", "found", "_"], ["base"]⟩
def d7 : DS := ⟨"is_page_by", top 23, ["base", "value", "one"], ["base", "value"]⟩
def d8 : DS := ⟨"is_page", top 24, ["base", "value"], ["base", "value"]⟩
def d9 : DS := ⟨"worth_by", top 25, ["base", "page", "found", "entry"], ["base", "page"]⟩
def d10 : DS := ⟨"page_by", top 26, ["base", "worth", "found", "_"], ["base", "worth"]⟩
def d11 : DS := ⟨"page_worth", top 27, ["base", "page"], ["base", "page"]⟩
def d12 : DS := ⟨"require_worth", top 28, ["base", "worth"], ["base", "worth"]⟩
def d13 : DS := ⟨"page_of", top 29, ["base", "worth"], ["base", "worth"]⟩
def d14 : DS := ⟨"entry_of", top 30, ["base", "worth", "index"], ["base", "worth", "index"]⟩
def d15 : DS := ⟨"with_entry", top 31, ["base", "worth", "index", "number", "page"], ["base", "worth", "index", "number"]⟩
def d16 : DS := ⟨"bounds_by", top 32, ["base", "places", "times"], ["base", "places", "times"]⟩
def d17 : DS := ⟨"page_bounds", top 33, ["base", "places", "times", "bounds"], ["base", "places", "times"]⟩
def d18 : DS := ⟨"require_pages", top 34, ["base", "cells", "most", "one"], ["base", "cells"]⟩
def d19 : DS := ⟨"pages_of", top 35, ["base", "cells", "one"], ["base", "cells"]⟩
def d20 : DS := ⟨"unlike_pages", top 36, ["base", "cells", "other", "found", "place", "left", "right", "one", "two", "index"], ["base", "cells", "other"]⟩
def d21 : DS := ⟨"_law_dice", top 38, ["script", "spot", "cell", "great", "seed"], ["script", "spot"]⟩
def d22 : DS := ⟨"_law_roll", top 39, ["dice", "total", "found", "one", "two"], ["dice", "total"]⟩
def d23 : DS := ⟨"_law_pick", top 40, ["dice", "things"], ["dice", "things"]⟩
def d24 : DS := ⟨"_law_dd_page", top 41, ["base", "worth", "found", "turn", "entry"], ["base", "worth"]⟩
def d25 : DS := ⟨"_law_dd_worth", top 42, ["base", "page", "found", "entry"], ["base", "page"]⟩
def d26 : DS := ⟨"_law_pages_right", top 43, ["dice", "base", "page", "turn", "worth", "index", "number", "later", "some"], ["dice", "base"]⟩
def d27 : DS := ⟨"_law_values_right", top 44, ["dice", "base", "page", "turn", "at", "near", "odd", "value"], ["dice", "base"]⟩
def d28 : DS := ⟨"_law_rows_right", top 45, ["dice", "base", "many", "cells", "turn", "other", "place", "index", "page", "ones", "worth", "others", "due", "places", "times"], ["dice", "base"]⟩
def d29 : DS := ⟨"law", top 46, ["script", "spot", "dice", "turn", "base"], ["script"]⟩
def dn : List DS := [d0, d1, d2, d3, d4, d5, d6, d7, d8, d9, d10, d11, d12, d13, d14, d15, d16, d17, d18, d19, d20, d21, d22, d23, d24, d25, d26, d27, d28, d29]
def frees : List Str := ["IndexError", "ValueError", "abs", "all", "bool", "divmod", "enumerate", "int", "isinstance", "len", "list", "max", "min", "range", "super", "tuple", "zip"]
def cs : List (Str × Kc) := [(("MOST_PLACES" : Str), Kc.int (200)), (("MOST_WORTHS" : Str), Kc.int (1000000000000000000000000000000)), (("MOST_TIMES" : Str), Kc.int (20000)), (("WIDE" : Str), Kc.int (8)), (("LEAST_BASE" : Str), Kc.int (2)), (("MOST_BASE" : Str), Kc.int (1000))]
abbrev Tt : Tb := tbOf dn frees cs
abbrev fa : List He.Fa := faOf dn frees cs
abbrev fn : List He.DefD := dn.map fnOf'
abbrev Rw : PySem.W.OpenRow := PySem.W.OpenLaw.row PySem.Challenge.rw_diskdoubt_k59_whole_pages
abbrev hk : PySem.W.Hook := He.hookD 4 fa fn
def ob (s : PySem.W.SharedT) : He.AlD := He.obsDG 4 fa fn (HandSHeadRun.getT s)
theorem ob_eq (s : PySem.W.SharedT) : ob s = hk.obs s.abs := He.obsDG_eq (HandSHeadRun.getT_eq s)
def loose : List Str := [("__name__" : Str), ("RunError" : Str), ("InvalidBounds" : Str), ("InvalidCells" : Str), ("InvalidPage" : Str), ("InvalidOperation" : Str), ("InvalidCount" : Str), ("is_integer" : Str), ("is_count" : Str), ("require_count" : Str), ("MOST_PLACES" : Str), ("MOST_WORTHS" : Str), ("MOST_TIMES" : Str), ("is_plain_bounds" : Str), ("require_bounds" : Str), ("WIDE" : Str), ("LEAST_BASE" : Str), ("MOST_BASE" : Str), ("require_base" : Str), ("worths_of" : Str), ("is_page_by" : Str), ("is_page" : Str), ("worth_by" : Str), ("page_by" : Str), ("page_worth" : Str), ("require_worth" : Str), ("page_of" : Str), ("entry_of" : Str), ("with_entry" : Str), ("bounds_by" : Str), ("page_bounds" : Str), ("require_pages" : Str), ("pages_of" : Str), ("unlike_pages" : Str), ("_law_dice" : Str), ("_law_roll" : Str), ("_law_pick" : Str), ("_law_dd_page" : Str), ("_law_dd_worth" : Str), ("_law_pages_right" : Str), ("_law_values_right" : Str), ("_law_rows_right" : Str)]
abbrev lawAt : Nat := 46
abbrev lawNo : Nat := 29
theorem run (w : World) : HandSHeadRun.RunEq Rw (PySem.W.view Rw.prog [lawAt]) hk ob 3000 loose w := by
  intro os
  kernel_rfl
theorem b0 : BindOk d0 := fun _ _ _ _ _ _ us hl => match us, hl with | [_], _ => rfl
theorem b1 : BindOk d1 := fun _ _ _ _ _ _ us hl => match us, hl with | [_, _, _], _ => rfl
theorem b2 : BindOk d2 := fun _ _ _ _ _ _ us hl => match us, hl with | [_, _, _], _ => rfl
theorem b3 : BindOk d3 := fun _ _ _ _ _ _ us hl => match us, hl with | [_], _ => rfl
theorem b4 : BindOk d4 := fun _ _ _ _ _ _ us hl => match us, hl with | [_], _ => rfl
theorem b5 : BindOk d5 := fun _ _ _ _ _ _ us hl => match us, hl with | [_], _ => rfl
theorem b6 : BindOk d6 := fun _ _ _ _ _ _ us hl => match us, hl with | [_], _ => rfl
theorem b7 : BindOk d7 := fun _ _ _ _ _ _ us hl => match us, hl with | [_, _], _ => rfl
theorem b8 : BindOk d8 := fun _ _ _ _ _ _ us hl => match us, hl with | [_, _], _ => rfl
theorem b9 : BindOk d9 := fun _ _ _ _ _ _ us hl => match us, hl with | [_, _], _ => rfl
theorem b10 : BindOk d10 := fun _ _ _ _ _ _ us hl => match us, hl with | [_, _], _ => rfl
theorem b11 : BindOk d11 := fun _ _ _ _ _ _ us hl => match us, hl with | [_, _], _ => rfl
theorem b12 : BindOk d12 := fun _ _ _ _ _ _ us hl => match us, hl with | [_, _], _ => rfl
theorem b13 : BindOk d13 := fun _ _ _ _ _ _ us hl => match us, hl with | [_, _], _ => rfl
theorem b14 : BindOk d14 := fun _ _ _ _ _ _ us hl => match us, hl with | [_, _, _], _ => rfl
theorem b15 : BindOk d15 := fun _ _ _ _ _ _ us hl => match us, hl with | [_, _, _, _], _ => rfl
theorem b16 : BindOk d16 := fun _ _ _ _ _ _ us hl => match us, hl with | [_, _, _], _ => rfl
theorem b17 : BindOk d17 := fun _ _ _ _ _ _ us hl => match us, hl with | [_, _, _], _ => rfl
theorem b18 : BindOk d18 := fun _ _ _ _ _ _ us hl => match us, hl with | [_, _], _ => rfl
theorem b19 : BindOk d19 := fun _ _ _ _ _ _ us hl => match us, hl with | [_, _], _ => rfl
theorem b20 : BindOk d20 := fun _ _ _ _ _ _ us hl => match us, hl with | [_, _, _], _ => rfl
theorem b21 : BindOk d21 := fun _ _ _ _ _ _ us hl => match us, hl with | [_, _], _ => rfl
theorem b22 : BindOk d22 := fun _ _ _ _ _ _ us hl => match us, hl with | [_, _], _ => rfl
theorem b23 : BindOk d23 := fun _ _ _ _ _ _ us hl => match us, hl with | [_, _], _ => rfl
theorem b24 : BindOk d24 := fun _ _ _ _ _ _ us hl => match us, hl with | [_, _], _ => rfl
theorem b25 : BindOk d25 := fun _ _ _ _ _ _ us hl => match us, hl with | [_, _], _ => rfl
theorem b26 : BindOk d26 := fun _ _ _ _ _ _ us hl => match us, hl with | [_, _], _ => rfl
theorem b27 : BindOk d27 := fun _ _ _ _ _ _ us hl => match us, hl with | [_, _], _ => rfl
theorem b28 : BindOk d28 := fun _ _ _ _ _ _ us hl => match us, hl with | [_, _], _ => rfl
theorem b29 : BindOk d29 := fun _ _ _ _ _ _ us hl => match us, hl with | [_], _ => rfl

end L59
namespace L59
open PySem PySem.W PySem.Calls PySem.Spec PyProof.Rows L2 Pv
def s0 : Sts := (.cons (.ret (.and (.isi (.var 0) .int) (.not (.isi (.var 0) .bool)))) .nil)
def s1 : Sts := (.cons (.ret (.and (.call 0 (.cons (.var 0) .nil)) (.cmp2 .le .le (.var 1) (.var 0) (.var 2)))) .nil)
def s2 : Sts := (.cons (.ite (.not (.call 1 (.cons (.var 0) (.cons (.var 1) (.cons (.var 2) .nil))))) (.cons .dead .nil) .nil) (.cons (.ret (.var 0)) .nil))
def s3 : Sts := (.cons (.ite (.or (.not (.isi (.var 0) .tuple)) (.cmp .ne (.blt .len (.cons (.var 0) .nil)) (.con (.int (3))))) (.cons (.ret (.con (.bl false))) .nil) .nil) (.cons (.ret (.blt .all (.cons (.lc [1, 2] (.zip (.var 0) (.tup (.cons (.con (.int (200))) (.cons (.con (.int (1000000000000000000000000000000))) (.cons (.con (.int (20000))) .nil))))) (.tp (.cons (.nm 1) (.cons (.nm 2) .nil))) (.con (.bl true)) (.call 1 (.cons (.var 1) (.cons (.con (.int (1))) (.cons (.var 2) .nil))))) .nil))) .nil))
def s4 : Sts := (.cons (.ite (.not (.call 3 (.cons (.var 0) .nil))) (.cons .dead .nil) .nil) (.cons (.ret (.var 0)) .nil))
def s5 : Sts := (.cons (.ret (.call 2 (.cons (.var 0) (.cons (.con (.int (2))) (.cons (.con (.int (1000))) .nil))))) .nil)
def s6 : Sts := (.cons (.asg (.nm 1) (.con (.int (1)))) (.cons (.fr (.rng (.con (.int (8)))) (.nm 2) (.cons (.asg (.nm 1) (.bin .mul (.var 1) (.var 0))) .nil)) (.cons (.ret (.var 1)) .nil)))
def s7 : Sts := (.cons (.ite (.or (.not (.isi (.var 1) .tuple)) (.cmp .ne (.blt .len (.cons (.var 1) .nil)) (.con (.int (8))))) (.cons (.ret (.con (.bl false))) .nil) .nil) (.cons (.ret (.blt .all (.cons (.lc [2] (.seq (.var 1)) (.nm 2) (.con (.bl true)) (.call 1 (.cons (.var 2) (.cons (.con (.int (0))) (.cons (.bin .sub (.var 0) (.con (.int (1)))) .nil))))) .nil))) .nil))
def s8 : Sts := (.cons (.ret (.call 7 (.cons (.call 5 (.cons (.var 0) .nil)) (.cons (.var 1) .nil)))) .nil)
def s9 : Sts := (.cons (.asg (.nm 2) (.con (.int (0)))) (.cons (.fr (.seq (.rev (.var 1))) (.nm 3) (.cons (.asg (.nm 2) (.bin .add (.bin .mul (.var 2) (.var 0)) (.var 3))) .nil)) (.cons (.ret (.var 2)) .nil)))
def s10 : Sts := (.cons (.asg (.nm 2) (.lst .nil)) (.cons (.fr (.rng (.con (.int (8)))) (.nm 3) (.cons (.exp (.met .append (.var 2) (.cons (.bin .mod (.var 1) (.var 0)) .nil))) (.cons (.asg (.nm 1) (.bin .fdiv (.var 1) (.var 0))) .nil))) (.cons (.ret (.blt .tuple (.cons (.var 2) .nil))) .nil)))
def s11 : Sts := (.cons (.ite (.not (.call 7 (.cons (.call 5 (.cons (.var 0) .nil)) (.cons (.var 1) .nil)))) (.cons .dead .nil) .nil) (.cons (.ret (.call 9 (.cons (.var 0) (.cons (.var 1) .nil)))) .nil))
def s12 : Sts := (.cons (.exp (.call 5 (.cons (.var 0) .nil))) (.cons (.exp (.call 2 (.cons (.var 1) (.cons (.con (.int (0))) (.cons (.bin .sub (.call 6 (.cons (.var 0) .nil)) (.con (.int (1)))) .nil))))) .nil))
def s13 : Sts := (.cons (.exp (.call 12 (.cons (.var 0) (.cons (.var 1) .nil)))) (.cons (.ret (.call 10 (.cons (.var 0) (.cons (.var 1) .nil)))) .nil))
def s14 : Sts := (.cons (.exp (.call 12 (.cons (.var 0) (.cons (.var 1) .nil)))) (.cons (.ret (.idx (.call 10 (.cons (.var 0) (.cons (.var 1) .nil))) (.call 2 (.cons (.var 2) (.cons (.con (.int (0))) (.cons (.bin .sub (.con (.int (8))) (.con (.int (1)))) .nil)))))) .nil))
def s15 : Sts := (.cons (.exp (.call 12 (.cons (.var 0) (.cons (.var 1) .nil)))) (.cons (.exp (.call 2 (.cons (.var 2) (.cons (.con (.int (0))) (.cons (.bin .sub (.con (.int (8))) (.con (.int (1)))) .nil))))) (.cons (.exp (.call 2 (.cons (.var 3) (.cons (.con (.int (0))) (.cons (.bin .sub (.var 0) (.con (.int (1)))) .nil))))) (.cons (.asg (.nm 4) (.call 10 (.cons (.var 0) (.cons (.var 1) .nil)))) (.cons (.ret (.call 9 (.cons (.var 0) (.cons (.tup (.star (.slc (.var 4) (.con .non) (.var 2)) (.cons (.var 3) (.star (.slc (.var 4) (.bin .add (.var 2) (.con (.int (1)))) (.con .non)) .nil)))) .nil)))) .nil)))))
def s16 : Sts := (.cons (.ret (.tup (.cons (.var 1) (.cons (.call 6 (.cons (.var 0) .nil)) (.cons (.var 2) .nil))))) .nil)
def s17 : Sts := (.cons (.exp (.call 5 (.cons (.var 0) .nil))) (.cons (.asg (.nm 3) (.call 16 (.cons (.var 0) (.cons (.var 1) (.cons (.var 2) .nil))))) (.cons (.exp (.call 4 (.cons (.var 3) .nil))) (.cons (.ret (.var 3)) .nil))))
def s18 : Sts := (.cons (.asg (.nm 2) (.bin .sub (.call 6 (.cons (.var 0) .nil)) (.con (.int (1))))) (.cons (.ite (.or (.not (.isi (.var 1) .tuple)) (.not (.blt .all (.cons (.lc [3] (.seq (.var 1)) (.nm 3) (.con (.bl true)) (.call 1 (.cons (.var 3) (.cons (.con (.int (0))) (.cons (.var 2) .nil))))) .nil)))) (.cons .dead .nil) .nil) .nil))
def s19 : Sts := (.cons (.exp (.call 5 (.cons (.var 0) .nil))) (.cons (.exp (.call 18 (.cons (.var 0) (.cons (.var 1) .nil)))) (.cons (.ret (.blt .tuple (.cons (.lc [2] (.seq (.var 1)) (.nm 2) (.con (.bl true)) (.call 10 (.cons (.var 0) (.cons (.var 2) .nil)))) .nil))) .nil)))
def s20 : Sts := (.cons (.exp (.call 5 (.cons (.var 0) .nil))) (.cons (.exp (.call 18 (.cons (.var 0) (.cons (.var 1) .nil)))) (.cons (.exp (.call 18 (.cons (.var 0) (.cons (.var 2) .nil)))) (.cons (.ite (.cmp .ne (.blt .len (.cons (.var 1) .nil)) (.blt .len (.cons (.var 2) .nil))) (.cons .dead .nil) .nil) (.cons (.asg (.nm 3) (.lst .nil)) (.cons (.fr (.enz (.var 1) (.var 2)) (.tp (.cons (.nm 4) (.cons (.tp (.cons (.nm 5) (.cons (.nm 6) .nil))) .nil))) (.cons (.asg (.tp (.cons (.nm 7) (.cons (.nm 8) .nil))) (.tup (.cons (.call 10 (.cons (.var 0) (.cons (.var 5) .nil))) (.cons (.call 10 (.cons (.var 0) (.cons (.var 6) .nil))) .nil)))) (.cons (.exp (.met .extend (.var 3) (.cons (.lc [9] (.rng (.con (.int (8)))) (.nm 9) (.cmp .ne (.idx (.var 7) (.var 9)) (.idx (.var 8) (.var 9))) (.tup (.cons (.var 4) (.cons (.var 9) .nil)))) .nil))) .nil))) (.cons (.ret (.blt .tuple (.cons (.var 3) .nil))) .nil)))))))
def s21 : Sts := (.cons (.asg (.nm 2) (.ite (.cmp .lt (.var 1) (.blt .len (.cons (.var 0) .nil))) (.blt .int (.cons (.idx (.var 0) (.var 1)) .nil)) (.bin .add (.bin .mul (.con (.int (173))) (.var 1)) (.con (.int (59)))))) (.cons (.asg (.nm 3) (.bin .mod (.blt .abs (.cons (.var 2) .nil)) (.bin .pow (.bin .pow (.con (.int (10))) (.con (.int (47)))) (.con (.int (7)))))) (.cons (.asg (.nm 4) (.bin .add (.bin .add (.bin .add (.bin .mul (.bin .mod (.var 3) (.con (.int (2305843009213693669)))) (.con (.int (89)))) (.bin .mul (.con (.int (733))) (.var 1))) (.bin .mul (.con (.int (43))) (.blt .int (.cons (.cmp .lt (.var 2) (.con (.int (0)))) .nil)))) (.con (.int (29))))) (.cons (.ret (.lst (.cons (.blt .max2 (.cons (.con (.int (0))) (.cons (.bin .sub (.var 3) (.bin .pow (.con (.int (10))) (.con (.int (15))))) .nil))) (.cons (.var 4) (.cons (.con (.int (0))) .nil))))) .nil))))
def s22 : Sts := (.cons (.ite (.cmp .gt (.idx (.var 0) (.con (.int (0)))) (.con (.int (0)))) (.cons (.asg (.tp (.cons (.sub (.var 0) (.con (.int (0)))) (.cons (.nm 2) .nil))) (.blt .divmod (.cons (.idx (.var 0) (.con (.int (0)))) (.cons (.var 1) .nil)))) (.cons (.ret (.blt .int (.cons (.var 2) .nil))) .nil)) .nil) (.cons (.asg (.sub (.var 0) (.con (.int (2)))) (.bin .add (.idx (.var 0) (.con (.int (2)))) (.con (.int (1))))) (.cons (.asg (.nm 3) (.bin .mod (.bin .add (.idx (.var 0) (.con (.int (1)))) (.bin .mul (.con (.int (67867967))) (.idx (.var 0) (.con (.int (2)))))) (.con (.int (2305843009213693613))))) (.cons (.asg (.nm 4) (.bin .add (.bin .mul (.bin .mod (.bin .add (.bin .mul (.var 3) (.var 3)) (.bin .mul (.con (.int (211))) (.idx (.var 0) (.con (.int (2)))))) (.con (.int (2305843009213693487)))) (.con (.int (49979693)))) (.var 3))) (.cons (.ret (.bin .mod (.blt .int (.cons (.bin .fdiv (.var 4) (.con (.int (70001)))) .nil)) (.var 1))) .nil)))))
def s23 : Sts := (.cons (.ret (.idx (.var 1) (.call 22 (.cons (.var 0) (.cons (.blt .len (.cons (.var 1) .nil)) .nil))))) .nil)
def s24 : Sts := (.cons (.asg (.nm 2) (.lst .nil)) (.cons (.fr (.rng (.con (.int (8)))) (.nm 3) (.cons (.asg (.tp (.cons (.nm 1) (.cons (.nm 4) .nil))) (.blt .divmod (.cons (.var 1) (.cons (.var 0) .nil)))) (.cons (.exp (.met .append (.var 2) (.cons (.var 4) .nil))) .nil))) (.cons (.ret (.blt .tuple (.cons (.var 2) .nil))) .nil)))
def s25 : Sts := (.cons (.asg (.nm 2) (.con (.int (0)))) (.cons (.fr (.seq (.rev (.var 1))) (.nm 3) (.cons (.asg (.nm 2) (.bin .add (.bin .mul (.var 2) (.var 0)) (.var 3))) .nil)) (.cons (.ret (.var 2)) .nil)))
def s26 : Sts := (.cons (.asg (.nm 2) (.blt .tuple (.cons (.lc [3] (.rng (.con (.int (8)))) (.nm 3) (.con (.bl true)) (.call 22 (.cons (.var 0) (.cons (.call 23 (.cons (.var 0) (.cons (.lst (.cons (.var 1) (.cons (.con (.int (2))) (.cons (.con (.int (1))) .nil)))) .nil))) .nil)))) .nil))) (.cons (.par [4, 5, 6] (.cons (.call 25 (.cons (.var 1) (.cons (.var 2) .nil))) (.cons (.call 22 (.cons (.var 0) (.cons (.con (.int (8))) .nil))) (.cons (.call 22 (.cons (.var 0) (.cons (.var 1) .nil))) .nil)))) (.cons (.ite (.or (.cmp .ne (.call 11 (.cons (.var 1) (.cons (.var 2) .nil))) (.var 4)) (.or (.cmp .ne (.call 13 (.cons (.var 1) (.cons (.var 4) .nil))) (.var 2)) (.cmp .isn (.call 8 (.cons (.var 1) (.cons (.var 2) .nil))) (.con (.bl true))))) (.cons (.ret (.con (.bl false))) .nil) .nil) (.cons (.ite (.cmp .ne (.call 14 (.cons (.var 1) (.cons (.var 4) (.cons (.var 5) .nil)))) (.idx (.var 2) (.var 5))) (.cons (.ret (.con (.bl false))) .nil) .nil) (.cons (.asg (.nm 7) (.bin .add (.bin .add (.slc (.var 2) (.con .non) (.var 5)) (.tup (.cons (.var 6) .nil))) (.slc (.var 2) (.bin .add (.var 5) (.con (.int (1)))) (.con .non)))) (.cons (.ite (.cmp .ne (.call 15 (.cons (.var 1) (.cons (.var 4) (.cons (.var 5) (.cons (.var 6) .nil))))) (.call 25 (.cons (.var 1) (.cons (.var 7) .nil)))) (.cons (.ret (.con (.bl false))) .nil) .nil) (.cons (.asg (.nm 8) (.bin .add (.bin .mul (.call 22 (.cons (.var 0) (.cons (.bin .pow (.var 1) (.con (.int (4)))) .nil))) (.bin .pow (.var 1) (.con (.int (4))))) (.call 22 (.cons (.var 0) (.cons (.bin .pow (.var 1) (.con (.int (4)))) .nil))))) (.cons (.ite (.or (.cmp .ne (.call 13 (.cons (.var 1) (.cons (.var 8) .nil))) (.call 24 (.cons (.var 1) (.cons (.var 8) .nil)))) (.cmp .ne (.call 11 (.cons (.var 1) (.cons (.call 13 (.cons (.var 1) (.cons (.var 8) .nil))) .nil))) (.var 8))) (.cons (.ret (.con (.bl false))) .nil) .nil) (.cons (.ret (.cmp .eq (.cmp .lt (.var 4) (.call 25 (.cons (.var 1) (.cons (.var 7) .nil)))) (.cmp .lt (.rev (.var 2)) (.rev (.var 7))))) .nil)))))))))
def s27 : Sts := (.cons (.asg (.nm 2) (.blt .tuple (.cons (.lc [3] (.rng (.con (.int (8)))) (.nm 3) (.con (.bl true)) (.call 22 (.cons (.var 0) (.cons (.var 1) .nil)))) .nil))) (.cons (.asg (.nm 4) (.call 22 (.cons (.var 0) (.cons (.con (.int (8))) .nil)))) (.cons (.asg (.nm 5) (.lst (.cons (.blt .list (.cons (.var 2) .nil)) (.cons (.slc (.var 2) (.con .non) (.con (.int (7)))) (.cons (.bin .add (.var 2) (.tup (.cons (.con (.int (0))) .nil))) (.cons (.con .non) (.cons (.tup .nil) (.cons (.con (.int (0))) (.cons (.con (.str "page")) (.cons (.dct .nil) (.cons (.blt .tuple (.cons (.bin .mul (.lst (.cons (.con .non) .nil)) (.con (.int (8)))) .nil)) (.cons (.call 25 (.cons (.var 1) (.cons (.var 2) .nil))) .nil)))))))))))) (.cons (.fr (.seq (.tup (.cons (.var 1) (.cons (.neg (.con (.int (1)))) (.cons (.con .non) (.cons (.con (.bl true)) (.cons (.con (.str "0")) (.cons (.tup (.cons (.con (.int (0))) .nil)) (.cons (.bin .add (.var 1) (.con (.int (7)))) .nil))))))))) (.nm 6) (.cons (.exp (.met .append (.var 5) (.cons (.bin .add (.bin .add (.slc (.var 2) (.con .non) (.var 4)) (.tup (.cons (.var 6) .nil))) (.slc (.var 2) (.bin .add (.var 4) (.con (.int (1)))) (.con .non))) .nil))) .nil)) (.cons (.ret (.cmp .eq (.lc [7] (.seq (.var 5)) (.nm 7) (.cmp .isn (.call 8 (.cons (.var 1) (.cons (.var 7) .nil))) (.con (.bl false))) (.var 7)) (.lst .nil))) .nil)))))
def s28 : Sts := (.cons (.asg (.nm 2) (.call 22 (.cons (.var 0) (.cons (.con (.int (5))) .nil)))) (.cons (.asg (.nm 3) (.lc [4] (.rng (.var 2)) (.nm 4) (.con (.bl true)) (.call 22 (.cons (.var 0) (.cons (.bin .pow (.var 1) (.con (.int (8)))) .nil))))) (.cons (.asg (.nm 5) (.blt .list (.cons (.var 3) .nil))) (.cons (.fr (.rng (.ite (.cmp .gt (.var 2) (.con (.int (0)))) (.call 22 (.cons (.var 0) (.cons (.con (.int (3))) .nil))) (.con (.int (0))))) (.nm 4) (.cons (.asg (.tp (.cons (.nm 6) (.cons (.nm 7) .nil))) (.tup (.cons (.call 22 (.cons (.var 0) (.cons (.var 2) .nil))) (.cons (.call 22 (.cons (.var 0) (.cons (.con (.int (8))) .nil))) .nil)))) (.cons (.asg (.nm 8) (.call 24 (.cons (.var 1) (.cons (.idx (.var 5) (.var 6)) .nil)))) (.cons (.asg (.sub (.var 5) (.var 6)) (.call 25 (.cons (.var 1) (.cons (.bin .add (.bin .add (.slc (.var 8) (.con .non) (.var 7)) (.tup (.cons (.call 22 (.cons (.var 0) (.cons (.var 1) .nil))) .nil))) (.slc (.var 8) (.bin .add (.var 7) (.con (.int (1)))) (.con .non))) .nil)))) .nil)))) (.cons (.asg (.nm 9) (.lc [10] (.seq (.var 3)) (.nm 10) (.con (.bl true)) (.call 24 (.cons (.var 1) (.cons (.var 10) .nil))))) (.cons (.asg (.tp (.cons (.nm 11) (.cons (.nm 12) .nil))) (.tup (.cons (.lc [10] (.seq (.var 5)) (.nm 10) (.con (.bl true)) (.call 24 (.cons (.var 1) (.cons (.var 10) .nil)))) (.cons (.lst .nil) .nil)))) (.cons (.fr (.rng (.var 2)) (.nm 6) (.cons (.asg (.nm 12) (.bin .add (.var 12) (.lc [7] (.rng (.con (.int (8)))) (.nm 7) (.cmp .ne (.idx (.idx (.var 9) (.var 6)) (.var 7)) (.idx (.idx (.var 11) (.var 6)) (.var 7))) (.tup (.cons (.var 6) (.cons (.var 7) .nil)))))) .nil)) (.cons (.ite (.or (.cmp .ne (.call 19 (.cons (.var 1) (.cons (.blt .tuple (.cons (.var 3) .nil)) .nil))) (.blt .tuple (.cons (.var 9) .nil))) (.cmp .ne (.call 20 (.cons (.var 1) (.cons (.blt .tuple (.cons (.var 3) .nil)) (.cons (.blt .tuple (.cons (.var 5) .nil)) .nil)))) (.blt .tuple (.cons (.var 12) .nil)))) (.cons (.ret (.con (.bl false))) .nil) .nil) (.cons (.par [13, 14] (.cons (.bin .add (.con (.int (1))) (.call 22 (.cons (.var 0) (.cons (.con (.int (200))) .nil)))) (.cons (.bin .add (.con (.int (1))) (.call 22 (.cons (.var 0) (.cons (.con (.int (20000))) .nil)))) .nil))) (.cons (.ret (.cmp .eq (.call 17 (.cons (.var 1) (.cons (.var 13) (.cons (.var 14) .nil)))) (.tup (.cons (.var 13) (.cons (.bin .pow (.var 1) (.con (.int (8)))) (.cons (.var 14) .nil)))))) .nil))))))))))
def s29 : Sts := (.cons (.ite (.cmp .ne (.con (.int (8))) (.con (.int (8)))) (.cons (.ret (.con (.bl false))) .nil) .nil) (.cons (.fr (.rng (.blt .max2 (.cons (.con (.int (1))) (.cons (.blt .min2 (.cons (.con (.int (5))) (.cons (.blt .len (.cons (.var 0) .nil)) .nil))) .nil)))) (.nm 1) (.cons (.asg (.nm 2) (.call 21 (.cons (.var 0) (.cons (.var 1) .nil)))) (.cons (.fr (.rng (.con (.int (4)))) (.nm 3) (.cons (.asg (.nm 4) (.call 23 (.cons (.var 2) (.cons (.lst (.cons (.con (.int (2))) (.cons (.con (.int (3))) (.cons (.con (.int (8))) (.cons (.con (.int (10))) (.cons (.con (.int (16))) (.cons (.con (.int (97))) (.cons (.con (.int (999))) (.cons (.con (.int (1000))) .nil))))))))) .nil)))) (.cons (.ite (.or (.not (.call 26 (.cons (.var 2) (.cons (.var 4) .nil)))) (.or (.not (.call 27 (.cons (.var 2) (.cons (.var 4) .nil)))) (.not (.call 28 (.cons (.var 2) (.cons (.var 4) .nil)))))) (.cons (.ret (.con (.bl false))) .nil) .nil) .nil))) .nil))) (.cons (.ret (.con (.bl true))) .nil)))

theorem t0 : trSs Tt 12 30 (csOf d0) (C8.fnBody d0.st) = s0 := by kernel_rfl
theorem c0 : C8.scC d0.N d0.ps (C8.fnScope d0.st) = true := by kernel_rfl
theorem t1 : trSs Tt 12 30 (csOf d1) (C8.fnBody d1.st) = s1 := by kernel_rfl
theorem c1 : C8.scC d1.N d1.ps (C8.fnScope d1.st) = true := by kernel_rfl
theorem t2 : trSs Tt 12 30 (csOf d2) (C8.fnBody d2.st) = s2 := by kernel_rfl
theorem c2 : C8.scC d2.N d2.ps (C8.fnScope d2.st) = true := by kernel_rfl
theorem t3 : trSs Tt 12 30 (csOf d3) (C8.fnBody d3.st) = s3 := by kernel_rfl
theorem c3 : C8.scC d3.N d3.ps (C8.fnScope d3.st) = true := by kernel_rfl
theorem t4 : trSs Tt 12 30 (csOf d4) (C8.fnBody d4.st) = s4 := by kernel_rfl
theorem c4 : C8.scC d4.N d4.ps (C8.fnScope d4.st) = true := by kernel_rfl
theorem t5 : trSs Tt 12 30 (csOf d5) (C8.fnBody d5.st) = s5 := by kernel_rfl
theorem c5 : C8.scC d5.N d5.ps (C8.fnScope d5.st) = true := by kernel_rfl
theorem t6 : trSs Tt 12 30 (csOf d6) (C8.fnBody d6.st) = s6 := by kernel_rfl
theorem c6 : C8.scC d6.N d6.ps (C8.fnScope d6.st) = true := by kernel_rfl
theorem t7 : trSs Tt 12 30 (csOf d7) (C8.fnBody d7.st) = s7 := by kernel_rfl
theorem c7 : C8.scC d7.N d7.ps (C8.fnScope d7.st) = true := by kernel_rfl
theorem t8 : trSs Tt 12 30 (csOf d8) (C8.fnBody d8.st) = s8 := by kernel_rfl
theorem c8 : C8.scC d8.N d8.ps (C8.fnScope d8.st) = true := by kernel_rfl
theorem t9 : trSs Tt 12 30 (csOf d9) (C8.fnBody d9.st) = s9 := by kernel_rfl
theorem c9 : C8.scC d9.N d9.ps (C8.fnScope d9.st) = true := by kernel_rfl
theorem t10 : trSs Tt 12 30 (csOf d10) (C8.fnBody d10.st) = s10 := by kernel_rfl
theorem c10 : C8.scC d10.N d10.ps (C8.fnScope d10.st) = true := by kernel_rfl
theorem t11 : trSs Tt 12 30 (csOf d11) (C8.fnBody d11.st) = s11 := by kernel_rfl
theorem c11 : C8.scC d11.N d11.ps (C8.fnScope d11.st) = true := by kernel_rfl
theorem t12 : trSs Tt 12 30 (csOf d12) (C8.fnBody d12.st) = s12 := by kernel_rfl
theorem c12 : C8.scC d12.N d12.ps (C8.fnScope d12.st) = true := by kernel_rfl
theorem t13 : trSs Tt 12 30 (csOf d13) (C8.fnBody d13.st) = s13 := by kernel_rfl
theorem c13 : C8.scC d13.N d13.ps (C8.fnScope d13.st) = true := by kernel_rfl
theorem t14 : trSs Tt 12 30 (csOf d14) (C8.fnBody d14.st) = s14 := by kernel_rfl
theorem c14 : C8.scC d14.N d14.ps (C8.fnScope d14.st) = true := by kernel_rfl
theorem t15 : trSs Tt 12 30 (csOf d15) (C8.fnBody d15.st) = s15 := by kernel_rfl
theorem c15 : C8.scC d15.N d15.ps (C8.fnScope d15.st) = true := by kernel_rfl
theorem t16 : trSs Tt 12 30 (csOf d16) (C8.fnBody d16.st) = s16 := by kernel_rfl
theorem c16 : C8.scC d16.N d16.ps (C8.fnScope d16.st) = true := by kernel_rfl
theorem t17 : trSs Tt 12 30 (csOf d17) (C8.fnBody d17.st) = s17 := by kernel_rfl
theorem c17 : C8.scC d17.N d17.ps (C8.fnScope d17.st) = true := by kernel_rfl
theorem t18 : trSs Tt 12 30 (csOf d18) (C8.fnBody d18.st) = s18 := by kernel_rfl
theorem c18 : C8.scC d18.N d18.ps (C8.fnScope d18.st) = true := by kernel_rfl
theorem t19 : trSs Tt 12 30 (csOf d19) (C8.fnBody d19.st) = s19 := by kernel_rfl
theorem c19 : C8.scC d19.N d19.ps (C8.fnScope d19.st) = true := by kernel_rfl
theorem t20 : trSs Tt 12 30 (csOf d20) (C8.fnBody d20.st) = s20 := by kernel_rfl
theorem c20 : C8.scC d20.N d20.ps (C8.fnScope d20.st) = true := by kernel_rfl
theorem t21 : trSs Tt 12 30 (csOf d21) (C8.fnBody d21.st) = s21 := by kernel_rfl
theorem c21 : C8.scC d21.N d21.ps (C8.fnScope d21.st) = true := by kernel_rfl
theorem t22 : trSs Tt 12 30 (csOf d22) (C8.fnBody d22.st) = s22 := by kernel_rfl
theorem c22 : C8.scC d22.N d22.ps (C8.fnScope d22.st) = true := by kernel_rfl
theorem t23 : trSs Tt 12 30 (csOf d23) (C8.fnBody d23.st) = s23 := by kernel_rfl
theorem c23 : C8.scC d23.N d23.ps (C8.fnScope d23.st) = true := by kernel_rfl
theorem t24 : trSs Tt 12 30 (csOf d24) (C8.fnBody d24.st) = s24 := by kernel_rfl
theorem c24 : C8.scC d24.N d24.ps (C8.fnScope d24.st) = true := by kernel_rfl
theorem t25 : trSs Tt 12 30 (csOf d25) (C8.fnBody d25.st) = s25 := by kernel_rfl
theorem c25 : C8.scC d25.N d25.ps (C8.fnScope d25.st) = true := by kernel_rfl
theorem t26 : trSs Tt 12 30 (csOf d26) (C8.fnBody d26.st) = s26 := by kernel_rfl
theorem c26 : C8.scC d26.N d26.ps (C8.fnScope d26.st) = true := by kernel_rfl
theorem t27 : trSs Tt 12 30 (csOf d27) (C8.fnBody d27.st) = s27 := by kernel_rfl
theorem c27 : C8.scC d27.N d27.ps (C8.fnScope d27.st) = true := by kernel_rfl
theorem t28 : trSs Tt 12 30 (csOf d28) (C8.fnBody d28.st) = s28 := by kernel_rfl
theorem c28 : C8.scC d28.N d28.ps (C8.fnScope d28.st) = true := by kernel_rfl
theorem t29 : trSs Tt 12 30 (csOf d29) (C8.fnBody d29.st) = s29 := by kernel_rfl
theorem c29 : C8.scC d29.N d29.ps (C8.fnScope d29.st) = true := by kernel_rfl
def Ds : List Def := [⟨1, 1, denSs s0⟩, ⟨3, 3, denSs s1⟩, ⟨3, 3, denSs s2⟩, ⟨1, 3, denSs s3⟩, ⟨1, 1, denSs s4⟩, ⟨1, 1, denSs s5⟩, ⟨1, 3, denSs s6⟩, ⟨2, 3, denSs s7⟩, ⟨2, 2, denSs s8⟩, ⟨2, 4, denSs s9⟩, ⟨2, 4, denSs s10⟩, ⟨2, 2, denSs s11⟩, ⟨2, 2, denSs s12⟩, ⟨2, 2, denSs s13⟩, ⟨3, 3, denSs s14⟩, ⟨4, 5, denSs s15⟩, ⟨3, 3, denSs s16⟩, ⟨3, 4, denSs s17⟩, ⟨2, 4, denSs s18⟩, ⟨2, 3, denSs s19⟩, ⟨3, 10, denSs s20⟩, ⟨2, 5, denSs s21⟩, ⟨2, 5, denSs s22⟩, ⟨2, 2, denSs s23⟩, ⟨2, 5, denSs s24⟩, ⟨2, 4, denSs s25⟩, ⟨2, 9, denSs s26⟩, ⟨2, 8, denSs s27⟩, ⟨2, 15, denSs s28⟩, ⟨1, 5, denSs s29⟩]
def Dd : Nat → Option Def := fun i => Ds[i]?
theorem dok : ∀ (i : Nat) (d : DS), dn[i]? = some d → ∃ e, Dd i = some e ∧ DefOk Tt d e := by
  intro i d h
  match i, h with
  | 0, h => cases h; exact ⟨_, rfl, c0, rfl, rfl, 12, 30, by rw [t0]⟩
  | 1, h => cases h; exact ⟨_, rfl, c1, rfl, rfl, 12, 30, by rw [t1]⟩
  | 2, h => cases h; exact ⟨_, rfl, c2, rfl, rfl, 12, 30, by rw [t2]⟩
  | 3, h => cases h; exact ⟨_, rfl, c3, rfl, rfl, 12, 30, by rw [t3]⟩
  | 4, h => cases h; exact ⟨_, rfl, c4, rfl, rfl, 12, 30, by rw [t4]⟩
  | 5, h => cases h; exact ⟨_, rfl, c5, rfl, rfl, 12, 30, by rw [t5]⟩
  | 6, h => cases h; exact ⟨_, rfl, c6, rfl, rfl, 12, 30, by rw [t6]⟩
  | 7, h => cases h; exact ⟨_, rfl, c7, rfl, rfl, 12, 30, by rw [t7]⟩
  | 8, h => cases h; exact ⟨_, rfl, c8, rfl, rfl, 12, 30, by rw [t8]⟩
  | 9, h => cases h; exact ⟨_, rfl, c9, rfl, rfl, 12, 30, by rw [t9]⟩
  | 10, h => cases h; exact ⟨_, rfl, c10, rfl, rfl, 12, 30, by rw [t10]⟩
  | 11, h => cases h; exact ⟨_, rfl, c11, rfl, rfl, 12, 30, by rw [t11]⟩
  | 12, h => cases h; exact ⟨_, rfl, c12, rfl, rfl, 12, 30, by rw [t12]⟩
  | 13, h => cases h; exact ⟨_, rfl, c13, rfl, rfl, 12, 30, by rw [t13]⟩
  | 14, h => cases h; exact ⟨_, rfl, c14, rfl, rfl, 12, 30, by rw [t14]⟩
  | 15, h => cases h; exact ⟨_, rfl, c15, rfl, rfl, 12, 30, by rw [t15]⟩
  | 16, h => cases h; exact ⟨_, rfl, c16, rfl, rfl, 12, 30, by rw [t16]⟩
  | 17, h => cases h; exact ⟨_, rfl, c17, rfl, rfl, 12, 30, by rw [t17]⟩
  | 18, h => cases h; exact ⟨_, rfl, c18, rfl, rfl, 12, 30, by rw [t18]⟩
  | 19, h => cases h; exact ⟨_, rfl, c19, rfl, rfl, 12, 30, by rw [t19]⟩
  | 20, h => cases h; exact ⟨_, rfl, c20, rfl, rfl, 12, 30, by rw [t20]⟩
  | 21, h => cases h; exact ⟨_, rfl, c21, rfl, rfl, 12, 30, by rw [t21]⟩
  | 22, h => cases h; exact ⟨_, rfl, c22, rfl, rfl, 12, 30, by rw [t22]⟩
  | 23, h => cases h; exact ⟨_, rfl, c23, rfl, rfl, 12, 30, by rw [t23]⟩
  | 24, h => cases h; exact ⟨_, rfl, c24, rfl, rfl, 12, 30, by rw [t24]⟩
  | 25, h => cases h; exact ⟨_, rfl, c25, rfl, rfl, 12, 30, by rw [t25]⟩
  | 26, h => cases h; exact ⟨_, rfl, c26, rfl, rfl, 12, 30, by rw [t26]⟩
  | 27, h => cases h; exact ⟨_, rfl, c27, rfl, rfl, 12, 30, by rw [t27]⟩
  | 28, h => cases h; exact ⟨_, rfl, c28, rfl, rfl, 12, 30, by rw [t28]⟩
  | 29, h => cases h; exact ⟨_, rfl, c29, rfl, rfl, 12, 30, by rw [t29]⟩
  | i + 30, h => simp [dn] at h
theorem bok : ∀ d ∈ dn, BindOk d := by
  intro d h
  simp only [dn, List.mem_cons, List.not_mem_nil, or_false] at h
  rcases h with rfl | rfl | rfl | rfl | rfl | rfl | rfl | rfl | rfl | rfl | rfl | rfl | rfl | rfl | rfl | rfl | rfl | rfl | rfl | rfl | rfl | rfl | rfl | rfl | rfl | rfl | rfl | rfl | rfl | rfl
  · exact b0
  · exact b1
  · exact b2
  · exact b3
  · exact b4
  · exact b5
  · exact b6
  · exact b7
  · exact b8
  · exact b9
  · exact b10
  · exact b11
  · exact b12
  · exact b13
  · exact b14
  · exact b15
  · exact b16
  · exact b17
  · exact b18
  · exact b19
  · exact b20
  · exact b21
  · exact b22
  · exact b23
  · exact b24
  · exact b25
  · exact b26
  · exact b27
  · exact b28
  · exact b29
end L59
namespace L59
open PySem Pv
/-- is_integer -/
theorem u0 (n : Nat) (ws : List W) (S : Sto) : callF Dd (n + 1) 0 ws S = runDef ⟨1, 1, (sSeq (sRet (dAnd (dIsi (dVar 0) .int) (dBl (dNotT (dTru (dIsi (dVar 0) .bool)))))) sNil)⟩ (callF Dd n) ws S := rfl
/-- is_count -/
theorem u1 (n : Nat) (ws : List W) (S : Sto) : callF Dd (n + 1) 1 ws S = runDef ⟨3, 3, (sSeq (sRet (dAnd (dCall 0 (dCons (dVar 0) dNil)) (dBl (dCmp2 .le .le (dVar 1) (dVar 0) (dVar 2))))) sNil)⟩ (callF Dd n) ws S := rfl
/-- require_count -/
theorem u2 (n : Nat) (ws : List W) (S : Sto) : callF Dd (n + 1) 2 ws S = runDef ⟨3, 3, (sSeq (dIf (dNotT (dTru (dCall 1 (dCons (dVar 0) (dCons (dVar 1) (dCons (dVar 2) dNil)))))) (sSeq dNo sNil) sNil) (sSeq (sRet (dVar 0)) sNil))⟩ (callF Dd n) ws S := rfl
/-- is_plain_bounds -/
theorem u3 (n : Nat) (ws : List W) (S : Sto) : callF Dd (n + 1) 3 ws S = runDef ⟨1, 3, (sSeq (dIf (dIf (dNotT (dTru (dIsi (dVar 0) .tuple))) (dBool true) (dCmp .ne (dBlt .len (dCons (dVar 0) dNil)) (dCon (.int 3)))) (sSeq (sRet (dCon (.bl false))) sNil) sNil) (sSeq (sRet (dBlt .all (dCons (dLc [1, 2] (dItZip (dVar 0) (dTup (dCons (dCon (.int 200)) (dCons (dCon (.int 1000000000000000000000000000000)) (dCons (dCon (.int 20000)) dNil))))) (aTp 2 (aCons (aNm 1) (aCons (aNm 2) aNil))) (dBool true) (dCall 1 (dCons (dVar 1) (dCons (dCon (.int 1)) (dCons (dVar 2) dNil))))) dNil))) sNil))⟩ (callF Dd n) ws S := rfl
/-- require_bounds -/
theorem u4 (n : Nat) (ws : List W) (S : Sto) : callF Dd (n + 1) 4 ws S = runDef ⟨1, 1, (sSeq (dIf (dNotT (dTru (dCall 3 (dCons (dVar 0) dNil)))) (sSeq dNo sNil) sNil) (sSeq (sRet (dVar 0)) sNil))⟩ (callF Dd n) ws S := rfl
/-- require_base -/
theorem u5 (n : Nat) (ws : List W) (S : Sto) : callF Dd (n + 1) 5 ws S = runDef ⟨1, 1, (sSeq (sRet (dCall 2 (dCons (dVar 0) (dCons (dCon (.int 2)) (dCons (dCon (.int 1000)) dNil))))) sNil)⟩ (callF Dd n) ws S := rfl
/-- worths_of -/
theorem u6 (n : Nat) (ws : List W) (S : Sto) : callF Dd (n + 1) 6 ws S = runDef ⟨1, 3, (sSeq (sAsg (aNm 1) (dCon (.int 1))) (sSeq (sFor (dItRng (dCon (.int 8))) (aNm 2) (sSeq (sAsg (aNm 1) (dBin .mul (dVar 1) (dVar 0))) sNil)) (sSeq (sRet (dVar 1)) sNil)))⟩ (callF Dd n) ws S := rfl
/-- is_page_by -/
theorem u7 (n : Nat) (ws : List W) (S : Sto) : callF Dd (n + 1) 7 ws S = runDef ⟨2, 3, (sSeq (dIf (dIf (dNotT (dTru (dIsi (dVar 1) .tuple))) (dBool true) (dCmp .ne (dBlt .len (dCons (dVar 1) dNil)) (dCon (.int 8)))) (sSeq (sRet (dCon (.bl false))) sNil) sNil) (sSeq (sRet (dBlt .all (dCons (dLc [2] (dItSeq (dVar 1)) (aNm 2) (dBool true) (dCall 1 (dCons (dVar 2) (dCons (dCon (.int 0)) (dCons (dBin .sub (dVar 0) (dCon (.int 1))) dNil))))) dNil))) sNil))⟩ (callF Dd n) ws S := rfl
/-- is_page -/
theorem u8 (n : Nat) (ws : List W) (S : Sto) : callF Dd (n + 1) 8 ws S = runDef ⟨2, 2, (sSeq (sRet (dCall 7 (dCons (dCall 5 (dCons (dVar 0) dNil)) (dCons (dVar 1) dNil)))) sNil)⟩ (callF Dd n) ws S := rfl
/-- worth_by -/
theorem u9 (n : Nat) (ws : List W) (S : Sto) : callF Dd (n + 1) 9 ws S = runDef ⟨2, 4, (sSeq (sAsg (aNm 2) (dCon (.int 0))) (sSeq (sFor (dItSeq (dRev (dVar 1))) (aNm 3) (sSeq (sAsg (aNm 2) (dBin .add (dBin .mul (dVar 2) (dVar 0)) (dVar 3))) sNil)) (sSeq (sRet (dVar 2)) sNil)))⟩ (callF Dd n) ws S := rfl
/-- page_by -/
theorem u10 (n : Nat) (ws : List W) (S : Sto) : callF Dd (n + 1) 10 ws S = runDef ⟨2, 4, (sSeq (sAsg (aNm 2) (dLst dNil)) (sSeq (sFor (dItRng (dCon (.int 8))) (aNm 3) (sSeq (sExp (dMet .append (dVar 2) (dCons (dBin .mod (dVar 1) (dVar 0)) dNil))) (sSeq (sAsg (aNm 1) (dBin .fdiv (dVar 1) (dVar 0))) sNil))) (sSeq (sRet (dBlt .tuple (dCons (dVar 2) dNil))) sNil)))⟩ (callF Dd n) ws S := rfl
/-- page_worth -/
theorem u11 (n : Nat) (ws : List W) (S : Sto) : callF Dd (n + 1) 11 ws S = runDef ⟨2, 2, (sSeq (dIf (dNotT (dTru (dCall 7 (dCons (dCall 5 (dCons (dVar 0) dNil)) (dCons (dVar 1) dNil))))) (sSeq dNo sNil) sNil) (sSeq (sRet (dCall 9 (dCons (dVar 0) (dCons (dVar 1) dNil)))) sNil))⟩ (callF Dd n) ws S := rfl
/-- require_worth -/
theorem u12 (n : Nat) (ws : List W) (S : Sto) : callF Dd (n + 1) 12 ws S = runDef ⟨2, 2, (sSeq (sExp (dCall 5 (dCons (dVar 0) dNil))) (sSeq (sExp (dCall 2 (dCons (dVar 1) (dCons (dCon (.int 0)) (dCons (dBin .sub (dCall 6 (dCons (dVar 0) dNil)) (dCon (.int 1))) dNil))))) sNil))⟩ (callF Dd n) ws S := rfl
/-- page_of -/
theorem u13 (n : Nat) (ws : List W) (S : Sto) : callF Dd (n + 1) 13 ws S = runDef ⟨2, 2, (sSeq (sExp (dCall 12 (dCons (dVar 0) (dCons (dVar 1) dNil)))) (sSeq (sRet (dCall 10 (dCons (dVar 0) (dCons (dVar 1) dNil)))) sNil))⟩ (callF Dd n) ws S := rfl
/-- entry_of -/
theorem u14 (n : Nat) (ws : List W) (S : Sto) : callF Dd (n + 1) 14 ws S = runDef ⟨3, 3, (sSeq (sExp (dCall 12 (dCons (dVar 0) (dCons (dVar 1) dNil)))) (sSeq (sRet (dIdx (dCall 10 (dCons (dVar 0) (dCons (dVar 1) dNil))) (dCall 2 (dCons (dVar 2) (dCons (dCon (.int 0)) (dCons (dBin .sub (dCon (.int 8)) (dCon (.int 1))) dNil)))))) sNil))⟩ (callF Dd n) ws S := rfl
/-- with_entry -/
theorem u15 (n : Nat) (ws : List W) (S : Sto) : callF Dd (n + 1) 15 ws S = runDef ⟨4, 5, (sSeq (sExp (dCall 12 (dCons (dVar 0) (dCons (dVar 1) dNil)))) (sSeq (sExp (dCall 2 (dCons (dVar 2) (dCons (dCon (.int 0)) (dCons (dBin .sub (dCon (.int 8)) (dCon (.int 1))) dNil))))) (sSeq (sExp (dCall 2 (dCons (dVar 3) (dCons (dCon (.int 0)) (dCons (dBin .sub (dVar 0) (dCon (.int 1))) dNil))))) (sSeq (sAsg (aNm 4) (dCall 10 (dCons (dVar 0) (dCons (dVar 1) dNil)))) (sSeq (sRet (dCall 9 (dCons (dVar 0) (dCons (dTup (dStar (dSlc (dVar 4) dNoPart (dPart (dVar 2))) (dCons (dVar 3) (dStar (dSlc (dVar 4) (dPart (dBin .add (dVar 2) (dCon (.int 1)))) dNoPart) dNil)))) dNil)))) sNil)))))⟩ (callF Dd n) ws S := rfl
/-- bounds_by -/
theorem u16 (n : Nat) (ws : List W) (S : Sto) : callF Dd (n + 1) 16 ws S = runDef ⟨3, 3, (sSeq (sRet (dTup (dCons (dVar 1) (dCons (dCall 6 (dCons (dVar 0) dNil)) (dCons (dVar 2) dNil))))) sNil)⟩ (callF Dd n) ws S := rfl
/-- page_bounds -/
theorem u17 (n : Nat) (ws : List W) (S : Sto) : callF Dd (n + 1) 17 ws S = runDef ⟨3, 4, (sSeq (sExp (dCall 5 (dCons (dVar 0) dNil))) (sSeq (sAsg (aNm 3) (dCall 16 (dCons (dVar 0) (dCons (dVar 1) (dCons (dVar 2) dNil))))) (sSeq (sExp (dCall 4 (dCons (dVar 3) dNil))) (sSeq (sRet (dVar 3)) sNil))))⟩ (callF Dd n) ws S := rfl
/-- require_pages -/
theorem u18 (n : Nat) (ws : List W) (S : Sto) : callF Dd (n + 1) 18 ws S = runDef ⟨2, 4, (sSeq (sAsg (aNm 2) (dBin .sub (dCall 6 (dCons (dVar 0) dNil)) (dCon (.int 1)))) (sSeq (dIf (dIf (dNotT (dTru (dIsi (dVar 1) .tuple))) (dBool true) (dNotT (dTru (dBlt .all (dCons (dLc [3] (dItSeq (dVar 1)) (aNm 3) (dBool true) (dCall 1 (dCons (dVar 3) (dCons (dCon (.int 0)) (dCons (dVar 2) dNil))))) dNil))))) (sSeq dNo sNil) sNil) sNil))⟩ (callF Dd n) ws S := rfl
/-- pages_of -/
theorem u19 (n : Nat) (ws : List W) (S : Sto) : callF Dd (n + 1) 19 ws S = runDef ⟨2, 3, (sSeq (sExp (dCall 5 (dCons (dVar 0) dNil))) (sSeq (sExp (dCall 18 (dCons (dVar 0) (dCons (dVar 1) dNil)))) (sSeq (sRet (dBlt .tuple (dCons (dLc [2] (dItSeq (dVar 1)) (aNm 2) (dBool true) (dCall 10 (dCons (dVar 0) (dCons (dVar 2) dNil)))) dNil))) sNil)))⟩ (callF Dd n) ws S := rfl
/-- unlike_pages -/
theorem u20 (n : Nat) (ws : List W) (S : Sto) : callF Dd (n + 1) 20 ws S = runDef ⟨3, 10, (sSeq (sExp (dCall 5 (dCons (dVar 0) dNil))) (sSeq (sExp (dCall 18 (dCons (dVar 0) (dCons (dVar 1) dNil)))) (sSeq (sExp (dCall 18 (dCons (dVar 0) (dCons (dVar 2) dNil)))) (sSeq (dIf (dCmp .ne (dBlt .len (dCons (dVar 1) dNil)) (dBlt .len (dCons (dVar 2) dNil))) (sSeq dNo sNil) sNil) (sSeq (sAsg (aNm 3) (dLst dNil)) (sSeq (sFor (dItEnz (dVar 1) (dVar 2)) (aTp 2 (aCons (aNm 4) (aCons (aTp 2 (aCons (aNm 5) (aCons (aNm 6) aNil))) aNil))) (sSeq (sAsg (aTp 2 (aCons (aNm 7) (aCons (aNm 8) aNil))) (dTup (dCons (dCall 10 (dCons (dVar 0) (dCons (dVar 5) dNil))) (dCons (dCall 10 (dCons (dVar 0) (dCons (dVar 6) dNil))) dNil)))) (sSeq (sExp (dMet .extend (dVar 3) (dCons (dLc [9] (dItRng (dCon (.int 8))) (aNm 9) (dCmp .ne (dIdx (dVar 7) (dVar 9)) (dIdx (dVar 8) (dVar 9))) (dTup (dCons (dVar 4) (dCons (dVar 9) dNil)))) dNil))) sNil))) (sSeq (sRet (dBlt .tuple (dCons (dVar 3) dNil))) sNil)))))))⟩ (callF Dd n) ws S := rfl
/-- _law_dice -/
theorem u21 (n : Nat) (ws : List W) (S : Sto) : callF Dd (n + 1) 21 ws S = runDef ⟨2, 5, (sSeq (sAsg (aNm 2) (dIf (dCmp .lt (dVar 1) (dBlt .len (dCons (dVar 0) dNil))) (dBlt .int (dCons (dIdx (dVar 0) (dVar 1)) dNil)) (dBin .add (dBin .mul (dCon (.int 173)) (dVar 1)) (dCon (.int 59))))) (sSeq (sAsg (aNm 3) (dBin .mod (dBlt .abs (dCons (dVar 2) dNil)) (dBin .pow (dBin .pow (dCon (.int 10)) (dCon (.int 47))) (dCon (.int 7))))) (sSeq (sAsg (aNm 4) (dBin .add (dBin .add (dBin .add (dBin .mul (dBin .mod (dVar 3) (dCon (.int 2305843009213693669))) (dCon (.int 89))) (dBin .mul (dCon (.int 733)) (dVar 1))) (dBin .mul (dCon (.int 43)) (dBlt .int (dCons (dBl (dCmp .lt (dVar 2) (dCon (.int 0)))) dNil)))) (dCon (.int 29)))) (sSeq (sRet (dLst (dCons (dBlt .max2 (dCons (dCon (.int 0)) (dCons (dBin .sub (dVar 3) (dBin .pow (dCon (.int 10)) (dCon (.int 15)))) dNil))) (dCons (dVar 4) (dCons (dCon (.int 0)) dNil))))) sNil))))⟩ (callF Dd n) ws S := rfl
/-- _law_roll -/
theorem u22 (n : Nat) (ws : List W) (S : Sto) : callF Dd (n + 1) 22 ws S = runDef ⟨2, 5, (sSeq (dIf (dCmp .gt (dIdx (dVar 0) (dCon (.int 0))) (dCon (.int 0))) (sSeq (sAsg (aTp 2 (aCons (aSub (dVar 0) (dCon (.int 0))) (aCons (aNm 2) aNil))) (dBlt .divmod (dCons (dIdx (dVar 0) (dCon (.int 0))) (dCons (dVar 1) dNil)))) (sSeq (sRet (dBlt .int (dCons (dVar 2) dNil))) sNil)) sNil) (sSeq (sAsg (aSub (dVar 0) (dCon (.int 2))) (dBin .add (dIdx (dVar 0) (dCon (.int 2))) (dCon (.int 1)))) (sSeq (sAsg (aNm 3) (dBin .mod (dBin .add (dIdx (dVar 0) (dCon (.int 1))) (dBin .mul (dCon (.int 67867967)) (dIdx (dVar 0) (dCon (.int 2))))) (dCon (.int 2305843009213693613)))) (sSeq (sAsg (aNm 4) (dBin .add (dBin .mul (dBin .mod (dBin .add (dBin .mul (dVar 3) (dVar 3)) (dBin .mul (dCon (.int 211)) (dIdx (dVar 0) (dCon (.int 2))))) (dCon (.int 2305843009213693487))) (dCon (.int 49979693))) (dVar 3))) (sSeq (sRet (dBin .mod (dBlt .int (dCons (dBin .fdiv (dVar 4) (dCon (.int 70001))) dNil)) (dVar 1))) sNil)))))⟩ (callF Dd n) ws S := rfl
/-- _law_pick -/
theorem u23 (n : Nat) (ws : List W) (S : Sto) : callF Dd (n + 1) 23 ws S = runDef ⟨2, 2, (sSeq (sRet (dIdx (dVar 1) (dCall 22 (dCons (dVar 0) (dCons (dBlt .len (dCons (dVar 1) dNil)) dNil))))) sNil)⟩ (callF Dd n) ws S := rfl
/-- _law_dd_page -/
theorem u24 (n : Nat) (ws : List W) (S : Sto) : callF Dd (n + 1) 24 ws S = runDef ⟨2, 5, (sSeq (sAsg (aNm 2) (dLst dNil)) (sSeq (sFor (dItRng (dCon (.int 8))) (aNm 3) (sSeq (sAsg (aTp 2 (aCons (aNm 1) (aCons (aNm 4) aNil))) (dBlt .divmod (dCons (dVar 1) (dCons (dVar 0) dNil)))) (sSeq (sExp (dMet .append (dVar 2) (dCons (dVar 4) dNil))) sNil))) (sSeq (sRet (dBlt .tuple (dCons (dVar 2) dNil))) sNil)))⟩ (callF Dd n) ws S := rfl
/-- _law_dd_worth -/
theorem u25 (n : Nat) (ws : List W) (S : Sto) : callF Dd (n + 1) 25 ws S = runDef ⟨2, 4, (sSeq (sAsg (aNm 2) (dCon (.int 0))) (sSeq (sFor (dItSeq (dRev (dVar 1))) (aNm 3) (sSeq (sAsg (aNm 2) (dBin .add (dBin .mul (dVar 2) (dVar 0)) (dVar 3))) sNil)) (sSeq (sRet (dVar 2)) sNil)))⟩ (callF Dd n) ws S := rfl
/-- _law_pages_right -/
theorem u26 (n : Nat) (ws : List W) (S : Sto) : callF Dd (n + 1) 26 ws S = runDef ⟨2, 9, (sSeq (sAsg (aNm 2) (dBlt .tuple (dCons (dLc [3] (dItRng (dCon (.int 8))) (aNm 3) (dBool true) (dCall 22 (dCons (dVar 0) (dCons (dCall 23 (dCons (dVar 0) (dCons (dLst (dCons (dVar 1) (dCons (dCon (.int 2)) (dCons (dCon (.int 1)) dNil)))) dNil))) dNil)))) dNil))) (sSeq (sPar [4, 5, 6] (dCons (dCall 25 (dCons (dVar 1) (dCons (dVar 2) dNil))) (dCons (dCall 22 (dCons (dVar 0) (dCons (dCon (.int 8)) dNil))) (dCons (dCall 22 (dCons (dVar 0) (dCons (dVar 1) dNil))) dNil)))) (sSeq (dIf (dIf (dCmp .ne (dCall 11 (dCons (dVar 1) (dCons (dVar 2) dNil))) (dVar 4)) (dBool true) (dIf (dCmp .ne (dCall 13 (dCons (dVar 1) (dCons (dVar 4) dNil))) (dVar 2)) (dBool true) (dCmp .isn (dCall 8 (dCons (dVar 1) (dCons (dVar 2) dNil))) (dCon (.bl true))))) (sSeq (sRet (dCon (.bl false))) sNil) sNil) (sSeq (dIf (dCmp .ne (dCall 14 (dCons (dVar 1) (dCons (dVar 4) (dCons (dVar 5) dNil)))) (dIdx (dVar 2) (dVar 5))) (sSeq (sRet (dCon (.bl false))) sNil) sNil) (sSeq (sAsg (aNm 7) (dBin .add (dBin .add (dSlc (dVar 2) dNoPart (dPart (dVar 5))) (dTup (dCons (dVar 6) dNil))) (dSlc (dVar 2) (dPart (dBin .add (dVar 5) (dCon (.int 1)))) dNoPart))) (sSeq (dIf (dCmp .ne (dCall 15 (dCons (dVar 1) (dCons (dVar 4) (dCons (dVar 5) (dCons (dVar 6) dNil))))) (dCall 25 (dCons (dVar 1) (dCons (dVar 7) dNil)))) (sSeq (sRet (dCon (.bl false))) sNil) sNil) (sSeq (sAsg (aNm 8) (dBin .add (dBin .mul (dCall 22 (dCons (dVar 0) (dCons (dBin .pow (dVar 1) (dCon (.int 4))) dNil))) (dBin .pow (dVar 1) (dCon (.int 4)))) (dCall 22 (dCons (dVar 0) (dCons (dBin .pow (dVar 1) (dCon (.int 4))) dNil))))) (sSeq (dIf (dIf (dCmp .ne (dCall 13 (dCons (dVar 1) (dCons (dVar 8) dNil))) (dCall 24 (dCons (dVar 1) (dCons (dVar 8) dNil)))) (dBool true) (dCmp .ne (dCall 11 (dCons (dVar 1) (dCons (dCall 13 (dCons (dVar 1) (dCons (dVar 8) dNil))) dNil))) (dVar 8))) (sSeq (sRet (dCon (.bl false))) sNil) sNil) (sSeq (sRet (dBl (dCmp .eq (dBl (dCmp .lt (dVar 4) (dCall 25 (dCons (dVar 1) (dCons (dVar 7) dNil))))) (dBl (dCmp .lt (dRev (dVar 2)) (dRev (dVar 7))))))) sNil)))))))))⟩ (callF Dd n) ws S := rfl
/-- _law_values_right -/
theorem u27 (n : Nat) (ws : List W) (S : Sto) : callF Dd (n + 1) 27 ws S = runDef ⟨2, 8, (sSeq (sAsg (aNm 2) (dBlt .tuple (dCons (dLc [3] (dItRng (dCon (.int 8))) (aNm 3) (dBool true) (dCall 22 (dCons (dVar 0) (dCons (dVar 1) dNil)))) dNil))) (sSeq (sAsg (aNm 4) (dCall 22 (dCons (dVar 0) (dCons (dCon (.int 8)) dNil)))) (sSeq (sAsg (aNm 5) (dLst (dCons (dBlt .list (dCons (dVar 2) dNil)) (dCons (dSlc (dVar 2) dNoPart (dPart (dCon (.int 7)))) (dCons (dBin .add (dVar 2) (dTup (dCons (dCon (.int 0)) dNil))) (dCons (dCon .non) (dCons (dTup dNil) (dCons (dCon (.int 0)) (dCons (dCon (.str "page")) (dCons dDct0 (dCons (dBlt .tuple (dCons (dBin .mul (dLst (dCons (dCon .non) dNil)) (dCon (.int 8))) dNil)) (dCons (dCall 25 (dCons (dVar 1) (dCons (dVar 2) dNil))) dNil)))))))))))) (sSeq (sFor (dItSeq (dTup (dCons (dVar 1) (dCons (dNeg (dCon (.int 1))) (dCons (dCon .non) (dCons (dCon (.bl true)) (dCons (dCon (.str "0")) (dCons (dTup (dCons (dCon (.int 0)) dNil)) (dCons (dBin .add (dVar 1) (dCon (.int 7))) dNil))))))))) (aNm 6) (sSeq (sExp (dMet .append (dVar 5) (dCons (dBin .add (dBin .add (dSlc (dVar 2) dNoPart (dPart (dVar 4))) (dTup (dCons (dVar 6) dNil))) (dSlc (dVar 2) (dPart (dBin .add (dVar 4) (dCon (.int 1)))) dNoPart)) dNil))) sNil)) (sSeq (sRet (dBl (dCmp .eq (dLc [7] (dItSeq (dVar 5)) (aNm 7) (dCmp .isn (dCall 8 (dCons (dVar 1) (dCons (dVar 7) dNil))) (dCon (.bl false))) (dVar 7)) (dLst dNil)))) sNil)))))⟩ (callF Dd n) ws S := rfl
/-- _law_rows_right -/
theorem u28 (n : Nat) (ws : List W) (S : Sto) : callF Dd (n + 1) 28 ws S = runDef ⟨2, 15, (sSeq (sAsg (aNm 2) (dCall 22 (dCons (dVar 0) (dCons (dCon (.int 5)) dNil)))) (sSeq (sAsg (aNm 3) (dLc [4] (dItRng (dVar 2)) (aNm 4) (dBool true) (dCall 22 (dCons (dVar 0) (dCons (dBin .pow (dVar 1) (dCon (.int 8))) dNil))))) (sSeq (sAsg (aNm 5) (dBlt .list (dCons (dVar 3) dNil))) (sSeq (sFor (dItRng (dIf (dCmp .gt (dVar 2) (dCon (.int 0))) (dCall 22 (dCons (dVar 0) (dCons (dCon (.int 3)) dNil))) (dCon (.int 0)))) (aNm 4) (sSeq (sAsg (aTp 2 (aCons (aNm 6) (aCons (aNm 7) aNil))) (dTup (dCons (dCall 22 (dCons (dVar 0) (dCons (dVar 2) dNil))) (dCons (dCall 22 (dCons (dVar 0) (dCons (dCon (.int 8)) dNil))) dNil)))) (sSeq (sAsg (aNm 8) (dCall 24 (dCons (dVar 1) (dCons (dIdx (dVar 5) (dVar 6)) dNil)))) (sSeq (sAsg (aSub (dVar 5) (dVar 6)) (dCall 25 (dCons (dVar 1) (dCons (dBin .add (dBin .add (dSlc (dVar 8) dNoPart (dPart (dVar 7))) (dTup (dCons (dCall 22 (dCons (dVar 0) (dCons (dVar 1) dNil))) dNil))) (dSlc (dVar 8) (dPart (dBin .add (dVar 7) (dCon (.int 1)))) dNoPart)) dNil)))) sNil)))) (sSeq (sAsg (aNm 9) (dLc [10] (dItSeq (dVar 3)) (aNm 10) (dBool true) (dCall 24 (dCons (dVar 1) (dCons (dVar 10) dNil))))) (sSeq (sAsg (aTp 2 (aCons (aNm 11) (aCons (aNm 12) aNil))) (dTup (dCons (dLc [10] (dItSeq (dVar 5)) (aNm 10) (dBool true) (dCall 24 (dCons (dVar 1) (dCons (dVar 10) dNil)))) (dCons (dLst dNil) dNil)))) (sSeq (sFor (dItRng (dVar 2)) (aNm 6) (sSeq (sAsg (aNm 12) (dBin .add (dVar 12) (dLc [7] (dItRng (dCon (.int 8))) (aNm 7) (dCmp .ne (dIdx (dIdx (dVar 9) (dVar 6)) (dVar 7)) (dIdx (dIdx (dVar 11) (dVar 6)) (dVar 7))) (dTup (dCons (dVar 6) (dCons (dVar 7) dNil)))))) sNil)) (sSeq (dIf (dIf (dCmp .ne (dCall 19 (dCons (dVar 1) (dCons (dBlt .tuple (dCons (dVar 3) dNil)) dNil))) (dBlt .tuple (dCons (dVar 9) dNil))) (dBool true) (dCmp .ne (dCall 20 (dCons (dVar 1) (dCons (dBlt .tuple (dCons (dVar 3) dNil)) (dCons (dBlt .tuple (dCons (dVar 5) dNil)) dNil)))) (dBlt .tuple (dCons (dVar 12) dNil)))) (sSeq (sRet (dCon (.bl false))) sNil) sNil) (sSeq (sPar [13, 14] (dCons (dBin .add (dCon (.int 1)) (dCall 22 (dCons (dVar 0) (dCons (dCon (.int 200)) dNil)))) (dCons (dBin .add (dCon (.int 1)) (dCall 22 (dCons (dVar 0) (dCons (dCon (.int 20000)) dNil)))) dNil))) (sSeq (sRet (dBl (dCmp .eq (dCall 17 (dCons (dVar 1) (dCons (dVar 13) (dCons (dVar 14) dNil)))) (dTup (dCons (dVar 13) (dCons (dBin .pow (dVar 1) (dCon (.int 8))) (dCons (dVar 14) dNil))))))) sNil))))))))))⟩ (callF Dd n) ws S := rfl
/-- law -/
theorem u29 (n : Nat) (ws : List W) (S : Sto) : callF Dd (n + 1) 29 ws S = runDef ⟨1, 5, (sSeq (dIf (dCmp .ne (dCon (.int 8)) (dCon (.int 8))) (sSeq (sRet (dCon (.bl false))) sNil) sNil) (sSeq (sFor (dItRng (dBlt .max2 (dCons (dCon (.int 1)) (dCons (dBlt .min2 (dCons (dCon (.int 5)) (dCons (dBlt .len (dCons (dVar 0) dNil)) dNil))) dNil)))) (aNm 1) (sSeq (sAsg (aNm 2) (dCall 21 (dCons (dVar 0) (dCons (dVar 1) dNil)))) (sSeq (sFor (dItRng (dCon (.int 4))) (aNm 3) (sSeq (sAsg (aNm 4) (dCall 23 (dCons (dVar 2) (dCons (dLst (dCons (dCon (.int 2)) (dCons (dCon (.int 3)) (dCons (dCon (.int 8)) (dCons (dCon (.int 10)) (dCons (dCon (.int 16)) (dCons (dCon (.int 97)) (dCons (dCon (.int 999)) (dCons (dCon (.int 1000)) dNil))))))))) dNil)))) (sSeq (dIf (dIf (dNotT (dTru (dCall 26 (dCons (dVar 2) (dCons (dVar 4) dNil))))) (dBool true) (dIf (dNotT (dTru (dCall 27 (dCons (dVar 2) (dCons (dVar 4) dNil))))) (dBool true) (dNotT (dTru (dCall 28 (dCons (dVar 2) (dCons (dVar 4) dNil))))))) (sSeq (sRet (dCon (.bl false))) sNil) sNil) sNil))) sNil))) (sSeq (sRet (dCon (.bl true))) sNil)))⟩ (callF Dd n) ws S := rfl
end L59
set_option autoImplicit false
set_option Elab.async false
set_option linter.all false
set_option maxRecDepth 100000
set_option maxHeartbeats 4000000
namespace L59
open PySem Pv
theorem eq_of {α : Type} {r : R α} {a : α} {S : Sto} (h : Wp r (fun v S' => v = a ∧ S' = S) E0) : r = .ok a S := by
  obtain ⟨v, S', e, rfl, rfl⟩ := h.ok0
  exact e
theorem eq_ofB {α : Type} {r : R α} {a : α} {S : Sto} (h : Wp r (fun v S' => v = a ∧ S' = S) E0) : r = .ok a S := eq_of h
theorem log_lt {m k : Nat} (h : m < 2 ^ k) (hk : 0 < k) : m.log2 < k := by
  by_cases h0 : m = 0
  · subst h0; exact hk
  · exact (Nat.log2_lt h0).mpr h
theorem chk_app {chk : List (Nat × List W)} {S more : Sto} (h : chkOk chk S = true) : chkOk chk (S ++ more) = true := by
  unfold chkOk at h ⊢
  rw [List.all_eq_true] at h ⊢
  intro p hp
  have := h p hp
  split at this
  · rename_i ws e
    rw [List.getElem?_append_left (List.getElem?_eq_some_iff.mp e).1, e]
    exact this
  · cases this
/-- a comprehension whose items do nothing but make new things -/
theorem lc_grow {chk : List (Nat × List W)} {j : Nat} {e : Dn W} {cl : CL} {env : En} {f : W → W} : ∀ (items acc : List W) (S : Sto), chkOk chk S = true → acc.length + items.length ≤ lim → (∀ w ∈ items, ∀ S' : Sto, (∃ m, S' = S ++ m) → ∃ m, e cl (env.set j (some w)) S' = .ok (f w) (S' ++ m)) →
    ∃ m, lcLoop chk (aNm j) (dBool true) e cl env items acc S = .ok (acc ++ items.map f) (S ++ m)
  | [], acc, S, hc, _, _ => ⟨[], by rw [lcLoop, if_pos hc, List.map_nil, List.append_nil, List.append_nil]⟩
  | w :: items, acc, S, hc, hl, h => by
    obtain ⟨m, e1⟩ := h w (by simp) S ⟨[], by simp⟩
    obtain ⟨m2, e2⟩ := lc_grow (f := f) (e := e) items (acc ++ [f w]) (S ++ m) (chk_app hc) (by simp at hl ⊢; omega) (fun w' hw S' ⟨m', hm'⟩ => h w' (by simp [hw]) S' ⟨m ++ m', by rw [hm', List.append_assoc]⟩)
    refine ⟨m ++ m2, ?_⟩
    rw [lcLoop, if_pos hc]
    show ((e cl (env.set j (some w)) S).bind fun y S3 => if acc.length < lim then lcLoop chk (aNm j) (dBool true) e cl env items (acc ++ [y]) S3 else .no) = _
    rw [e1]
    show (if acc.length < lim then lcLoop chk (aNm j) (dBool true) e cl env items (acc ++ [f w]) (S ++ m) else .no) = _
    rw [if_pos (by simp at hl; omega), e2, List.map_cons, List.append_assoc, List.append_assoc]
    rfl
/-! ### counts -/
def cntB (a b : Int) : W → Bool
  | .int i => decide (a ≤ i) && decide (i ≤ b)
  | _ => false
theorem f0_any (n : Nat) (w : W) (S : Sto) (h : (kindW S w).isSome = true) : callF Dd (n + 1) 0 [w] S = .ok (.bl (match w with
  | .int _ => true
  | _ => false)) S := by
  cases w with
  | non => rfl
  | bl b => rfl
  | int i => rfl
  | str x => rfl
  | tup ws => rfl
  | frl ws => cases h
  | glo g => cases h
  | ref r =>
    apply eq_of
    rw [u0]
    simp -implicitDefEqProofs -dsimp only [Wp_ok, Wp_no, Wp_er, Wp_bind, Wp_some, Wp_none, Wp_guard, Wp_iteB, runDef, dSeq2, dVar, dCon, dNil, dCons, dStar, dTup, dLst, dDct0, dBin, dNeg, dTru, dIf, dNotT, dBl, dBool, dAnd, dOr, dCmp, dCmp2, dIdx, dNoPart, dPart, dSlc, dRev, dCall, dBlt, dMet, dIsi, aNm, aSub, dItSeq, dItRng, dItRng2, dItEnu, dItZip, dItEnz, dNo, sExp, sAsg, setAll, sPar, sAug, sRet, sSeq, sNil, sCnt, sFor, wipeE, new, mtTy, tyHas, List.map_cons, List.map_nil, List.length_cons, List.length_nil, List.length_map, Nat.zero_add, Nat.add_zero, Nat.reduceAdd, Nat.reduceSub, Nat.reduceMul, Nat.reduceLeDiff, Nat.reduceEqDiff, List.replicate_succ, List.replicate_zero, List.cons_append, List.nil_append, List.append_nil, List.getElem?_cons_zero, List.getElem?_cons_succ, List.getElem?_nil, List.set_cons_zero, List.set_cons_succ, if_true, if_false, ite_true, ite_false, Bool.false_eq_true, Bool.not_true, Bool.not_false, Option.map_some, Option.map_none, reduceCtorEq, beq_self_eq_true, Nat.reduceBEq, Bool.or_true, Bool.or_false, Bool.true_or, Bool.false_or, Bool.and_true, Bool.and_false, Bool.true_and, Bool.false_and, reduceIte, decide_true, decide_false, lenLim, true_and, e_addi, e_adds, e_addt, e_addl, e_subi, e_muli, e_mult, e_mull, e_fdiv, e_mod, e_pow, e_neg, e_eq, e_ne, e_lti, e_ltt, e_lei, e_gti, e_gei, e_isn0, e_isb, e_isnn, e_isnb, e_in, e_nin, e_ixt, e_ixf, e_ixr, e_sqt, e_sqf, e_sqr, e_slt, e_slr, e_rvt, e_rvr, e_lnt, e_lnf, e_lns, e_lnr, e_len, e_tuple, e_list, e_inti, e_intb, e_abs, e_divmod, e_min2, e_max2, e_all, e_any, e_app, e_ext, e_rec, e_isnk, e_isbk, e_isik, e_issk, e_istk, e_isrk, e_tn, e_tb, e_ti, e_tt, e_tf, e_tr, e_sit, e_sif, e_sir, e_part, e_augA, e_augS, e_nn, e_nnb, e_nni, e_nns, e_nnt, e_nnf, e_nnr, e_tp, e_acons, e_anil]
    simp only [kindW] at h
    split at h
    · rename_i ws e
      simp only [e, Wp, Wp_ok, Wp_no, Wp_er, Wp_bind, Wp_some, Wp_none, Wp_guard, Wp_iteB, runDef, dSeq2, dVar, dCon, dNil, dCons, dStar, dTup, dLst, dDct0, dBin, dNeg, dTru, dIf, dNotT, dBl, dBool, dAnd, dOr, dCmp, dCmp2, dIdx, dNoPart, dPart, dSlc, dRev, dCall, dBlt, dMet, dIsi, aNm, aSub, dItSeq, dItRng, dItRng2, dItEnu, dItZip, dItEnz, dNo, sExp, sAsg, setAll, sPar, sAug, sRet, sSeq, sNil, sCnt, sFor, wipeE, new, mtTy, tyHas, List.map_cons, List.map_nil, List.length_cons, List.length_nil, List.length_map, Nat.zero_add, Nat.add_zero, Nat.reduceAdd, Nat.reduceSub, Nat.reduceMul, Nat.reduceLeDiff, Nat.reduceEqDiff, List.replicate_succ, List.replicate_zero, List.cons_append, List.nil_append, List.append_nil, List.getElem?_cons_zero, List.getElem?_cons_succ, List.getElem?_nil, List.set_cons_zero, List.set_cons_succ, if_true, if_false, ite_true, ite_false, Bool.false_eq_true, Bool.not_true, Bool.not_false, Option.map_some, Option.map_none, reduceCtorEq, beq_self_eq_true, Nat.reduceBEq, Bool.or_true, Bool.or_false, Bool.true_or, Bool.false_or, Bool.and_true, Bool.and_false, Bool.true_and, Bool.false_and, reduceIte, decide_true, decide_false, lenLim, true_and, e_addi, e_adds, e_addt, e_addl, e_subi, e_muli, e_mult, e_mull, e_fdiv, e_mod, e_pow, e_neg, e_eq, e_ne, e_lti, e_ltt, e_lei, e_gti, e_gei, e_isn0, e_isb, e_isnn, e_isnb, e_in, e_nin, e_ixt, e_ixf, e_ixr, e_sqt, e_sqf, e_sqr, e_slt, e_slr, e_rvt, e_rvr, e_lnt, e_lnf, e_lns, e_lnr, e_len, e_tuple, e_list, e_inti, e_intb, e_abs, e_divmod, e_min2, e_max2, e_all, e_any, e_app, e_ext, e_rec, e_isnk, e_isbk, e_isik, e_issk, e_istk, e_isrk, e_tn, e_tb, e_ti, e_tt, e_tf, e_tr, e_sit, e_sif, e_sir, e_part, e_augA, e_augS, e_nn, e_nnb, e_nni, e_nns, e_nnt, e_nnf, e_nnr, e_tp, e_acons, e_anil]
      try simp [Wp, tyHas]
    · rename_i ws e
      simp only [e, Wp, Wp_ok, Wp_no, Wp_er, Wp_bind, Wp_some, Wp_none, Wp_guard, Wp_iteB, runDef, dSeq2, dVar, dCon, dNil, dCons, dStar, dTup, dLst, dDct0, dBin, dNeg, dTru, dIf, dNotT, dBl, dBool, dAnd, dOr, dCmp, dCmp2, dIdx, dNoPart, dPart, dSlc, dRev, dCall, dBlt, dMet, dIsi, aNm, aSub, dItSeq, dItRng, dItRng2, dItEnu, dItZip, dItEnz, dNo, sExp, sAsg, setAll, sPar, sAug, sRet, sSeq, sNil, sCnt, sFor, wipeE, new, mtTy, tyHas, List.map_cons, List.map_nil, List.length_cons, List.length_nil, List.length_map, Nat.zero_add, Nat.add_zero, Nat.reduceAdd, Nat.reduceSub, Nat.reduceMul, Nat.reduceLeDiff, Nat.reduceEqDiff, List.replicate_succ, List.replicate_zero, List.cons_append, List.nil_append, List.append_nil, List.getElem?_cons_zero, List.getElem?_cons_succ, List.getElem?_nil, List.set_cons_zero, List.set_cons_succ, if_true, if_false, ite_true, ite_false, Bool.false_eq_true, Bool.not_true, Bool.not_false, Option.map_some, Option.map_none, reduceCtorEq, beq_self_eq_true, Nat.reduceBEq, Bool.or_true, Bool.or_false, Bool.true_or, Bool.false_or, Bool.and_true, Bool.and_false, Bool.true_and, Bool.false_and, reduceIte, decide_true, decide_false, lenLim, true_and, e_addi, e_adds, e_addt, e_addl, e_subi, e_muli, e_mult, e_mull, e_fdiv, e_mod, e_pow, e_neg, e_eq, e_ne, e_lti, e_ltt, e_lei, e_gti, e_gei, e_isn0, e_isb, e_isnn, e_isnb, e_in, e_nin, e_ixt, e_ixf, e_ixr, e_sqt, e_sqf, e_sqr, e_slt, e_slr, e_rvt, e_rvr, e_lnt, e_lnf, e_lns, e_lnr, e_len, e_tuple, e_list, e_inti, e_intb, e_abs, e_divmod, e_min2, e_max2, e_all, e_any, e_app, e_ext, e_rec, e_isnk, e_isbk, e_isik, e_issk, e_istk, e_isrk, e_tn, e_tb, e_ti, e_tt, e_tf, e_tr, e_sit, e_sif, e_sir, e_part, e_augA, e_augS, e_nn, e_nnb, e_nni, e_nns, e_nnt, e_nnf, e_nnr, e_tp, e_acons, e_anil]
      try simp [Wp, tyHas]
    · cases h
theorem f1_any (n : Nat) (w : W) (a b : Int) (S : Sto) (h : (kindW S w).isSome = true) : callF Dd (n + 2) 1 [w, .int a, .int b] S = .ok (.bl (cntB a b w)) S := by
  apply eq_of
  rw [u1]
  simp -implicitDefEqProofs -dsimp only [Wp_ok, Wp_no, Wp_er, Wp_bind, Wp_some, Wp_none, Wp_guard, Wp_iteB, runDef, dSeq2, dVar, dCon, dNil, dCons, dStar, dTup, dLst, dDct0, dBin, dNeg, dTru, dIf, dNotT, dBl, dBool, dAnd, dOr, dCmp, dCmp2, dIdx, dNoPart, dPart, dSlc, dRev, dCall, dBlt, dMet, dIsi, aNm, aSub, dItSeq, dItRng, dItRng2, dItEnu, dItZip, dItEnz, dNo, sExp, sAsg, setAll, sPar, sAug, sRet, sSeq, sNil, sCnt, sFor, wipeE, new, mtTy, tyHas, List.map_cons, List.map_nil, List.length_cons, List.length_nil, List.length_map, Nat.zero_add, Nat.add_zero, Nat.reduceAdd, Nat.reduceSub, Nat.reduceMul, Nat.reduceLeDiff, Nat.reduceEqDiff, List.replicate_succ, List.replicate_zero, List.cons_append, List.nil_append, List.append_nil, List.getElem?_cons_zero, List.getElem?_cons_succ, List.getElem?_nil, List.set_cons_zero, List.set_cons_succ, if_true, if_false, ite_true, ite_false, Bool.false_eq_true, Bool.not_true, Bool.not_false, Option.map_some, Option.map_none, reduceCtorEq, beq_self_eq_true, Nat.reduceBEq, Bool.or_true, Bool.or_false, Bool.true_or, Bool.false_or, Bool.and_true, Bool.and_false, Bool.true_and, Bool.false_and, reduceIte, decide_true, decide_false, lenLim, true_and, e_addi, e_adds, e_addt, e_addl, e_subi, e_muli, e_mult, e_mull, e_fdiv, e_mod, e_pow, e_neg, e_eq, e_ne, e_lti, e_ltt, e_lei, e_gti, e_gei, e_isn0, e_isb, e_isnn, e_isnb, e_in, e_nin, e_ixt, e_ixf, e_ixr, e_sqt, e_sqf, e_sqr, e_slt, e_slr, e_rvt, e_rvr, e_lnt, e_lnf, e_lns, e_lnr, e_len, e_tuple, e_list, e_inti, e_intb, e_abs, e_divmod, e_min2, e_max2, e_all, e_any, e_app, e_ext, e_rec, e_isnk, e_isbk, e_isik, e_issk, e_istk, e_isrk, e_tn, e_tb, e_ti, e_tt, e_tf, e_tr, e_sit, e_sif, e_sir, e_part, e_augA, e_augS, e_nn, e_nnb, e_nni, e_nns, e_nnt, e_nnf, e_nnr, e_tp, e_acons, e_anil, f0_any n w S h]
  cases w with
  | int i =>
    simp -implicitDefEqProofs -dsimp only [Wp_ok, Wp_no, Wp_er, Wp_bind, Wp_some, Wp_none, Wp_guard, Wp_iteB, runDef, dSeq2, dVar, dCon, dNil, dCons, dStar, dTup, dLst, dDct0, dBin, dNeg, dTru, dIf, dNotT, dBl, dBool, dAnd, dOr, dCmp, dCmp2, dIdx, dNoPart, dPart, dSlc, dRev, dCall, dBlt, dMet, dIsi, aNm, aSub, dItSeq, dItRng, dItRng2, dItEnu, dItZip, dItEnz, dNo, sExp, sAsg, setAll, sPar, sAug, sRet, sSeq, sNil, sCnt, sFor, wipeE, new, mtTy, tyHas, List.map_cons, List.map_nil, List.length_cons, List.length_nil, List.length_map, Nat.zero_add, Nat.add_zero, Nat.reduceAdd, Nat.reduceSub, Nat.reduceMul, Nat.reduceLeDiff, Nat.reduceEqDiff, List.replicate_succ, List.replicate_zero, List.cons_append, List.nil_append, List.append_nil, List.getElem?_cons_zero, List.getElem?_cons_succ, List.getElem?_nil, List.set_cons_zero, List.set_cons_succ, if_true, if_false, ite_true, ite_false, Bool.false_eq_true, Bool.not_true, Bool.not_false, Option.map_some, Option.map_none, reduceCtorEq, beq_self_eq_true, Nat.reduceBEq, Bool.or_true, Bool.or_false, Bool.true_or, Bool.false_or, Bool.and_true, Bool.and_false, Bool.true_and, Bool.false_and, reduceIte, decide_true, decide_false, lenLim, true_and, e_addi, e_adds, e_addt, e_addl, e_subi, e_muli, e_mult, e_mull, e_fdiv, e_mod, e_pow, e_neg, e_eq, e_ne, e_lti, e_ltt, e_lei, e_gti, e_gei, e_isn0, e_isb, e_isnn, e_isnb, e_in, e_nin, e_ixt, e_ixf, e_ixr, e_sqt, e_sqf, e_sqr, e_slt, e_slr, e_rvt, e_rvr, e_lnt, e_lnf, e_lns, e_lnr, e_len, e_tuple, e_list, e_inti, e_intb, e_abs, e_divmod, e_min2, e_max2, e_all, e_any, e_app, e_ext, e_rec, e_isnk, e_isbk, e_isik, e_issk, e_istk, e_isrk, e_tn, e_tb, e_ti, e_tt, e_tf, e_tr, e_sit, e_sif, e_sir, e_part, e_augA, e_augS, e_nn, e_nnb, e_nni, e_nns, e_nnt, e_nnf, e_nnr, e_tp, e_acons, e_anil, cntB]
    by_cases h : a ≤ i <;> simp [h]
  | _ => simp [cntB, Wp]
theorem f2_ok (n : Nat) (i a b : Int) (S : Sto) (h1 : a ≤ i) (h2 : i ≤ b) : callF Dd (n + 3) 2 [.int i, .int a, .int b] S = .ok (.int i) S := by
  apply eq_of
  rw [u2]
  simp -implicitDefEqProofs -dsimp only [Wp_ok, Wp_no, Wp_er, Wp_bind, Wp_some, Wp_none, Wp_guard, Wp_iteB, runDef, dSeq2, dVar, dCon, dNil, dCons, dStar, dTup, dLst, dDct0, dBin, dNeg, dTru, dIf, dNotT, dBl, dBool, dAnd, dOr, dCmp, dCmp2, dIdx, dNoPart, dPart, dSlc, dRev, dCall, dBlt, dMet, dIsi, aNm, aSub, dItSeq, dItRng, dItRng2, dItEnu, dItZip, dItEnz, dNo, sExp, sAsg, setAll, sPar, sAug, sRet, sSeq, sNil, sCnt, sFor, wipeE, new, mtTy, tyHas, List.map_cons, List.map_nil, List.length_cons, List.length_nil, List.length_map, Nat.zero_add, Nat.add_zero, Nat.reduceAdd, Nat.reduceSub, Nat.reduceMul, Nat.reduceLeDiff, Nat.reduceEqDiff, List.replicate_succ, List.replicate_zero, List.cons_append, List.nil_append, List.append_nil, List.getElem?_cons_zero, List.getElem?_cons_succ, List.getElem?_nil, List.set_cons_zero, List.set_cons_succ, if_true, if_false, ite_true, ite_false, Bool.false_eq_true, Bool.not_true, Bool.not_false, Option.map_some, Option.map_none, reduceCtorEq, beq_self_eq_true, Nat.reduceBEq, Bool.or_true, Bool.or_false, Bool.true_or, Bool.false_or, Bool.and_true, Bool.and_false, Bool.true_and, Bool.false_and, reduceIte, decide_true, decide_false, lenLim, true_and, e_addi, e_adds, e_addt, e_addl, e_subi, e_muli, e_mult, e_mull, e_fdiv, e_mod, e_pow, e_neg, e_eq, e_ne, e_lti, e_ltt, e_lei, e_gti, e_gei, e_isn0, e_isb, e_isnn, e_isnb, e_in, e_nin, e_ixt, e_ixf, e_ixr, e_sqt, e_sqf, e_sqr, e_slt, e_slr, e_rvt, e_rvr, e_lnt, e_lnf, e_lns, e_lnr, e_len, e_tuple, e_list, e_inti, e_intb, e_abs, e_divmod, e_min2, e_max2, e_all, e_any, e_app, e_ext, e_rec, e_isnk, e_isbk, e_isik, e_issk, e_istk, e_isrk, e_tn, e_tb, e_ti, e_tt, e_tf, e_tr, e_sit, e_sif, e_sir, e_part, e_augA, e_augS, e_nn, e_nnb, e_nni, e_nns, e_nnt, e_nnf, e_nnr, e_tp, e_acons, e_anil, f1_any n (.int i) a b S rfl]
  simp [cntB, h1, h2, Wp]
theorem f5_ok (n : Nat) (b : Int) (S : Sto) (h1 : 2 ≤ b) (h2 : b ≤ 1000) : callF Dd (n + 4) 5 [.int b] S = .ok (.int b) S := by
  apply eq_of
  rw [u5]
  simp -implicitDefEqProofs -dsimp only [Wp_ok, Wp_no, Wp_er, Wp_bind, Wp_some, Wp_none, Wp_guard, Wp_iteB, runDef, dSeq2, dVar, dCon, dNil, dCons, dStar, dTup, dLst, dDct0, dBin, dNeg, dTru, dIf, dNotT, dBl, dBool, dAnd, dOr, dCmp, dCmp2, dIdx, dNoPart, dPart, dSlc, dRev, dCall, dBlt, dMet, dIsi, aNm, aSub, dItSeq, dItRng, dItRng2, dItEnu, dItZip, dItEnz, dNo, sExp, sAsg, setAll, sPar, sAug, sRet, sSeq, sNil, sCnt, sFor, wipeE, new, mtTy, tyHas, List.map_cons, List.map_nil, List.length_cons, List.length_nil, List.length_map, Nat.zero_add, Nat.add_zero, Nat.reduceAdd, Nat.reduceSub, Nat.reduceMul, Nat.reduceLeDiff, Nat.reduceEqDiff, List.replicate_succ, List.replicate_zero, List.cons_append, List.nil_append, List.append_nil, List.getElem?_cons_zero, List.getElem?_cons_succ, List.getElem?_nil, List.set_cons_zero, List.set_cons_succ, if_true, if_false, ite_true, ite_false, Bool.false_eq_true, Bool.not_true, Bool.not_false, Option.map_some, Option.map_none, reduceCtorEq, beq_self_eq_true, Nat.reduceBEq, Bool.or_true, Bool.or_false, Bool.true_or, Bool.false_or, Bool.and_true, Bool.and_false, Bool.true_and, Bool.false_and, reduceIte, decide_true, decide_false, lenLim, true_and, e_addi, e_adds, e_addt, e_addl, e_subi, e_muli, e_mult, e_mull, e_fdiv, e_mod, e_pow, e_neg, e_eq, e_ne, e_lti, e_ltt, e_lei, e_gti, e_gei, e_isn0, e_isb, e_isnn, e_isnb, e_in, e_nin, e_ixt, e_ixf, e_ixr, e_sqt, e_sqf, e_sqr, e_slt, e_slr, e_rvt, e_rvr, e_lnt, e_lnf, e_lns, e_lnr, e_len, e_tuple, e_list, e_inti, e_intb, e_abs, e_divmod, e_min2, e_max2, e_all, e_any, e_app, e_ext, e_rec, e_isnk, e_isbk, e_isik, e_issk, e_istk, e_isrk, e_tn, e_tb, e_ti, e_tt, e_tf, e_tr, e_sit, e_sif, e_sir, e_part, e_augA, e_augS, e_nn, e_nnb, e_nni, e_nns, e_nnt, e_nnf, e_nnr, e_tp, e_acons, e_anil, f2_ok n b 2 1000 S h1 h2]
  try simp
def rng8 : List W := [.int 0, .int 1, .int 2, .int 3, .int 4, .int 5, .int 6, .int 7]
theorem rng8_eq : rngI (.int 0) (.int 8) = some ⟨[], rng8⟩ := rfl
theorem mul_ok {i j : Int} (h1 : i.natAbs < 2 ^ 200) (h2 : j.natAbs < 2 ^ 200) : i.natAbs.log2 + j.natAbs.log2 < 1000000 := by
  have a := log_lt h1 (by decide)
  have b := log_lt h2 (by decide)
  omega
theorem pow_le {b : Int} (h1 : 2 ≤ b) (h2 : b ≤ 1000) (k : Nat) : 1 ≤ b ^ k ∧ b ^ k ≤ 1000 ^ k := by
  induction k with
  | zero => simp
  | succ k ih =>
    rw [Int.pow_succ, Int.pow_succ]
    constructor
    · have : 1 * 1 ≤ b ^ k * b := Int.mul_le_mul ih.1 (by omega) (by omega) (by omega)
      omega
    · exact Int.mul_le_mul ih.2 h2 (by omega) (by omega)
theorem f6_ok (n : Nat) (b : Int) (S : Sto) (h1 : 2 ≤ b) (h2 : b ≤ 1000) : callF Dd (n + 1) 6 [.int b] S = .ok (.int (b ^ 8)) S := by
  apply eq_of
  rw [u6]
  simp -implicitDefEqProofs -dsimp only [Wp_ok, Wp_no, Wp_er, Wp_bind, Wp_some, Wp_none, Wp_guard, Wp_iteB, runDef, dSeq2, dVar, dCon, dNil, dCons, dStar, dTup, dLst, dDct0, dBin, dNeg, dTru, dIf, dNotT, dBl, dBool, dAnd, dOr, dCmp, dCmp2, dIdx, dNoPart, dPart, dSlc, dRev, dCall, dBlt, dMet, dIsi, aNm, aSub, dItSeq, dItRng, dItRng2, dItEnu, dItZip, dItEnz, dNo, sExp, sAsg, setAll, sPar, sAug, sRet, sSeq, sNil, sCnt, sFor, wipeE, new, mtTy, tyHas, List.map_cons, List.map_nil, List.length_cons, List.length_nil, List.length_map, Nat.zero_add, Nat.add_zero, Nat.reduceAdd, Nat.reduceSub, Nat.reduceMul, Nat.reduceLeDiff, Nat.reduceEqDiff, List.replicate_succ, List.replicate_zero, List.cons_append, List.nil_append, List.append_nil, List.getElem?_cons_zero, List.getElem?_cons_succ, List.getElem?_nil, List.set_cons_zero, List.set_cons_succ, if_true, if_false, ite_true, ite_false, Bool.false_eq_true, Bool.not_true, Bool.not_false, Option.map_some, Option.map_none, reduceCtorEq, beq_self_eq_true, Nat.reduceBEq, Bool.or_true, Bool.or_false, Bool.true_or, Bool.false_or, Bool.and_true, Bool.and_false, Bool.true_and, Bool.false_and, reduceIte, decide_true, decide_false, lenLim, true_and, e_addi, e_adds, e_addt, e_addl, e_subi, e_muli, e_mult, e_mull, e_fdiv, e_mod, e_pow, e_neg, e_eq, e_ne, e_lti, e_ltt, e_lei, e_gti, e_gei, e_isn0, e_isb, e_isnn, e_isnb, e_in, e_nin, e_ixt, e_ixf, e_ixr, e_sqt, e_sqf, e_sqr, e_slt, e_slr, e_rvt, e_rvr, e_lnt, e_lnf, e_lns, e_lnr, e_len, e_tuple, e_list, e_inti, e_intb, e_abs, e_divmod, e_min2, e_max2, e_all, e_any, e_app, e_ext, e_rec, e_isnk, e_isbk, e_isik, e_issk, e_istk, e_isrk, e_tn, e_tb, e_ti, e_tt, e_tf, e_tr, e_sit, e_sif, e_sir, e_part, e_augA, e_augS, e_nn, e_nnb, e_nni, e_nns, e_nnt, e_nnf, e_nnr, e_tp, e_acons, e_anil, rng8_eq]
  refine Wp_for (fun i env S' => i ≤ 8 ∧ S' = S ∧ ∃ x, env = [some (.int b), some (.int (b ^ i)), x]) ⟨by omega, rfl, none, by simp⟩ (fun _ _ _ _ _ => rfl) ?_ ?_
  · rintro i w env S' hw ⟨hi, rfl, x, rfl⟩
    have hi8 : i < 8 := by
      have := (List.getElem?_eq_some_iff.mp hw).1
      exact this
    obtain ⟨p1, p2⟩ := pow_le h1 h2 i
    have p3 : (1000 : Int) ^ i ≤ 1000 ^ 8 := by
      have : ∀ j, j ≤ 8 → (1000 : Int) ^ j ≤ 1000 ^ 8 := by decide
      exact this i (by omega)
    simp -implicitDefEqProofs -dsimp only [Wp_ok, Wp_no, Wp_er, Wp_bind, Wp_some, Wp_none, Wp_guard, Wp_iteB, runDef, dSeq2, dVar, dCon, dNil, dCons, dStar, dTup, dLst, dDct0, dBin, dNeg, dTru, dIf, dNotT, dBl, dBool, dAnd, dOr, dCmp, dCmp2, dIdx, dNoPart, dPart, dSlc, dRev, dCall, dBlt, dMet, dIsi, aNm, aSub, dItSeq, dItRng, dItRng2, dItEnu, dItZip, dItEnz, dNo, sExp, sAsg, setAll, sPar, sAug, sRet, sSeq, sNil, sCnt, sFor, wipeE, new, mtTy, tyHas, List.map_cons, List.map_nil, List.length_cons, List.length_nil, List.length_map, Nat.zero_add, Nat.add_zero, Nat.reduceAdd, Nat.reduceSub, Nat.reduceMul, Nat.reduceLeDiff, Nat.reduceEqDiff, List.replicate_succ, List.replicate_zero, List.cons_append, List.nil_append, List.append_nil, List.getElem?_cons_zero, List.getElem?_cons_succ, List.getElem?_nil, List.set_cons_zero, List.set_cons_succ, if_true, if_false, ite_true, ite_false, Bool.false_eq_true, Bool.not_true, Bool.not_false, Option.map_some, Option.map_none, reduceCtorEq, beq_self_eq_true, Nat.reduceBEq, Bool.or_true, Bool.or_false, Bool.true_or, Bool.false_or, Bool.and_true, Bool.and_false, Bool.true_and, Bool.false_and, reduceIte, decide_true, decide_false, lenLim, true_and, e_addi, e_adds, e_addt, e_addl, e_subi, e_muli, e_mult, e_mull, e_fdiv, e_mod, e_pow, e_neg, e_eq, e_ne, e_lti, e_ltt, e_lei, e_gti, e_gei, e_isn0, e_isb, e_isnn, e_isnb, e_in, e_nin, e_ixt, e_ixf, e_ixr, e_sqt, e_sqf, e_sqr, e_slt, e_slr, e_rvt, e_rvr, e_lnt, e_lnf, e_lns, e_lnr, e_len, e_tuple, e_list, e_inti, e_intb, e_abs, e_divmod, e_min2, e_max2, e_all, e_any, e_app, e_ext, e_rec, e_isnk, e_isbk, e_isik, e_issk, e_istk, e_isrk, e_tn, e_tb, e_ti, e_tt, e_tf, e_tr, e_sit, e_sif, e_sir, e_part, e_augA, e_augS, e_nn, e_nnb, e_nni, e_nns, e_nnt, e_nnf, e_nnr, e_tp, e_acons, e_anil]
    refine ⟨mul_ok (by
      have : (b ^ i).natAbs ≤ 1000 ^ 8 := by omega
      exact Nat.lt_of_le_of_lt this (by decide)) (by
      have : b.natAbs ≤ 1000 := by omega
      exact Nat.lt_of_le_of_lt this (by decide)), ?_⟩
    exact ⟨by omega, _, by rw [Int.pow_succ]⟩
  · rintro env S' ⟨hi, rfl, x, rfl⟩
    simp -implicitDefEqProofs -dsimp only [Wp_ok, Wp_no, Wp_er, Wp_bind, Wp_some, Wp_none, Wp_guard, Wp_iteB, runDef, dSeq2, dVar, dCon, dNil, dCons, dStar, dTup, dLst, dDct0, dBin, dNeg, dTru, dIf, dNotT, dBl, dBool, dAnd, dOr, dCmp, dCmp2, dIdx, dNoPart, dPart, dSlc, dRev, dCall, dBlt, dMet, dIsi, aNm, aSub, dItSeq, dItRng, dItRng2, dItEnu, dItZip, dItEnz, dNo, sExp, sAsg, setAll, sPar, sAug, sRet, sSeq, sNil, sCnt, sFor, wipeE, new, mtTy, tyHas, List.map_cons, List.map_nil, List.length_cons, List.length_nil, List.length_map, Nat.zero_add, Nat.add_zero, Nat.reduceAdd, Nat.reduceSub, Nat.reduceMul, Nat.reduceLeDiff, Nat.reduceEqDiff, List.replicate_succ, List.replicate_zero, List.cons_append, List.nil_append, List.append_nil, List.getElem?_cons_zero, List.getElem?_cons_succ, List.getElem?_nil, List.set_cons_zero, List.set_cons_succ, if_true, if_false, ite_true, ite_false, Bool.false_eq_true, Bool.not_true, Bool.not_false, Option.map_some, Option.map_none, reduceCtorEq, beq_self_eq_true, Nat.reduceBEq, Bool.or_true, Bool.or_false, Bool.true_or, Bool.false_or, Bool.and_true, Bool.and_false, Bool.true_and, Bool.false_and, reduceIte, decide_true, decide_false, lenLim, true_and, e_addi, e_adds, e_addt, e_addl, e_subi, e_muli, e_mult, e_mull, e_fdiv, e_mod, e_pow, e_neg, e_eq, e_ne, e_lti, e_ltt, e_lei, e_gti, e_gei, e_isn0, e_isb, e_isnn, e_isnb, e_in, e_nin, e_ixt, e_ixf, e_ixr, e_sqt, e_sqf, e_sqr, e_slt, e_slr, e_rvt, e_rvr, e_lnt, e_lnf, e_lns, e_lnr, e_len, e_tuple, e_list, e_inti, e_intb, e_abs, e_divmod, e_min2, e_max2, e_all, e_any, e_app, e_ext, e_rec, e_isnk, e_isbk, e_isik, e_issk, e_istk, e_isrk, e_tn, e_tb, e_ti, e_tt, e_tf, e_tr, e_sit, e_sif, e_sir, e_part, e_augA, e_augS, e_nn, e_nnb, e_nni, e_nns, e_nnt, e_nnf, e_nnr, e_tp, e_acons, e_anil]
    try trivial
/-- a page's worth: the first entry the lowest -/
def hor (b : Int) : List Int → Int
  | [] => 0
  | d :: r => d + b * hor b r
def ok8 (b : Int) (ds : List Int) : Prop := ds.length = 8 ∧ ∀ d ∈ ds, 0 ≤ d ∧ d < b
theorem hor_lt {b : Int} (h1 : 2 ≤ b) : ∀ {ds : List Int}, (∀ d ∈ ds, 0 ≤ d ∧ d < b) → 0 ≤ hor b ds ∧ hor b ds < b ^ ds.length
  | [], _ => by simp [hor]
  | d :: r, h => by
    obtain ⟨i1, i2⟩ := hor_lt h1 (ds := r) fun x hx => h x (by simp [hx])
    obtain ⟨d1, d2⟩ := h d (by simp)
    rw [hor, List.length_cons, Int.pow_succ]
    have m1 : 0 ≤ b * hor b r := Int.mul_nonneg (by omega) i1
    have m2 : b * hor b r ≤ b * (b ^ r.length - 1) := Int.mul_le_mul_of_nonneg_left (by omega) (by omega)
    rw [Int.mul_sub, Int.mul_one, Int.mul_comm b (b ^ r.length)] at m2
    omega
theorem pow8 {b : Int} (h1 : 2 ≤ b) (h2 : b ≤ 1000) {k : Nat} (hk : k ≤ 8) : 1 ≤ b ^ k ∧ b ^ k ≤ 1000 ^ 8 := by
  obtain ⟨p1, p2⟩ := pow_le h1 h2 k
  have : ∀ j, j ≤ 8 → (1000 : Int) ^ j ≤ 1000 ^ 8 := by decide
  exact ⟨p1, Int.le_trans p2 (this k hk)⟩
theorem f9_ok (n : Nat) (b : Int) (ds : List Int) (S : Sto) (h1 : 2 ≤ b) (h2 : b ≤ 1000) (hd : ok8 b ds) : callF Dd (n + 1) 9 [.int b, .tup (ds.map .int)] S = .ok (.int (hor b ds)) S := by
  apply eq_of
  rw [u9]
  simp -implicitDefEqProofs -dsimp only [Wp_ok, Wp_no, Wp_er, Wp_bind, Wp_some, Wp_none, Wp_guard, Wp_iteB, runDef, dSeq2, dVar, dCon, dNil, dCons, dStar, dTup, dLst, dDct0, dBin, dNeg, dTru, dIf, dNotT, dBl, dBool, dAnd, dOr, dCmp, dCmp2, dIdx, dNoPart, dPart, dSlc, dRev, dCall, dBlt, dMet, dIsi, aNm, aSub, dItSeq, dItRng, dItRng2, dItEnu, dItZip, dItEnz, dNo, sExp, sAsg, setAll, sPar, sAug, sRet, sSeq, sNil, sCnt, sFor, wipeE, new, mtTy, tyHas, List.map_cons, List.map_nil, List.length_cons, List.length_nil, List.length_map, Nat.zero_add, Nat.add_zero, Nat.reduceAdd, Nat.reduceSub, Nat.reduceMul, Nat.reduceLeDiff, Nat.reduceEqDiff, List.replicate_succ, List.replicate_zero, List.cons_append, List.nil_append, List.append_nil, List.getElem?_cons_zero, List.getElem?_cons_succ, List.getElem?_nil, List.set_cons_zero, List.set_cons_succ, if_true, if_false, ite_true, ite_false, Bool.false_eq_true, Bool.not_true, Bool.not_false, Option.map_some, Option.map_none, reduceCtorEq, beq_self_eq_true, Nat.reduceBEq, Bool.or_true, Bool.or_false, Bool.true_or, Bool.false_or, Bool.and_true, Bool.and_false, Bool.true_and, Bool.false_and, reduceIte, decide_true, decide_false, lenLim, true_and, e_addi, e_adds, e_addt, e_addl, e_subi, e_muli, e_mult, e_mull, e_fdiv, e_mod, e_pow, e_neg, e_eq, e_ne, e_lti, e_ltt, e_lei, e_gti, e_gei, e_isn0, e_isb, e_isnn, e_isnb, e_in, e_nin, e_ixt, e_ixf, e_ixr, e_sqt, e_sqf, e_sqr, e_slt, e_slr, e_rvt, e_rvr, e_lnt, e_lnf, e_lns, e_lnr, e_len, e_tuple, e_list, e_inti, e_intb, e_abs, e_divmod, e_min2, e_max2, e_all, e_any, e_app, e_ext, e_rec, e_isnk, e_isbk, e_isik, e_issk, e_istk, e_isrk, e_tn, e_tb, e_ti, e_tt, e_tf, e_tr, e_sit, e_sif, e_sir, e_part, e_augA, e_augS, e_nn, e_nnb, e_nni, e_nns, e_nnt, e_nnf, e_nnr, e_tp, e_acons, e_anil, seqI]
  refine Wp_for (fun i env S' => i ≤ 8 ∧ S' = S ∧ ∃ x, env = [some (.int b), some (.tup (ds.map .int)), some (.int (hor b (ds.drop (8 - i)))), x]) ⟨by omega, rfl, none, ?_⟩ (fun _ _ _ _ _ => rfl) ?_ ?_
  · rw [List.drop_of_length_le (by have := hd.1; omega)]
    rfl
  · rintro i w env S' hw ⟨hi, rfl, x, rfl⟩
    have hi8 : i < 8 := by
      have := (List.getElem?_eq_some_iff.mp hw).1
      simp [hd.1] at this
      exact this
    have hl : 8 - (i + 1) < ds.length := by have := hd.1; omega
    have ew : w = .int ds[8 - (i + 1)] := by
      rw [List.getElem?_reverse (by simp [hd.1]; exact hi8)] at hw
      simp only [List.length_map, hd.1] at hw
      rw [show 8 - 1 - i = 8 - (i + 1) by omega, List.getElem?_map, List.getElem?_eq_getElem hl] at hw
      exact (Option.some.inj hw).symm
    subst ew
    have hb := hor_lt h1 (ds := ds.drop (8 - i)) fun x hx => hd.2 x (List.mem_of_mem_drop hx)
    have hlen : (ds.drop (8 - i)).length = i := by rw [List.length_drop, hd.1]; omega
    rw [hlen] at hb
    obtain ⟨p1, p2⟩ := pow8 h1 h2 (k := i) (by omega)
    simp -implicitDefEqProofs -dsimp only [Wp_ok, Wp_no, Wp_er, Wp_bind, Wp_some, Wp_none, Wp_guard, Wp_iteB, runDef, dSeq2, dVar, dCon, dNil, dCons, dStar, dTup, dLst, dDct0, dBin, dNeg, dTru, dIf, dNotT, dBl, dBool, dAnd, dOr, dCmp, dCmp2, dIdx, dNoPart, dPart, dSlc, dRev, dCall, dBlt, dMet, dIsi, aNm, aSub, dItSeq, dItRng, dItRng2, dItEnu, dItZip, dItEnz, dNo, sExp, sAsg, setAll, sPar, sAug, sRet, sSeq, sNil, sCnt, sFor, wipeE, new, mtTy, tyHas, List.map_cons, List.map_nil, List.length_cons, List.length_nil, List.length_map, Nat.zero_add, Nat.add_zero, Nat.reduceAdd, Nat.reduceSub, Nat.reduceMul, Nat.reduceLeDiff, Nat.reduceEqDiff, List.replicate_succ, List.replicate_zero, List.cons_append, List.nil_append, List.append_nil, List.getElem?_cons_zero, List.getElem?_cons_succ, List.getElem?_nil, List.set_cons_zero, List.set_cons_succ, if_true, if_false, ite_true, ite_false, Bool.false_eq_true, Bool.not_true, Bool.not_false, Option.map_some, Option.map_none, reduceCtorEq, beq_self_eq_true, Nat.reduceBEq, Bool.or_true, Bool.or_false, Bool.true_or, Bool.false_or, Bool.and_true, Bool.and_false, Bool.true_and, Bool.false_and, reduceIte, decide_true, decide_false, lenLim, true_and, e_addi, e_adds, e_addt, e_addl, e_subi, e_muli, e_mult, e_mull, e_fdiv, e_mod, e_pow, e_neg, e_eq, e_ne, e_lti, e_ltt, e_lei, e_gti, e_gei, e_isn0, e_isb, e_isnn, e_isnb, e_in, e_nin, e_ixt, e_ixf, e_ixr, e_sqt, e_sqf, e_sqr, e_slt, e_slr, e_rvt, e_rvr, e_lnt, e_lnf, e_lns, e_lnr, e_len, e_tuple, e_list, e_inti, e_intb, e_abs, e_divmod, e_min2, e_max2, e_all, e_any, e_app, e_ext, e_rec, e_isnk, e_isbk, e_isik, e_issk, e_istk, e_isrk, e_tn, e_tb, e_ti, e_tt, e_tf, e_tr, e_sit, e_sif, e_sir, e_part, e_augA, e_augS, e_nn, e_nnb, e_nni, e_nns, e_nnt, e_nnf, e_nnr, e_tp, e_acons, e_anil]
    refine ⟨mul_ok (by
      have : (hor b (ds.drop (8 - i))).natAbs ≤ 1000 ^ 8 := by omega
      exact Nat.lt_of_le_of_lt this (by decide)) (by
      have : b.natAbs ≤ 1000 := by omega
      exact Nat.lt_of_le_of_lt this (by decide)), ?_⟩
    refine ⟨by omega, some (.int ds[8 - (i + 1)]), ?_⟩
    rw [List.drop_eq_getElem_cons hl, show 8 - (i + 1) + 1 = 8 - i by omega, hor]
    rw [Int.mul_comm b, Int.add_comm]
  · rintro env S' ⟨hi, rfl, x, rfl⟩
    simp -implicitDefEqProofs -dsimp only [Wp_ok, Wp_no, Wp_er, Wp_bind, Wp_some, Wp_none, Wp_guard, Wp_iteB, runDef, dSeq2, dVar, dCon, dNil, dCons, dStar, dTup, dLst, dDct0, dBin, dNeg, dTru, dIf, dNotT, dBl, dBool, dAnd, dOr, dCmp, dCmp2, dIdx, dNoPart, dPart, dSlc, dRev, dCall, dBlt, dMet, dIsi, aNm, aSub, dItSeq, dItRng, dItRng2, dItEnu, dItZip, dItEnz, dNo, sExp, sAsg, setAll, sPar, sAug, sRet, sSeq, sNil, sCnt, sFor, wipeE, new, mtTy, tyHas, List.map_cons, List.map_nil, List.length_cons, List.length_nil, List.length_map, Nat.zero_add, Nat.add_zero, Nat.reduceAdd, Nat.reduceSub, Nat.reduceMul, Nat.reduceLeDiff, Nat.reduceEqDiff, List.replicate_succ, List.replicate_zero, List.cons_append, List.nil_append, List.append_nil, List.getElem?_cons_zero, List.getElem?_cons_succ, List.getElem?_nil, List.set_cons_zero, List.set_cons_succ, if_true, if_false, ite_true, ite_false, Bool.false_eq_true, Bool.not_true, Bool.not_false, Option.map_some, Option.map_none, reduceCtorEq, beq_self_eq_true, Nat.reduceBEq, Bool.or_true, Bool.or_false, Bool.true_or, Bool.false_or, Bool.and_true, Bool.and_false, Bool.true_and, Bool.false_and, reduceIte, decide_true, decide_false, lenLim, true_and, e_addi, e_adds, e_addt, e_addl, e_subi, e_muli, e_mult, e_mull, e_fdiv, e_mod, e_pow, e_neg, e_eq, e_ne, e_lti, e_ltt, e_lei, e_gti, e_gei, e_isn0, e_isb, e_isnn, e_isnb, e_in, e_nin, e_ixt, e_ixf, e_ixr, e_sqt, e_sqf, e_sqr, e_slt, e_slr, e_rvt, e_rvr, e_lnt, e_lnf, e_lns, e_lnr, e_len, e_tuple, e_list, e_inti, e_intb, e_abs, e_divmod, e_min2, e_max2, e_all, e_any, e_app, e_ext, e_rec, e_isnk, e_isbk, e_isik, e_issk, e_istk, e_isrk, e_tn, e_tb, e_ti, e_tt, e_tf, e_tr, e_sit, e_sif, e_sir, e_part, e_augA, e_augS, e_nn, e_nnb, e_nni, e_nns, e_nnt, e_nnf, e_nnr, e_tp, e_acons, e_anil]
    simp [hd.1]
/-- digits -/
def digs (b : Int) : Nat → Int → List Int
  | 0, _ => []
  | k + 1, w => w % b :: digs b k (w / b)
theorem digs_len (b : Int) : ∀ (k : Nat) (w : Int), (digs b k w).length = k
  | 0, _ => rfl
  | k + 1, w => by rw [digs, List.length_cons, digs_len]
theorem digs_rng {b : Int} (h : 0 < b) : ∀ (k : Nat) (w : Int), ∀ d ∈ digs b k w, 0 ≤ d ∧ d < b
  | 0, _, d, hd => by simp [digs] at hd
  | k + 1, w, d, hd => by
    rw [digs, List.mem_cons] at hd
    rcases hd with rfl | hd
    · exact ⟨Int.emod_nonneg _ (by omega), Int.emod_lt_of_pos _ h⟩
    · exact digs_rng h k _ d hd
theorem hor_digs {b : Int} (h : 0 < b) : ∀ (k : Nat) (w : Int), 0 ≤ w → w < b ^ k → hor b (digs b k w) = w
  | 0, w, h0, h1 => by
    simp at h1
    simp [digs, hor]
    omega
  | k + 1, w, h0, h1 => by
    rw [digs, hor, hor_digs h k (w / b) (Int.ediv_nonneg h0 (by omega)) (by
      rw [Int.pow_succ] at h1
      exact Int.ediv_lt_of_lt_mul h h1)]
    exact Int.emod_add_mul_ediv w b
theorem digs_hor {b : Int} (h : 0 < b) : ∀ (ds : List Int), (∀ d ∈ ds, 0 ≤ d ∧ d < b) → digs b ds.length (hor b ds) = ds
  | [], _ => rfl
  | d :: r, hd => by
    obtain ⟨d1, d2⟩ := hd d (by simp)
    rw [List.length_cons, digs, hor]
    have e1 : (d + b * hor b r) % b = d := by rw [Int.add_mul_emod_self_left, Int.emod_eq_of_lt d1 d2]
    have e2 : (d + b * hor b r) / b = hor b r := by rw [Int.add_mul_ediv_left _ _ (by omega), Int.ediv_eq_zero_of_lt d1 d2, Int.zero_add]
    rw [e1, e2, digs_hor h r fun x hx => hd x (by simp [hx])]
theorem digs_add {b : Int} (hb : 0 < b) : ∀ (i : Nat) (w : Int), digs b (i + 1) w = digs b i w ++ [w / b ^ i % b]
  | 0, w => by simp [digs]
  | i + 1, w => by
    rw [digs, digs_add hb i (w / b), digs, List.cons_append]
    congr 3
    rw [Int.pow_succ, Int.mul_comm, Int.ediv_ediv_of_nonneg (by omega)]
theorem at_last (S : Sto) (o : O) : (S ++ [o])[S.length]? = some o := by simp
theorem set_last (S : Sto) (o o' : O) : (S ++ [o]).set S.length o' = S ++ [o'] := by simp
theorem fdiv_ok {b : Int} (h1 : 2 ≤ b) (h2 : b ≤ 1000) : 0 < b ∧ b.natAbs.log2 < 9000 := ⟨by omega, Nat.lt_trans (log_lt (k := 10) (by omega) (by decide)) (by decide)⟩
theorem log_b {b : Int} (h1 : 2 ≤ b) (h2 : b ≤ 1000) : b.natAbs.log2 < 9000 := (fdiv_ok h1 h2).2
theorem f10_ok (n : Nat) (b w : Int) (S : Sto) (h1 : 2 ≤ b) (h2 : b ≤ 1000) : callF Dd (n + 1) 10 [.int b, .int w] S = .ok (.tup ((digs b 8 w).map .int)) (S ++ [.lst ((digs b 8 w).map .int)]) := by
  suffices h : Wp (callF Dd (n + 1) 10 [.int b, .int w] S) (fun v S' => v = .tup ((digs b 8 w).map .int) ∧ S' = S ++ [.lst ((digs b 8 w).map .int)]) E0 by
    obtain ⟨v, S', e, rfl, rfl⟩ := h.ok0
    exact e
  rw [u10]
  simp -implicitDefEqProofs -dsimp only [Wp_ok, Wp_no, Wp_er, Wp_bind, Wp_some, Wp_none, Wp_guard, Wp_iteB, runDef, dSeq2, dVar, dCon, dNil, dCons, dStar, dTup, dLst, dDct0, dBin, dNeg, dTru, dIf, dNotT, dBl, dBool, dAnd, dOr, dCmp, dCmp2, dIdx, dNoPart, dPart, dSlc, dRev, dCall, dBlt, dMet, dIsi, aNm, aSub, dItSeq, dItRng, dItRng2, dItEnu, dItZip, dItEnz, dNo, sExp, sAsg, setAll, sPar, sAug, sRet, sSeq, sNil, sCnt, sFor, wipeE, new, mtTy, tyHas, List.map_cons, List.map_nil, List.length_cons, List.length_nil, List.length_map, Nat.zero_add, Nat.add_zero, Nat.reduceAdd, Nat.reduceSub, Nat.reduceMul, Nat.reduceLeDiff, Nat.reduceEqDiff, List.replicate_succ, List.replicate_zero, List.cons_append, List.nil_append, List.append_nil, List.getElem?_cons_zero, List.getElem?_cons_succ, List.getElem?_nil, List.set_cons_zero, List.set_cons_succ, if_true, if_false, ite_true, ite_false, Bool.false_eq_true, Bool.not_true, Bool.not_false, Option.map_some, Option.map_none, reduceCtorEq, beq_self_eq_true, Nat.reduceBEq, Bool.or_true, Bool.or_false, Bool.true_or, Bool.false_or, Bool.and_true, Bool.and_false, Bool.true_and, Bool.false_and, reduceIte, decide_true, decide_false, lenLim, true_and, e_addi, e_adds, e_addt, e_addl, e_subi, e_muli, e_mult, e_mull, e_fdiv, e_mod, e_pow, e_neg, e_eq, e_ne, e_lti, e_ltt, e_lei, e_gti, e_gei, e_isn0, e_isb, e_isnn, e_isnb, e_in, e_nin, e_ixt, e_ixf, e_ixr, e_sqt, e_sqf, e_sqr, e_slt, e_slr, e_rvt, e_rvr, e_lnt, e_lnf, e_lns, e_lnr, e_len, e_tuple, e_list, e_inti, e_intb, e_abs, e_divmod, e_min2, e_max2, e_all, e_any, e_app, e_ext, e_rec, e_isnk, e_isbk, e_isik, e_issk, e_istk, e_isrk, e_tn, e_tb, e_ti, e_tt, e_tf, e_tr, e_sit, e_sif, e_sir, e_part, e_augA, e_augS, e_nn, e_nnb, e_nni, e_nns, e_nnt, e_nnf, e_nnr, e_tp, e_acons, e_anil, rng8_eq]
  refine Wp_for (fun i env S' => i ≤ 8 ∧ S' = S ++ [.lst ((digs b i w).map .int)] ∧ ∃ x, env = [some (.int b), some (.int (w / b ^ i)), some (.ref S.length), x]) ⟨by omega, rfl, none, by simp⟩ (fun _ _ _ _ _ => rfl) ?_ ?_
  · rintro i x env S' hw ⟨hi, rfl, x', rfl⟩
    have hi8 : i < 8 := (List.getElem?_eq_some_iff.mp hw).1
    have g1 : 0 < b := by omega
    have g3 : i < 16777216 := by omega
    simp -implicitDefEqProofs -dsimp only [Wp_ok, Wp_no, Wp_er, Wp_bind, Wp_some, Wp_none, Wp_guard, Wp_iteB, runDef, dSeq2, dVar, dCon, dNil, dCons, dStar, dTup, dLst, dDct0, dBin, dNeg, dTru, dIf, dNotT, dBl, dBool, dAnd, dOr, dCmp, dCmp2, dIdx, dNoPart, dPart, dSlc, dRev, dCall, dBlt, dMet, dIsi, aNm, aSub, dItSeq, dItRng, dItRng2, dItEnu, dItZip, dItEnz, dNo, sExp, sAsg, setAll, sPar, sAug, sRet, sSeq, sNil, sCnt, sFor, wipeE, new, mtTy, tyHas, List.map_cons, List.map_nil, List.length_cons, List.length_nil, List.length_map, Nat.zero_add, Nat.add_zero, Nat.reduceAdd, Nat.reduceSub, Nat.reduceMul, Nat.reduceLeDiff, Nat.reduceEqDiff, List.replicate_succ, List.replicate_zero, List.cons_append, List.nil_append, List.append_nil, List.getElem?_cons_zero, List.getElem?_cons_succ, List.getElem?_nil, List.set_cons_zero, List.set_cons_succ, if_true, if_false, ite_true, ite_false, Bool.false_eq_true, Bool.not_true, Bool.not_false, Option.map_some, Option.map_none, reduceCtorEq, beq_self_eq_true, Nat.reduceBEq, Bool.or_true, Bool.or_false, Bool.true_or, Bool.false_or, Bool.and_true, Bool.and_false, Bool.true_and, Bool.false_and, reduceIte, decide_true, decide_false, lenLim, true_and, e_addi, e_adds, e_addt, e_addl, e_subi, e_muli, e_mult, e_mull, e_fdiv, e_mod, e_pow, e_neg, e_eq, e_ne, e_lti, e_ltt, e_lei, e_gti, e_gei, e_isn0, e_isb, e_isnn, e_isnb, e_in, e_nin, e_ixt, e_ixf, e_ixr, e_sqt, e_sqf, e_sqr, e_slt, e_slr, e_rvt, e_rvr, e_lnt, e_lnf, e_lns, e_lnr, e_len, e_tuple, e_list, e_inti, e_intb, e_abs, e_divmod, e_min2, e_max2, e_all, e_any, e_app, e_ext, e_rec, e_isnk, e_isbk, e_isik, e_issk, e_istk, e_isrk, e_tn, e_tb, e_ti, e_tt, e_tf, e_tr, e_sit, e_sif, e_sir, e_part, e_augA, e_augS, e_nn, e_nnb, e_nni, e_nns, e_nnt, e_nnf, e_nnr, e_tp, e_acons, e_anil, at_last, set_last, digs_len, g1, log_b h1 h2, g3, true_and]
    refine ⟨by omega, ?_, some x, ?_⟩
    · rw [digs_add g1]
      simp
    · rw [Int.ediv_ediv_of_nonneg (by have := (pow8 h1 h2 (k := i) (by omega)).1; omega), ← Int.pow_succ]
  · rintro env S' ⟨hi, rfl, x, rfl⟩
    simp -implicitDefEqProofs -dsimp only [Wp_ok, Wp_no, Wp_er, Wp_bind, Wp_some, Wp_none, Wp_guard, Wp_iteB, runDef, dSeq2, dVar, dCon, dNil, dCons, dStar, dTup, dLst, dDct0, dBin, dNeg, dTru, dIf, dNotT, dBl, dBool, dAnd, dOr, dCmp, dCmp2, dIdx, dNoPart, dPart, dSlc, dRev, dCall, dBlt, dMet, dIsi, aNm, aSub, dItSeq, dItRng, dItRng2, dItEnu, dItZip, dItEnz, dNo, sExp, sAsg, setAll, sPar, sAug, sRet, sSeq, sNil, sCnt, sFor, wipeE, new, mtTy, tyHas, List.map_cons, List.map_nil, List.length_cons, List.length_nil, List.length_map, Nat.zero_add, Nat.add_zero, Nat.reduceAdd, Nat.reduceSub, Nat.reduceMul, Nat.reduceLeDiff, Nat.reduceEqDiff, List.replicate_succ, List.replicate_zero, List.cons_append, List.nil_append, List.append_nil, List.getElem?_cons_zero, List.getElem?_cons_succ, List.getElem?_nil, List.set_cons_zero, List.set_cons_succ, if_true, if_false, ite_true, ite_false, Bool.false_eq_true, Bool.not_true, Bool.not_false, Option.map_some, Option.map_none, reduceCtorEq, beq_self_eq_true, Nat.reduceBEq, Bool.or_true, Bool.or_false, Bool.true_or, Bool.false_or, Bool.and_true, Bool.and_false, Bool.true_and, Bool.false_and, reduceIte, decide_true, decide_false, lenLim, true_and, e_addi, e_adds, e_addt, e_addl, e_subi, e_muli, e_mult, e_mull, e_fdiv, e_mod, e_pow, e_neg, e_eq, e_ne, e_lti, e_ltt, e_lei, e_gti, e_gei, e_isn0, e_isb, e_isnn, e_isnb, e_in, e_nin, e_ixt, e_ixf, e_ixr, e_sqt, e_sqf, e_sqr, e_slt, e_slr, e_rvt, e_rvr, e_lnt, e_lnf, e_lns, e_lnr, e_len, e_tuple, e_list, e_inti, e_intb, e_abs, e_divmod, e_min2, e_max2, e_all, e_any, e_app, e_ext, e_rec, e_isnk, e_isbk, e_isik, e_issk, e_istk, e_isrk, e_tn, e_tb, e_ti, e_tt, e_tf, e_tr, e_sit, e_sif, e_sir, e_part, e_augA, e_augS, e_nn, e_nnb, e_nni, e_nns, e_nnt, e_nnf, e_nnr, e_tp, e_acons, e_anil, at_last]
    exact ⟨rfl, rfl⟩
theorem f24_ok (n : Nat) (b w : Int) (S : Sto) (h1 : 2 ≤ b) (h2 : b ≤ 1000) : callF Dd (n + 1) 24 [.int b, .int w] S = .ok (.tup ((digs b 8 w).map .int)) (S ++ [.lst ((digs b 8 w).map .int)]) := by
  suffices h : Wp (callF Dd (n + 1) 24 [.int b, .int w] S) (fun v S' => v = .tup ((digs b 8 w).map .int) ∧ S' = S ++ [.lst ((digs b 8 w).map .int)]) E0 by
    obtain ⟨v, S', e, rfl, rfl⟩ := h.ok0
    exact e
  rw [u24]
  simp -implicitDefEqProofs -dsimp only [Wp_ok, Wp_no, Wp_er, Wp_bind, Wp_some, Wp_none, Wp_guard, Wp_iteB, runDef, dSeq2, dVar, dCon, dNil, dCons, dStar, dTup, dLst, dDct0, dBin, dNeg, dTru, dIf, dNotT, dBl, dBool, dAnd, dOr, dCmp, dCmp2, dIdx, dNoPart, dPart, dSlc, dRev, dCall, dBlt, dMet, dIsi, aNm, aSub, dItSeq, dItRng, dItRng2, dItEnu, dItZip, dItEnz, dNo, sExp, sAsg, setAll, sPar, sAug, sRet, sSeq, sNil, sCnt, sFor, wipeE, new, mtTy, tyHas, List.map_cons, List.map_nil, List.length_cons, List.length_nil, List.length_map, Nat.zero_add, Nat.add_zero, Nat.reduceAdd, Nat.reduceSub, Nat.reduceMul, Nat.reduceLeDiff, Nat.reduceEqDiff, List.replicate_succ, List.replicate_zero, List.cons_append, List.nil_append, List.append_nil, List.getElem?_cons_zero, List.getElem?_cons_succ, List.getElem?_nil, List.set_cons_zero, List.set_cons_succ, if_true, if_false, ite_true, ite_false, Bool.false_eq_true, Bool.not_true, Bool.not_false, Option.map_some, Option.map_none, reduceCtorEq, beq_self_eq_true, Nat.reduceBEq, Bool.or_true, Bool.or_false, Bool.true_or, Bool.false_or, Bool.and_true, Bool.and_false, Bool.true_and, Bool.false_and, reduceIte, decide_true, decide_false, lenLim, true_and, e_addi, e_adds, e_addt, e_addl, e_subi, e_muli, e_mult, e_mull, e_fdiv, e_mod, e_pow, e_neg, e_eq, e_ne, e_lti, e_ltt, e_lei, e_gti, e_gei, e_isn0, e_isb, e_isnn, e_isnb, e_in, e_nin, e_ixt, e_ixf, e_ixr, e_sqt, e_sqf, e_sqr, e_slt, e_slr, e_rvt, e_rvr, e_lnt, e_lnf, e_lns, e_lnr, e_len, e_tuple, e_list, e_inti, e_intb, e_abs, e_divmod, e_min2, e_max2, e_all, e_any, e_app, e_ext, e_rec, e_isnk, e_isbk, e_isik, e_issk, e_istk, e_isrk, e_tn, e_tb, e_ti, e_tt, e_tf, e_tr, e_sit, e_sif, e_sir, e_part, e_augA, e_augS, e_nn, e_nnb, e_nni, e_nns, e_nnt, e_nnf, e_nnr, e_tp, e_acons, e_anil, rng8_eq]
  refine Wp_for (fun i env S' => i ≤ 8 ∧ S' = S ++ [.lst ((digs b i w).map .int)] ∧ ∃ x y, env = [some (.int b), some (.int (w / b ^ i)), some (.ref S.length), x, y]) ⟨by omega, rfl, none, none, by simp⟩ (fun _ _ _ _ _ => rfl) ?_ ?_
  · rintro i x env S' hw ⟨hi, rfl, x', y', rfl⟩
    have hi8 : i < 8 := (List.getElem?_eq_some_iff.mp hw).1
    have g1 : 0 < b := by omega
    have g3 : i < 16777216 := by omega
    simp -implicitDefEqProofs -dsimp only [Wp_ok, Wp_no, Wp_er, Wp_bind, Wp_some, Wp_none, Wp_guard, Wp_iteB, runDef, dSeq2, dVar, dCon, dNil, dCons, dStar, dTup, dLst, dDct0, dBin, dNeg, dTru, dIf, dNotT, dBl, dBool, dAnd, dOr, dCmp, dCmp2, dIdx, dNoPart, dPart, dSlc, dRev, dCall, dBlt, dMet, dIsi, aNm, aSub, dItSeq, dItRng, dItRng2, dItEnu, dItZip, dItEnz, dNo, sExp, sAsg, setAll, sPar, sAug, sRet, sSeq, sNil, sCnt, sFor, wipeE, new, mtTy, tyHas, List.map_cons, List.map_nil, List.length_cons, List.length_nil, List.length_map, Nat.zero_add, Nat.add_zero, Nat.reduceAdd, Nat.reduceSub, Nat.reduceMul, Nat.reduceLeDiff, Nat.reduceEqDiff, List.replicate_succ, List.replicate_zero, List.cons_append, List.nil_append, List.append_nil, List.getElem?_cons_zero, List.getElem?_cons_succ, List.getElem?_nil, List.set_cons_zero, List.set_cons_succ, if_true, if_false, ite_true, ite_false, Bool.false_eq_true, Bool.not_true, Bool.not_false, Option.map_some, Option.map_none, reduceCtorEq, beq_self_eq_true, Nat.reduceBEq, Bool.or_true, Bool.or_false, Bool.true_or, Bool.false_or, Bool.and_true, Bool.and_false, Bool.true_and, Bool.false_and, reduceIte, decide_true, decide_false, lenLim, true_and, e_addi, e_adds, e_addt, e_addl, e_subi, e_muli, e_mult, e_mull, e_fdiv, e_mod, e_pow, e_neg, e_eq, e_ne, e_lti, e_ltt, e_lei, e_gti, e_gei, e_isn0, e_isb, e_isnn, e_isnb, e_in, e_nin, e_ixt, e_ixf, e_ixr, e_sqt, e_sqf, e_sqr, e_slt, e_slr, e_rvt, e_rvr, e_lnt, e_lnf, e_lns, e_lnr, e_len, e_tuple, e_list, e_inti, e_intb, e_abs, e_divmod, e_min2, e_max2, e_all, e_any, e_app, e_ext, e_rec, e_isnk, e_isbk, e_isik, e_issk, e_istk, e_isrk, e_tn, e_tb, e_ti, e_tt, e_tf, e_tr, e_sit, e_sif, e_sir, e_part, e_augA, e_augS, e_nn, e_nnb, e_nni, e_nns, e_nnt, e_nnf, e_nnr, e_tp, e_acons, e_anil, at_last, set_last, digs_len, g1, log_b h1 h2, g3, true_and, and_self]
    refine ⟨by omega, ?_, some x, some (.int (w / b ^ i % b)), ?_⟩
    · rw [digs_add g1]
      simp
    · rw [Int.ediv_ediv_of_nonneg (by have := (pow8 h1 h2 (k := i) (by omega)).1; omega), ← Int.pow_succ]
  · rintro env S' ⟨hi, rfl, x, y, rfl⟩
    simp -implicitDefEqProofs -dsimp only [Wp_ok, Wp_no, Wp_er, Wp_bind, Wp_some, Wp_none, Wp_guard, Wp_iteB, runDef, dSeq2, dVar, dCon, dNil, dCons, dStar, dTup, dLst, dDct0, dBin, dNeg, dTru, dIf, dNotT, dBl, dBool, dAnd, dOr, dCmp, dCmp2, dIdx, dNoPart, dPart, dSlc, dRev, dCall, dBlt, dMet, dIsi, aNm, aSub, dItSeq, dItRng, dItRng2, dItEnu, dItZip, dItEnz, dNo, sExp, sAsg, setAll, sPar, sAug, sRet, sSeq, sNil, sCnt, sFor, wipeE, new, mtTy, tyHas, List.map_cons, List.map_nil, List.length_cons, List.length_nil, List.length_map, Nat.zero_add, Nat.add_zero, Nat.reduceAdd, Nat.reduceSub, Nat.reduceMul, Nat.reduceLeDiff, Nat.reduceEqDiff, List.replicate_succ, List.replicate_zero, List.cons_append, List.nil_append, List.append_nil, List.getElem?_cons_zero, List.getElem?_cons_succ, List.getElem?_nil, List.set_cons_zero, List.set_cons_succ, if_true, if_false, ite_true, ite_false, Bool.false_eq_true, Bool.not_true, Bool.not_false, Option.map_some, Option.map_none, reduceCtorEq, beq_self_eq_true, Nat.reduceBEq, Bool.or_true, Bool.or_false, Bool.true_or, Bool.false_or, Bool.and_true, Bool.and_false, Bool.true_and, Bool.false_and, reduceIte, decide_true, decide_false, lenLim, true_and, e_addi, e_adds, e_addt, e_addl, e_subi, e_muli, e_mult, e_mull, e_fdiv, e_mod, e_pow, e_neg, e_eq, e_ne, e_lti, e_ltt, e_lei, e_gti, e_gei, e_isn0, e_isb, e_isnn, e_isnb, e_in, e_nin, e_ixt, e_ixf, e_ixr, e_sqt, e_sqf, e_sqr, e_slt, e_slr, e_rvt, e_rvr, e_lnt, e_lnf, e_lns, e_lnr, e_len, e_tuple, e_list, e_inti, e_intb, e_abs, e_divmod, e_min2, e_max2, e_all, e_any, e_app, e_ext, e_rec, e_isnk, e_isbk, e_isik, e_issk, e_istk, e_isrk, e_tn, e_tb, e_ti, e_tt, e_tf, e_tr, e_sit, e_sif, e_sir, e_part, e_augA, e_augS, e_nn, e_nnb, e_nni, e_nns, e_nnt, e_nnf, e_nnr, e_tp, e_acons, e_anil, at_last]
    exact ⟨rfl, rfl⟩
theorem f25_ok (n : Nat) (b : Int) (ds : List Int) (S : Sto) (h1 : 2 ≤ b) (h2 : b ≤ 1000) (hd : ok8 b ds) : callF Dd (n + 1) 25 [.int b, .tup (ds.map .int)] S = .ok (.int (hor b ds)) S := f9_ok n b ds S h1 h2 hd
/-- a result that only makes new things -/
def Gr (r : R W) (S : Sto) (v : W) : Prop := ∃ m, r = .ok v (S ++ m)
theorem Gr.wp {r : R W} {S : Sto} {v : W} {P : W → Sto → Prop} {E : Nat → Option W → Sto → Prop} (h : Gr r S v) (hp : ∀ m, P v (S ++ m)) : Wp r P E := by
  obtain ⟨m, e⟩ := h
  rw [e]
  exact hp m
theorem Gr.of {r : R W} {S : Sto} {v : W} (h : Wp r (fun v' S' => v' = v ∧ ∃ m, S' = S ++ m) E0) : Gr r S v := by
  obtain ⟨v', S', e, rfl, m, rfl⟩ := h.ok0
  exact ⟨m, e⟩
theorem Gr.eq {r : R W} {S : Sto} {v : W} (h : r = .ok v S) : Gr r S v := ⟨[], by rw [h, List.append_nil]⟩
theorem Gr.app {r : R W} {S m : Sto} {v : W} (h : r = .ok v (S ++ m)) : Gr r S v := ⟨m, h⟩
theorem Wp_dlc {vs : List Nat} {it : Dn Its} {j : Nat} {e : Dn W} {cl : CL} {env : En} {S : Sto} {P : W → Sto → Prop} {E : Nat → Option W → Sto → Prop} {I : Its} {f : W → W} (hi : it cl env S = .ok I S) (hc : chkOk I.chk S = true) (hl : I.items.length ≤ lim)
    (he : ∀ w ∈ I.items, ∀ m, Gr (e cl ((wipeE env vs).set j (some w)) (S ++ m)) (S ++ m) (f w)) (hP : ∀ m, P (.ref (S ++ m).length) (S ++ m ++ [.lst (I.items.map f)])) : Wp (dLc vs it (aNm j) (dBool true) e cl env S) P E := by
  unfold dLc
  rw [hi]
  obtain ⟨m, e1⟩ := lc_grow (cl := cl) (env := wipeE env vs) (j := j) (e := e) (f := f) I.items [] S hc (by simpa using hl) (fun w hw S' ⟨m, hm⟩ => by
    obtain ⟨m', h⟩ := he w hw m
    subst hm
    exact ⟨m', h⟩)
  show Wp ((noErr (lcLoop I.chk (aNm j) (dBool true) e cl (wipeE env vs) I.items [] S)).bind fun ws S2 => new S2 (.lst ws)) P E
  rw [e1]
  exact hP m
theorem wBools_map {α : Type} (l : List α) (g : α → Bool) : wBools (l.map fun w => W.bl (g w)) = some (l.map g) := by
  induction l with
  | nil => rfl
  | cons a r ih => rw [List.map_cons, wBools, ih]; rfl
theorem f7_tup (n : Nat) (b : Int) (ws : List W) (S : Sto) (hl : ws.length = 8) (hk : ∀ w ∈ ws, ∀ m, (kindW (S ++ m) w).isSome = true) : Gr (callF Dd (n + 3) 7 [.int b, .tup ws] S) S (.bl (ws.all (cntB 0 (b - 1)))) := by
  apply Gr.of
  rw [u7]
  simp -implicitDefEqProofs -dsimp only [Wp_ok, Wp_no, Wp_er, Wp_bind, Wp_some, Wp_none, Wp_guard, Wp_iteB, runDef, dSeq2, dVar, dCon, dNil, dCons, dStar, dTup, dLst, dDct0, dBin, dNeg, dTru, dIf, dNotT, dBl, dBool, dAnd, dOr, dCmp, dCmp2, dIdx, dNoPart, dPart, dSlc, dRev, dCall, dBlt, dMet, dIsi, aNm, aSub, dItSeq, dItRng, dItRng2, dItEnu, dItZip, dItEnz, dNo, sExp, sAsg, setAll, sPar, sAug, sRet, sSeq, sNil, sCnt, sFor, wipeE, new, mtTy, tyHas, List.map_cons, List.map_nil, List.length_cons, List.length_nil, List.length_map, Nat.zero_add, Nat.add_zero, Nat.reduceAdd, Nat.reduceSub, Nat.reduceMul, Nat.reduceLeDiff, Nat.reduceEqDiff, List.replicate_succ, List.replicate_zero, List.cons_append, List.nil_append, List.append_nil, List.getElem?_cons_zero, List.getElem?_cons_succ, List.getElem?_nil, List.set_cons_zero, List.set_cons_succ, if_true, if_false, ite_true, ite_false, Bool.false_eq_true, Bool.not_true, Bool.not_false, Option.map_some, Option.map_none, reduceCtorEq, beq_self_eq_true, Nat.reduceBEq, Bool.or_true, Bool.or_false, Bool.true_or, Bool.false_or, Bool.and_true, Bool.and_false, Bool.true_and, Bool.false_and, reduceIte, decide_true, decide_false, lenLim, true_and, e_addi, e_adds, e_addt, e_addl, e_subi, e_muli, e_mult, e_mull, e_fdiv, e_mod, e_pow, e_neg, e_eq, e_ne, e_lti, e_ltt, e_lei, e_gti, e_gei, e_isn0, e_isb, e_isnn, e_isnb, e_in, e_nin, e_ixt, e_ixf, e_ixr, e_sqt, e_sqf, e_sqr, e_slt, e_slr, e_rvt, e_rvr, e_lnt, e_lnf, e_lns, e_lnr, e_len, e_tuple, e_list, e_inti, e_intb, e_abs, e_divmod, e_min2, e_max2, e_all, e_any, e_app, e_ext, e_rec, e_isnk, e_isbk, e_isik, e_issk, e_istk, e_isrk, e_tn, e_tb, e_ti, e_tt, e_tf, e_tr, e_sit, e_sif, e_sir, e_part, e_augA, e_augS, e_nn, e_nnb, e_nni, e_nns, e_nnt, e_nnf, e_nnr, e_tp, e_acons, e_anil, hl]
  rw [show eqW S (.int ((8 : Nat) : Int)) (.int 8) = some true from rfl]
  simp -implicitDefEqProofs -dsimp only [Wp_ok, Wp_no, Wp_er, Wp_bind, Wp_some, Wp_none, Wp_guard, Wp_iteB, runDef, dSeq2, dVar, dCon, dNil, dCons, dStar, dTup, dLst, dDct0, dBin, dNeg, dTru, dIf, dNotT, dBl, dBool, dAnd, dOr, dCmp, dCmp2, dIdx, dNoPart, dPart, dSlc, dRev, dCall, dBlt, dMet, dIsi, aNm, aSub, dItSeq, dItRng, dItRng2, dItEnu, dItZip, dItEnz, dNo, sExp, sAsg, setAll, sPar, sAug, sRet, sSeq, sNil, sCnt, sFor, wipeE, new, mtTy, tyHas, List.map_cons, List.map_nil, List.length_cons, List.length_nil, List.length_map, Nat.zero_add, Nat.add_zero, Nat.reduceAdd, Nat.reduceSub, Nat.reduceMul, Nat.reduceLeDiff, Nat.reduceEqDiff, List.replicate_succ, List.replicate_zero, List.cons_append, List.nil_append, List.append_nil, List.getElem?_cons_zero, List.getElem?_cons_succ, List.getElem?_nil, List.set_cons_zero, List.set_cons_succ, if_true, if_false, ite_true, ite_false, Bool.false_eq_true, Bool.not_true, Bool.not_false, Option.map_some, Option.map_none, reduceCtorEq, beq_self_eq_true, Nat.reduceBEq, Bool.or_true, Bool.or_false, Bool.true_or, Bool.false_or, Bool.and_true, Bool.and_false, Bool.true_and, Bool.false_and, reduceIte, decide_true, decide_false, lenLim, true_and, e_addi, e_adds, e_addt, e_addl, e_subi, e_muli, e_mult, e_mull, e_fdiv, e_mod, e_pow, e_neg, e_eq, e_ne, e_lti, e_ltt, e_lei, e_gti, e_gei, e_isn0, e_isb, e_isnn, e_isnb, e_in, e_nin, e_ixt, e_ixf, e_ixr, e_sqt, e_sqf, e_sqr, e_slt, e_slr, e_rvt, e_rvr, e_lnt, e_lnf, e_lns, e_lnr, e_len, e_tuple, e_list, e_inti, e_intb, e_abs, e_divmod, e_min2, e_max2, e_all, e_any, e_app, e_ext, e_rec, e_isnk, e_isbk, e_isik, e_issk, e_istk, e_isrk, e_tn, e_tb, e_ti, e_tt, e_tf, e_tr, e_sit, e_sif, e_sir, e_part, e_augA, e_augS, e_nn, e_nnb, e_nni, e_nns, e_nnt, e_nnf, e_nnr, e_tp, e_acons, e_anil]
  refine Wp_dlc (I := ⟨[], ws⟩) (f := fun w => .bl (cntB 0 (b - 1) w)) rfl rfl (by rw [hl]; decide) (fun w hw m => ?_) fun m => ?_
  · refine Gr.eq ?_
    apply eq_of
    simp -implicitDefEqProofs -dsimp only [Wp_ok, Wp_no, Wp_er, Wp_bind, Wp_some, Wp_none, Wp_guard, Wp_iteB, runDef, dSeq2, dVar, dCon, dNil, dCons, dStar, dTup, dLst, dDct0, dBin, dNeg, dTru, dIf, dNotT, dBl, dBool, dAnd, dOr, dCmp, dCmp2, dIdx, dNoPart, dPart, dSlc, dRev, dCall, dBlt, dMet, dIsi, aNm, aSub, dItSeq, dItRng, dItRng2, dItEnu, dItZip, dItEnz, dNo, sExp, sAsg, setAll, sPar, sAug, sRet, sSeq, sNil, sCnt, sFor, wipeE, new, mtTy, tyHas, List.map_cons, List.map_nil, List.length_cons, List.length_nil, List.length_map, Nat.zero_add, Nat.add_zero, Nat.reduceAdd, Nat.reduceSub, Nat.reduceMul, Nat.reduceLeDiff, Nat.reduceEqDiff, List.replicate_succ, List.replicate_zero, List.cons_append, List.nil_append, List.append_nil, List.getElem?_cons_zero, List.getElem?_cons_succ, List.getElem?_nil, List.set_cons_zero, List.set_cons_succ, if_true, if_false, ite_true, ite_false, Bool.false_eq_true, Bool.not_true, Bool.not_false, Option.map_some, Option.map_none, reduceCtorEq, beq_self_eq_true, Nat.reduceBEq, Bool.or_true, Bool.or_false, Bool.true_or, Bool.false_or, Bool.and_true, Bool.and_false, Bool.true_and, Bool.false_and, reduceIte, decide_true, decide_false, lenLim, true_and, e_addi, e_adds, e_addt, e_addl, e_subi, e_muli, e_mult, e_mull, e_fdiv, e_mod, e_pow, e_neg, e_eq, e_ne, e_lti, e_ltt, e_lei, e_gti, e_gei, e_isn0, e_isb, e_isnn, e_isnb, e_in, e_nin, e_ixt, e_ixf, e_ixr, e_sqt, e_sqf, e_sqr, e_slt, e_slr, e_rvt, e_rvr, e_lnt, e_lnf, e_lns, e_lnr, e_len, e_tuple, e_list, e_inti, e_intb, e_abs, e_divmod, e_min2, e_max2, e_all, e_any, e_app, e_ext, e_rec, e_isnk, e_isbk, e_isik, e_issk, e_istk, e_isrk, e_tn, e_tb, e_ti, e_tt, e_tf, e_tr, e_sit, e_sif, e_sir, e_part, e_augA, e_augS, e_nn, e_nnb, e_nni, e_nns, e_nnt, e_nnf, e_nnr, e_tp, e_acons, e_anil, wipeE, f1_any n w 0 (b - 1) (S ++ m) (hk w hw m)]
    try trivial
  · simp -implicitDefEqProofs -dsimp only [Wp_ok, Wp_no, Wp_er, Wp_bind, Wp_some, Wp_none, Wp_guard, Wp_iteB, runDef, dSeq2, dVar, dCon, dNil, dCons, dStar, dTup, dLst, dDct0, dBin, dNeg, dTru, dIf, dNotT, dBl, dBool, dAnd, dOr, dCmp, dCmp2, dIdx, dNoPart, dPart, dSlc, dRev, dCall, dBlt, dMet, dIsi, aNm, aSub, dItSeq, dItRng, dItRng2, dItEnu, dItZip, dItEnz, dNo, sExp, sAsg, setAll, sPar, sAug, sRet, sSeq, sNil, sCnt, sFor, wipeE, new, mtTy, tyHas, List.map_cons, List.map_nil, List.length_cons, List.length_nil, List.length_map, Nat.zero_add, Nat.add_zero, Nat.reduceAdd, Nat.reduceSub, Nat.reduceMul, Nat.reduceLeDiff, Nat.reduceEqDiff, List.replicate_succ, List.replicate_zero, List.cons_append, List.nil_append, List.append_nil, List.getElem?_cons_zero, List.getElem?_cons_succ, List.getElem?_nil, List.set_cons_zero, List.set_cons_succ, if_true, if_false, ite_true, ite_false, Bool.false_eq_true, Bool.not_true, Bool.not_false, Option.map_some, Option.map_none, reduceCtorEq, beq_self_eq_true, Nat.reduceBEq, Bool.or_true, Bool.or_false, Bool.true_or, Bool.false_or, Bool.and_true, Bool.and_false, Bool.true_and, Bool.false_and, reduceIte, decide_true, decide_false, lenLim, true_and, e_addi, e_adds, e_addt, e_addl, e_subi, e_muli, e_mult, e_mull, e_fdiv, e_mod, e_pow, e_neg, e_eq, e_ne, e_lti, e_ltt, e_lei, e_gti, e_gei, e_isn0, e_isb, e_isnn, e_isnb, e_in, e_nin, e_ixt, e_ixf, e_ixr, e_sqt, e_sqf, e_sqr, e_slt, e_slr, e_rvt, e_rvr, e_lnt, e_lnf, e_lns, e_lnr, e_len, e_tuple, e_list, e_inti, e_intb, e_abs, e_divmod, e_min2, e_max2, e_all, e_any, e_app, e_ext, e_rec, e_isnk, e_isbk, e_isik, e_issk, e_istk, e_isrk, e_tn, e_tb, e_ti, e_tt, e_tf, e_tr, e_sit, e_sif, e_sir, e_part, e_augA, e_augS, e_nn, e_nnb, e_nni, e_nns, e_nnt, e_nnf, e_nnr, e_tp, e_acons, e_anil, at_last, wBools_map]
    refine ⟨?_, _, List.append_assoc _ _ _⟩
    simp
theorem f7_len (n : Nat) (b : Int) (ws : List W) (S : Sto) (hl : ws.length ≠ 8) : callF Dd (n + 1) 7 [.int b, .tup ws] S = .ok (.bl false) S := by
  apply eq_of
  rw [u7]
  simp -implicitDefEqProofs -dsimp only [Wp_ok, Wp_no, Wp_er, Wp_bind, Wp_some, Wp_none, Wp_guard, Wp_iteB, runDef, dSeq2, dVar, dCon, dNil, dCons, dStar, dTup, dLst, dDct0, dBin, dNeg, dTru, dIf, dNotT, dBl, dBool, dAnd, dOr, dCmp, dCmp2, dIdx, dNoPart, dPart, dSlc, dRev, dCall, dBlt, dMet, dIsi, aNm, aSub, dItSeq, dItRng, dItRng2, dItEnu, dItZip, dItEnz, dNo, sExp, sAsg, setAll, sPar, sAug, sRet, sSeq, sNil, sCnt, sFor, wipeE, new, mtTy, tyHas, List.map_cons, List.map_nil, List.length_cons, List.length_nil, List.length_map, Nat.zero_add, Nat.add_zero, Nat.reduceAdd, Nat.reduceSub, Nat.reduceMul, Nat.reduceLeDiff, Nat.reduceEqDiff, List.replicate_succ, List.replicate_zero, List.cons_append, List.nil_append, List.append_nil, List.getElem?_cons_zero, List.getElem?_cons_succ, List.getElem?_nil, List.set_cons_zero, List.set_cons_succ, if_true, if_false, ite_true, ite_false, Bool.false_eq_true, Bool.not_true, Bool.not_false, Option.map_some, Option.map_none, reduceCtorEq, beq_self_eq_true, Nat.reduceBEq, Bool.or_true, Bool.or_false, Bool.true_or, Bool.false_or, Bool.and_true, Bool.and_false, Bool.true_and, Bool.false_and, reduceIte, decide_true, decide_false, lenLim, true_and, e_addi, e_adds, e_addt, e_addl, e_subi, e_muli, e_mult, e_mull, e_fdiv, e_mod, e_pow, e_neg, e_eq, e_ne, e_lti, e_ltt, e_lei, e_gti, e_gei, e_isn0, e_isb, e_isnn, e_isnb, e_in, e_nin, e_ixt, e_ixf, e_ixr, e_sqt, e_sqf, e_sqr, e_slt, e_slr, e_rvt, e_rvr, e_lnt, e_lnf, e_lns, e_lnr, e_len, e_tuple, e_list, e_inti, e_intb, e_abs, e_divmod, e_min2, e_max2, e_all, e_any, e_app, e_ext, e_rec, e_isnk, e_isbk, e_isik, e_issk, e_istk, e_isrk, e_tn, e_tb, e_ti, e_tt, e_tf, e_tr, e_sit, e_sif, e_sir, e_part, e_augA, e_augS, e_nn, e_nnb, e_nni, e_nns, e_nnt, e_nnf, e_nnr, e_tp, e_acons, e_anil]
  rw [show eqW S (.int (ws.length : Int)) (.int 8) = some (decide ((ws.length : Int) = 8)) from rfl, decide_eq_false (by omega)]
  simp -implicitDefEqProofs -dsimp only [Wp_ok, Wp_no, Wp_er, Wp_bind, Wp_some, Wp_none, Wp_guard, Wp_iteB, runDef, dSeq2, dVar, dCon, dNil, dCons, dStar, dTup, dLst, dDct0, dBin, dNeg, dTru, dIf, dNotT, dBl, dBool, dAnd, dOr, dCmp, dCmp2, dIdx, dNoPart, dPart, dSlc, dRev, dCall, dBlt, dMet, dIsi, aNm, aSub, dItSeq, dItRng, dItRng2, dItEnu, dItZip, dItEnz, dNo, sExp, sAsg, setAll, sPar, sAug, sRet, sSeq, sNil, sCnt, sFor, wipeE, new, mtTy, tyHas, List.map_cons, List.map_nil, List.length_cons, List.length_nil, List.length_map, Nat.zero_add, Nat.add_zero, Nat.reduceAdd, Nat.reduceSub, Nat.reduceMul, Nat.reduceLeDiff, Nat.reduceEqDiff, List.replicate_succ, List.replicate_zero, List.cons_append, List.nil_append, List.append_nil, List.getElem?_cons_zero, List.getElem?_cons_succ, List.getElem?_nil, List.set_cons_zero, List.set_cons_succ, if_true, if_false, ite_true, ite_false, Bool.false_eq_true, Bool.not_true, Bool.not_false, Option.map_some, Option.map_none, reduceCtorEq, beq_self_eq_true, Nat.reduceBEq, Bool.or_true, Bool.or_false, Bool.true_or, Bool.false_or, Bool.and_true, Bool.and_false, Bool.true_and, Bool.false_and, reduceIte, decide_true, decide_false, lenLim, true_and, e_addi, e_adds, e_addt, e_addl, e_subi, e_muli, e_mult, e_mull, e_fdiv, e_mod, e_pow, e_neg, e_eq, e_ne, e_lti, e_ltt, e_lei, e_gti, e_gei, e_isn0, e_isb, e_isnn, e_isnb, e_in, e_nin, e_ixt, e_ixf, e_ixr, e_sqt, e_sqf, e_sqr, e_slt, e_slr, e_rvt, e_rvr, e_lnt, e_lnf, e_lns, e_lnr, e_len, e_tuple, e_list, e_inti, e_intb, e_abs, e_divmod, e_min2, e_max2, e_all, e_any, e_app, e_ext, e_rec, e_isnk, e_isbk, e_isik, e_issk, e_istk, e_isrk, e_tn, e_tb, e_ti, e_tt, e_tf, e_tr, e_sit, e_sif, e_sir, e_part, e_augA, e_augS, e_nn, e_nnb, e_nni, e_nns, e_nnt, e_nnf, e_nnr, e_tp, e_acons, e_anil]
  try trivial
def notTup : W → Bool
  | .tup _ => false
  | _ => true
theorem f7_non (n : Nat) (b : Int) (w : W) (S : Sto) (h : (kindW S w).isSome = true) (ht : notTup w = true) : callF Dd (n + 1) 7 [.int b, w] S = .ok (.bl false) S := by
  apply eq_of
  rw [u7]
  have hi : isW S .tuple w = some false := by
    cases w with
    | tup ws => cases ht
    | non | bl _ | int _ | str _ => rfl
    | frl ws => cases h
    | glo g => cases h
    | ref r =>
      unfold isW
      simp only [kindW] at h ⊢
      split at h
      · rfl
      · rfl
      · cases h
  simp -implicitDefEqProofs -dsimp only [Wp_ok, Wp_no, Wp_er, Wp_bind, Wp_some, Wp_none, Wp_guard, Wp_iteB, runDef, dSeq2, dVar, dCon, dNil, dCons, dStar, dTup, dLst, dDct0, dBin, dNeg, dTru, dIf, dNotT, dBl, dBool, dAnd, dOr, dCmp, dCmp2, dIdx, dNoPart, dPart, dSlc, dRev, dCall, dBlt, dMet, dIsi, aNm, aSub, dItSeq, dItRng, dItRng2, dItEnu, dItZip, dItEnz, dNo, sExp, sAsg, setAll, sPar, sAug, sRet, sSeq, sNil, sCnt, sFor, wipeE, new, mtTy, tyHas, List.map_cons, List.map_nil, List.length_cons, List.length_nil, List.length_map, Nat.zero_add, Nat.add_zero, Nat.reduceAdd, Nat.reduceSub, Nat.reduceMul, Nat.reduceLeDiff, Nat.reduceEqDiff, List.replicate_succ, List.replicate_zero, List.cons_append, List.nil_append, List.append_nil, List.getElem?_cons_zero, List.getElem?_cons_succ, List.getElem?_nil, List.set_cons_zero, List.set_cons_succ, if_true, if_false, ite_true, ite_false, Bool.false_eq_true, Bool.not_true, Bool.not_false, Option.map_some, Option.map_none, reduceCtorEq, beq_self_eq_true, Nat.reduceBEq, Bool.or_true, Bool.or_false, Bool.true_or, Bool.false_or, Bool.and_true, Bool.and_false, Bool.true_and, Bool.false_and, reduceIte, decide_true, decide_false, lenLim, true_and, e_addi, e_adds, e_addt, e_addl, e_subi, e_muli, e_mult, e_mull, e_fdiv, e_mod, e_pow, e_neg, e_eq, e_ne, e_lti, e_ltt, e_lei, e_gti, e_gei, e_isn0, e_isb, e_isnn, e_isnb, e_in, e_nin, e_ixt, e_ixf, e_ixr, e_sqt, e_sqf, e_sqr, e_slt, e_slr, e_rvt, e_rvr, e_lnt, e_lnf, e_lns, e_lnr, e_len, e_tuple, e_list, e_inti, e_intb, e_abs, e_divmod, e_min2, e_max2, e_all, e_any, e_app, e_ext, e_rec, e_isnk, e_isbk, e_isik, e_issk, e_istk, e_isrk, e_tn, e_tb, e_ti, e_tt, e_tf, e_tr, e_sit, e_sif, e_sir, e_part, e_augA, e_augS, e_nn, e_nnb, e_nni, e_nns, e_nnt, e_nnf, e_nnr, e_tp, e_acons, e_anil, hi]
  try trivial
theorem all_cnt {b : Int} {ds : List Int} (h : ∀ d ∈ ds, 0 ≤ d ∧ d < b) : (ds.map W.int).all (cntB 0 (b - 1)) = true := by
  rw [List.all_eq_true]
  intro w hw
  obtain ⟨d, hd, rfl⟩ := List.mem_map.mp hw
  have := h d hd
  simp [cntB]
  omega
theorem kind_ints (ds : List Int) (S : Sto) : ∀ w ∈ ds.map W.int, ∀ m, (kindW (S ++ m) w).isSome = true := fun w hw m => by
  obtain ⟨d, hd, rfl⟩ := List.mem_map.mp hw
  rfl
theorem f7_good (n : Nat) (b : Int) (ds : List Int) (S : Sto) (h : ok8 b ds) : Gr (callF Dd (n + 3) 7 [.int b, .tup (ds.map .int)] S) S (.bl true) := by
  have := f7_tup n b (ds.map .int) S (by rw [List.length_map, h.1]) (kind_ints ds S)
  rwa [all_cnt h.2] at this
theorem f8_gr (n : Nat) (b : Int) (w : W) (S : Sto) (v : Bool) (h1 : 2 ≤ b) (h2 : b ≤ 1000) (h : Gr (callF Dd (n + 4) 7 [.int b, w] S) S (.bl v)) : Gr (callF Dd (n + 5) 8 [.int b, w] S) S (.bl v) := by
  apply Gr.of
  rw [u8]
  simp -implicitDefEqProofs -dsimp only [Wp_ok, Wp_no, Wp_er, Wp_bind, Wp_some, Wp_none, Wp_guard, Wp_iteB, runDef, dSeq2, dVar, dCon, dNil, dCons, dStar, dTup, dLst, dDct0, dBin, dNeg, dTru, dIf, dNotT, dBl, dBool, dAnd, dOr, dCmp, dCmp2, dIdx, dNoPart, dPart, dSlc, dRev, dCall, dBlt, dMet, dIsi, aNm, aSub, dItSeq, dItRng, dItRng2, dItEnu, dItZip, dItEnz, dNo, sExp, sAsg, setAll, sPar, sAug, sRet, sSeq, sNil, sCnt, sFor, wipeE, new, mtTy, tyHas, List.map_cons, List.map_nil, List.length_cons, List.length_nil, List.length_map, Nat.zero_add, Nat.add_zero, Nat.reduceAdd, Nat.reduceSub, Nat.reduceMul, Nat.reduceLeDiff, Nat.reduceEqDiff, List.replicate_succ, List.replicate_zero, List.cons_append, List.nil_append, List.append_nil, List.getElem?_cons_zero, List.getElem?_cons_succ, List.getElem?_nil, List.set_cons_zero, List.set_cons_succ, if_true, if_false, ite_true, ite_false, Bool.false_eq_true, Bool.not_true, Bool.not_false, Option.map_some, Option.map_none, reduceCtorEq, beq_self_eq_true, Nat.reduceBEq, Bool.or_true, Bool.or_false, Bool.true_or, Bool.false_or, Bool.and_true, Bool.and_false, Bool.true_and, Bool.false_and, reduceIte, decide_true, decide_false, lenLim, true_and, e_addi, e_adds, e_addt, e_addl, e_subi, e_muli, e_mult, e_mull, e_fdiv, e_mod, e_pow, e_neg, e_eq, e_ne, e_lti, e_ltt, e_lei, e_gti, e_gei, e_isn0, e_isb, e_isnn, e_isnb, e_in, e_nin, e_ixt, e_ixf, e_ixr, e_sqt, e_sqf, e_sqr, e_slt, e_slr, e_rvt, e_rvr, e_lnt, e_lnf, e_lns, e_lnr, e_len, e_tuple, e_list, e_inti, e_intb, e_abs, e_divmod, e_min2, e_max2, e_all, e_any, e_app, e_ext, e_rec, e_isnk, e_isbk, e_isik, e_issk, e_istk, e_isrk, e_tn, e_tb, e_ti, e_tt, e_tf, e_tr, e_sit, e_sif, e_sir, e_part, e_augA, e_augS, e_nn, e_nnb, e_nni, e_nns, e_nnt, e_nnf, e_nnr, e_tp, e_acons, e_anil, f5_ok n b S h1 h2]
  refine h.wp fun m => ?_
  simp -implicitDefEqProofs -dsimp only [Wp_ok, Wp_no, Wp_er, Wp_bind, Wp_some, Wp_none, Wp_guard, Wp_iteB, runDef, dSeq2, dVar, dCon, dNil, dCons, dStar, dTup, dLst, dDct0, dBin, dNeg, dTru, dIf, dNotT, dBl, dBool, dAnd, dOr, dCmp, dCmp2, dIdx, dNoPart, dPart, dSlc, dRev, dCall, dBlt, dMet, dIsi, aNm, aSub, dItSeq, dItRng, dItRng2, dItEnu, dItZip, dItEnz, dNo, sExp, sAsg, setAll, sPar, sAug, sRet, sSeq, sNil, sCnt, sFor, wipeE, new, mtTy, tyHas, List.map_cons, List.map_nil, List.length_cons, List.length_nil, List.length_map, Nat.zero_add, Nat.add_zero, Nat.reduceAdd, Nat.reduceSub, Nat.reduceMul, Nat.reduceLeDiff, Nat.reduceEqDiff, List.replicate_succ, List.replicate_zero, List.cons_append, List.nil_append, List.append_nil, List.getElem?_cons_zero, List.getElem?_cons_succ, List.getElem?_nil, List.set_cons_zero, List.set_cons_succ, if_true, if_false, ite_true, ite_false, Bool.false_eq_true, Bool.not_true, Bool.not_false, Option.map_some, Option.map_none, reduceCtorEq, beq_self_eq_true, Nat.reduceBEq, Bool.or_true, Bool.or_false, Bool.true_or, Bool.false_or, Bool.and_true, Bool.and_false, Bool.true_and, Bool.false_and, reduceIte, decide_true, decide_false, lenLim, true_and, e_addi, e_adds, e_addt, e_addl, e_subi, e_muli, e_mult, e_mull, e_fdiv, e_mod, e_pow, e_neg, e_eq, e_ne, e_lti, e_ltt, e_lei, e_gti, e_gei, e_isn0, e_isb, e_isnn, e_isnb, e_in, e_nin, e_ixt, e_ixf, e_ixr, e_sqt, e_sqf, e_sqr, e_slt, e_slr, e_rvt, e_rvr, e_lnt, e_lnf, e_lns, e_lnr, e_len, e_tuple, e_list, e_inti, e_intb, e_abs, e_divmod, e_min2, e_max2, e_all, e_any, e_app, e_ext, e_rec, e_isnk, e_isbk, e_isik, e_issk, e_istk, e_isrk, e_tn, e_tb, e_ti, e_tt, e_tf, e_tr, e_sit, e_sif, e_sir, e_part, e_augA, e_augS, e_nn, e_nnb, e_nni, e_nns, e_nnt, e_nnf, e_nnr, e_tp, e_acons, e_anil]
  first | exact ⟨m, rfl⟩ | exact ⟨rfl, m, rfl⟩ | exact ⟨trivial, m, rfl⟩
theorem f11_ok (n : Nat) (b : Int) (ds : List Int) (S : Sto) (h1 : 2 ≤ b) (h2 : b ≤ 1000) (h : ok8 b ds) : Gr (callF Dd (n + 5) 11 [.int b, .tup (ds.map .int)] S) S (.int (hor b ds)) := by
  apply Gr.of
  rw [u11]
  simp -implicitDefEqProofs -dsimp only [Wp_ok, Wp_no, Wp_er, Wp_bind, Wp_some, Wp_none, Wp_guard, Wp_iteB, runDef, dSeq2, dVar, dCon, dNil, dCons, dStar, dTup, dLst, dDct0, dBin, dNeg, dTru, dIf, dNotT, dBl, dBool, dAnd, dOr, dCmp, dCmp2, dIdx, dNoPart, dPart, dSlc, dRev, dCall, dBlt, dMet, dIsi, aNm, aSub, dItSeq, dItRng, dItRng2, dItEnu, dItZip, dItEnz, dNo, sExp, sAsg, setAll, sPar, sAug, sRet, sSeq, sNil, sCnt, sFor, wipeE, new, mtTy, tyHas, List.map_cons, List.map_nil, List.length_cons, List.length_nil, List.length_map, Nat.zero_add, Nat.add_zero, Nat.reduceAdd, Nat.reduceSub, Nat.reduceMul, Nat.reduceLeDiff, Nat.reduceEqDiff, List.replicate_succ, List.replicate_zero, List.cons_append, List.nil_append, List.append_nil, List.getElem?_cons_zero, List.getElem?_cons_succ, List.getElem?_nil, List.set_cons_zero, List.set_cons_succ, if_true, if_false, ite_true, ite_false, Bool.false_eq_true, Bool.not_true, Bool.not_false, Option.map_some, Option.map_none, reduceCtorEq, beq_self_eq_true, Nat.reduceBEq, Bool.or_true, Bool.or_false, Bool.true_or, Bool.false_or, Bool.and_true, Bool.and_false, Bool.true_and, Bool.false_and, reduceIte, decide_true, decide_false, lenLim, true_and, e_addi, e_adds, e_addt, e_addl, e_subi, e_muli, e_mult, e_mull, e_fdiv, e_mod, e_pow, e_neg, e_eq, e_ne, e_lti, e_ltt, e_lei, e_gti, e_gei, e_isn0, e_isb, e_isnn, e_isnb, e_in, e_nin, e_ixt, e_ixf, e_ixr, e_sqt, e_sqf, e_sqr, e_slt, e_slr, e_rvt, e_rvr, e_lnt, e_lnf, e_lns, e_lnr, e_len, e_tuple, e_list, e_inti, e_intb, e_abs, e_divmod, e_min2, e_max2, e_all, e_any, e_app, e_ext, e_rec, e_isnk, e_isbk, e_isik, e_issk, e_istk, e_isrk, e_tn, e_tb, e_ti, e_tt, e_tf, e_tr, e_sit, e_sif, e_sir, e_part, e_augA, e_augS, e_nn, e_nnb, e_nni, e_nns, e_nnt, e_nnf, e_nnr, e_tp, e_acons, e_anil, f5_ok n b S h1 h2]
  refine (f7_good (n + 1) b ds S h).wp fun m => ?_
  simp -implicitDefEqProofs -dsimp only [Wp_ok, Wp_no, Wp_er, Wp_bind, Wp_some, Wp_none, Wp_guard, Wp_iteB, runDef, dSeq2, dVar, dCon, dNil, dCons, dStar, dTup, dLst, dDct0, dBin, dNeg, dTru, dIf, dNotT, dBl, dBool, dAnd, dOr, dCmp, dCmp2, dIdx, dNoPart, dPart, dSlc, dRev, dCall, dBlt, dMet, dIsi, aNm, aSub, dItSeq, dItRng, dItRng2, dItEnu, dItZip, dItEnz, dNo, sExp, sAsg, setAll, sPar, sAug, sRet, sSeq, sNil, sCnt, sFor, wipeE, new, mtTy, tyHas, List.map_cons, List.map_nil, List.length_cons, List.length_nil, List.length_map, Nat.zero_add, Nat.add_zero, Nat.reduceAdd, Nat.reduceSub, Nat.reduceMul, Nat.reduceLeDiff, Nat.reduceEqDiff, List.replicate_succ, List.replicate_zero, List.cons_append, List.nil_append, List.append_nil, List.getElem?_cons_zero, List.getElem?_cons_succ, List.getElem?_nil, List.set_cons_zero, List.set_cons_succ, if_true, if_false, ite_true, ite_false, Bool.false_eq_true, Bool.not_true, Bool.not_false, Option.map_some, Option.map_none, reduceCtorEq, beq_self_eq_true, Nat.reduceBEq, Bool.or_true, Bool.or_false, Bool.true_or, Bool.false_or, Bool.and_true, Bool.and_false, Bool.true_and, Bool.false_and, reduceIte, decide_true, decide_false, lenLim, true_and, e_addi, e_adds, e_addt, e_addl, e_subi, e_muli, e_mult, e_mull, e_fdiv, e_mod, e_pow, e_neg, e_eq, e_ne, e_lti, e_ltt, e_lei, e_gti, e_gei, e_isn0, e_isb, e_isnn, e_isnb, e_in, e_nin, e_ixt, e_ixf, e_ixr, e_sqt, e_sqf, e_sqr, e_slt, e_slr, e_rvt, e_rvr, e_lnt, e_lnf, e_lns, e_lnr, e_len, e_tuple, e_list, e_inti, e_intb, e_abs, e_divmod, e_min2, e_max2, e_all, e_any, e_app, e_ext, e_rec, e_isnk, e_isbk, e_isik, e_issk, e_istk, e_isrk, e_tn, e_tb, e_ti, e_tt, e_tf, e_tr, e_sit, e_sif, e_sir, e_part, e_augA, e_augS, e_nn, e_nnb, e_nni, e_nns, e_nnt, e_nnf, e_nnr, e_tp, e_acons, e_anil, f9_ok (n + 3) b ds (S ++ m) h1 h2 h]
  first | exact ⟨m, rfl⟩ | exact ⟨rfl, m, rfl⟩ | exact ⟨trivial, m, rfl⟩
theorem f12_ok (n : Nat) (b w : Int) (S : Sto) (h1 : 2 ≤ b) (h2 : b ≤ 1000) (hw : 0 ≤ w) (hw2 : w < b ^ 8) : callF Dd (n + 5) 12 [.int b, .int w] S = .ok .non S := by
  apply eq_of
  rw [u12]
  simp -implicitDefEqProofs -dsimp only [Wp_ok, Wp_no, Wp_er, Wp_bind, Wp_some, Wp_none, Wp_guard, Wp_iteB, runDef, dSeq2, dVar, dCon, dNil, dCons, dStar, dTup, dLst, dDct0, dBin, dNeg, dTru, dIf, dNotT, dBl, dBool, dAnd, dOr, dCmp, dCmp2, dIdx, dNoPart, dPart, dSlc, dRev, dCall, dBlt, dMet, dIsi, aNm, aSub, dItSeq, dItRng, dItRng2, dItEnu, dItZip, dItEnz, dNo, sExp, sAsg, setAll, sPar, sAug, sRet, sSeq, sNil, sCnt, sFor, wipeE, new, mtTy, tyHas, List.map_cons, List.map_nil, List.length_cons, List.length_nil, List.length_map, Nat.zero_add, Nat.add_zero, Nat.reduceAdd, Nat.reduceSub, Nat.reduceMul, Nat.reduceLeDiff, Nat.reduceEqDiff, List.replicate_succ, List.replicate_zero, List.cons_append, List.nil_append, List.append_nil, List.getElem?_cons_zero, List.getElem?_cons_succ, List.getElem?_nil, List.set_cons_zero, List.set_cons_succ, if_true, if_false, ite_true, ite_false, Bool.false_eq_true, Bool.not_true, Bool.not_false, Option.map_some, Option.map_none, reduceCtorEq, beq_self_eq_true, Nat.reduceBEq, Bool.or_true, Bool.or_false, Bool.true_or, Bool.false_or, Bool.and_true, Bool.and_false, Bool.true_and, Bool.false_and, reduceIte, decide_true, decide_false, lenLim, true_and, e_addi, e_adds, e_addt, e_addl, e_subi, e_muli, e_mult, e_mull, e_fdiv, e_mod, e_pow, e_neg, e_eq, e_ne, e_lti, e_ltt, e_lei, e_gti, e_gei, e_isn0, e_isb, e_isnn, e_isnb, e_in, e_nin, e_ixt, e_ixf, e_ixr, e_sqt, e_sqf, e_sqr, e_slt, e_slr, e_rvt, e_rvr, e_lnt, e_lnf, e_lns, e_lnr, e_len, e_tuple, e_list, e_inti, e_intb, e_abs, e_divmod, e_min2, e_max2, e_all, e_any, e_app, e_ext, e_rec, e_isnk, e_isbk, e_isik, e_issk, e_istk, e_isrk, e_tn, e_tb, e_ti, e_tt, e_tf, e_tr, e_sit, e_sif, e_sir, e_part, e_augA, e_augS, e_nn, e_nnb, e_nni, e_nns, e_nnt, e_nnf, e_nnr, e_tp, e_acons, e_anil, f5_ok n b S h1 h2, f6_ok (n + 3) b S h1 h2, f2_ok (n + 1) w 0 (b ^ 8 - 1) S hw (by omega)]
  try trivial
theorem f13_ok (n : Nat) (b w : Int) (S : Sto) (h1 : 2 ≤ b) (h2 : b ≤ 1000) (hw : 0 ≤ w) (hw2 : w < b ^ 8) : Gr (callF Dd (n + 6) 13 [.int b, .int w] S) S (.tup ((digs b 8 w).map .int)) := by
  apply Gr.of
  rw [u13]
  simp -implicitDefEqProofs -dsimp only [Wp_ok, Wp_no, Wp_er, Wp_bind, Wp_some, Wp_none, Wp_guard, Wp_iteB, runDef, dSeq2, dVar, dCon, dNil, dCons, dStar, dTup, dLst, dDct0, dBin, dNeg, dTru, dIf, dNotT, dBl, dBool, dAnd, dOr, dCmp, dCmp2, dIdx, dNoPart, dPart, dSlc, dRev, dCall, dBlt, dMet, dIsi, aNm, aSub, dItSeq, dItRng, dItRng2, dItEnu, dItZip, dItEnz, dNo, sExp, sAsg, setAll, sPar, sAug, sRet, sSeq, sNil, sCnt, sFor, wipeE, new, mtTy, tyHas, List.map_cons, List.map_nil, List.length_cons, List.length_nil, List.length_map, Nat.zero_add, Nat.add_zero, Nat.reduceAdd, Nat.reduceSub, Nat.reduceMul, Nat.reduceLeDiff, Nat.reduceEqDiff, List.replicate_succ, List.replicate_zero, List.cons_append, List.nil_append, List.append_nil, List.getElem?_cons_zero, List.getElem?_cons_succ, List.getElem?_nil, List.set_cons_zero, List.set_cons_succ, if_true, if_false, ite_true, ite_false, Bool.false_eq_true, Bool.not_true, Bool.not_false, Option.map_some, Option.map_none, reduceCtorEq, beq_self_eq_true, Nat.reduceBEq, Bool.or_true, Bool.or_false, Bool.true_or, Bool.false_or, Bool.and_true, Bool.and_false, Bool.true_and, Bool.false_and, reduceIte, decide_true, decide_false, lenLim, true_and, e_addi, e_adds, e_addt, e_addl, e_subi, e_muli, e_mult, e_mull, e_fdiv, e_mod, e_pow, e_neg, e_eq, e_ne, e_lti, e_ltt, e_lei, e_gti, e_gei, e_isn0, e_isb, e_isnn, e_isnb, e_in, e_nin, e_ixt, e_ixf, e_ixr, e_sqt, e_sqf, e_sqr, e_slt, e_slr, e_rvt, e_rvr, e_lnt, e_lnf, e_lns, e_lnr, e_len, e_tuple, e_list, e_inti, e_intb, e_abs, e_divmod, e_min2, e_max2, e_all, e_any, e_app, e_ext, e_rec, e_isnk, e_isbk, e_isik, e_issk, e_istk, e_isrk, e_tn, e_tb, e_ti, e_tt, e_tf, e_tr, e_sit, e_sif, e_sir, e_part, e_augA, e_augS, e_nn, e_nnb, e_nni, e_nns, e_nnt, e_nnf, e_nnr, e_tp, e_acons, e_anil, f12_ok n b w S h1 h2 hw hw2, f10_ok (n + 4) b w S h1 h2]
  first | exact ⟨_, rfl⟩ | exact ⟨rfl, _, rfl⟩ | exact ⟨trivial, _, rfl⟩
theorem at_ok {α : Type} {xs : List α} {i : Int} {x : α} (h0 : 0 ≤ i) (h : xs[i.toNat]? = some x) : L2.atI xs i = some x := by
  have hl := (List.getElem?_eq_some_iff.mp h).1
  unfold L2.atI L2.ixN
  rw [if_pos h0, if_pos (by omega)]
  exact h
theorem f14_ok (n : Nat) (b w i d : Int) (S : Sto) (h1 : 2 ≤ b) (h2 : b ≤ 1000) (hw : 0 ≤ w) (hw2 : w < b ^ 8) (hi : 0 ≤ i) (hi2 : i < 8) (hd : (digs b 8 w)[i.toNat]? = some d) : Gr (callF Dd (n + 6) 14 [.int b, .int w, .int i] S) S (.int d) := by
  apply Gr.of
  rw [u14]
  have ha : L2.atI ((digs b 8 w).map W.int) i = some (.int d) := at_ok hi (by rw [List.getElem?_map, hd]; rfl)
  have e : ∀ S', callF Dd (n + 5) 2 [.int i, .int 0, .int (8 - 1)] S' = .ok (.int i) S' := fun S' => f2_ok (n + 2) i 0 (8 - 1) S' hi (by omega)
  simp -implicitDefEqProofs -dsimp only [Wp_ok, Wp_no, Wp_er, Wp_bind, Wp_some, Wp_none, Wp_guard, Wp_iteB, runDef, dSeq2, dVar, dCon, dNil, dCons, dStar, dTup, dLst, dDct0, dBin, dNeg, dTru, dIf, dNotT, dBl, dBool, dAnd, dOr, dCmp, dCmp2, dIdx, dNoPart, dPart, dSlc, dRev, dCall, dBlt, dMet, dIsi, aNm, aSub, dItSeq, dItRng, dItRng2, dItEnu, dItZip, dItEnz, dNo, sExp, sAsg, setAll, sPar, sAug, sRet, sSeq, sNil, sCnt, sFor, wipeE, new, mtTy, tyHas, List.map_cons, List.map_nil, List.length_cons, List.length_nil, List.length_map, Nat.zero_add, Nat.add_zero, Nat.reduceAdd, Nat.reduceSub, Nat.reduceMul, Nat.reduceLeDiff, Nat.reduceEqDiff, List.replicate_succ, List.replicate_zero, List.cons_append, List.nil_append, List.append_nil, List.getElem?_cons_zero, List.getElem?_cons_succ, List.getElem?_nil, List.set_cons_zero, List.set_cons_succ, if_true, if_false, ite_true, ite_false, Bool.false_eq_true, Bool.not_true, Bool.not_false, Option.map_some, Option.map_none, reduceCtorEq, beq_self_eq_true, Nat.reduceBEq, Bool.or_true, Bool.or_false, Bool.true_or, Bool.false_or, Bool.and_true, Bool.and_false, Bool.true_and, Bool.false_and, reduceIte, decide_true, decide_false, lenLim, true_and, e_addi, e_adds, e_addt, e_addl, e_subi, e_muli, e_mult, e_mull, e_fdiv, e_mod, e_pow, e_neg, e_eq, e_ne, e_lti, e_ltt, e_lei, e_gti, e_gei, e_isn0, e_isb, e_isnn, e_isnb, e_in, e_nin, e_ixt, e_ixf, e_ixr, e_sqt, e_sqf, e_sqr, e_slt, e_slr, e_rvt, e_rvr, e_lnt, e_lnf, e_lns, e_lnr, e_len, e_tuple, e_list, e_inti, e_intb, e_abs, e_divmod, e_min2, e_max2, e_all, e_any, e_app, e_ext, e_rec, e_isnk, e_isbk, e_isik, e_issk, e_istk, e_isrk, e_tn, e_tb, e_ti, e_tt, e_tf, e_tr, e_sit, e_sif, e_sir, e_part, e_augA, e_augS, e_nn, e_nnb, e_nni, e_nns, e_nnt, e_nnf, e_nnr, e_tp, e_acons, e_anil, f12_ok n b w S h1 h2 hw hw2, f10_ok (n + 4) b w S h1 h2, e, ha]
  first | exact ⟨_, rfl⟩ | exact ⟨rfl, _, rfl⟩ | exact ⟨trivial, _, rfl⟩
/-- a page with one entry otherwise -/
theorem cut_lo (ws : List W) (i : Int) (h0 : 0 ≤ i) (hi : i < ws.length) : cutW ws none (some i) = ws.take i.toNat := by
  unfold cutW HT.sIx
  simp only [if_neg (show ¬ i < 0 by omega)]
  rw [List.drop_zero, Nat.sub_zero]
  congr 1
  omega
theorem cut_hi (ws : List W) (i : Int) (h0 : 0 ≤ i) (hi : i ≤ ws.length) : cutW ws (some i) none = ws.drop i.toNat := by
  unfold cutW HT.sIx
  simp only [if_neg (show ¬ i < 0 by omega)]
  rw [show min i.toNat ws.length = i.toNat by omega]
  apply List.take_of_length_le
  rw [List.length_drop]
  exact Nat.le_refl _
theorem cut_set (ds : List Int) (i : Int) (x : Int) (h0 : 0 ≤ i) (hi : i < ds.length) : cutW (ds.map W.int) none (some i) ++ W.int x :: cutW (ds.map W.int) (some (i + 1)) none = (ds.set i.toNat x).map W.int := by
  rw [cut_lo _ _ h0 (by simpa using hi), cut_hi _ _ (by omega) (by simp; omega), ← List.map_take, ← List.map_drop]
  rw [List.set_eq_take_append_cons_drop, if_pos (by omega), List.map_append, List.map_cons, show (i + 1).toNat = i.toNat + 1 by omega]
theorem set_ok8 {b : Int} {ds : List Int} {i : Nat} {x : Int} (h : ok8 b ds) (h0 : 0 ≤ x) (h1 : x < b) : ok8 b (ds.set i x) := ⟨by rw [List.length_set, h.1], fun d hd => by
  rcases List.mem_or_eq_of_mem_set hd with q | q
  · exact h.2 d q
  · rw [q]; exact ⟨h0, h1⟩⟩
theorem digs_ok8 {b : Int} (h : 0 < b) (w : Int) : ok8 b (digs b 8 w) := ⟨digs_len b 8 w, digs_rng h 8 w⟩
theorem f15_ok (n : Nat) (b w i x : Int) (S : Sto) (h1 : 2 ≤ b) (h2 : b ≤ 1000) (hw : 0 ≤ w) (hw2 : w < b ^ 8) (hi : 0 ≤ i) (hi2 : i < 8) (hx : 0 ≤ x) (hx2 : x < b) : Gr (callF Dd (n + 6) 15 [.int b, .int w, .int i, .int x] S) S (.int (hor b ((digs b 8 w).set i.toNat x))) := by
  apply Gr.of
  rw [u15]
  have e : ∀ S', callF Dd (n + 5) 2 [.int i, .int 0, .int (8 - 1)] S' = .ok (.int i) S' := fun S' => f2_ok (n + 2) i 0 (8 - 1) S' hi (by omega)
  have e2 : ∀ S', callF Dd (n + 5) 2 [.int x, .int 0, .int (b - 1)] S' = .ok (.int x) S' := fun S' => f2_ok (n + 2) x 0 (b - 1) S' hx (by omega)
  have hl : (digs b 8 w).length = 8 := digs_len b 8 w
  have hc := cut_set (digs b 8 w) i x hi (by omega)
  have hln : (cutW ((digs b 8 w).map W.int) none (some i) ++ W.int x :: cutW ((digs b 8 w).map W.int) (some (i + 1)) none).length ≤ 16777216 := by
    rw [hc, List.length_map, List.length_set, hl]
    decide
  have hln2 := hc
  simp -implicitDefEqProofs -dsimp only [Wp_ok, Wp_no, Wp_er, Wp_bind, Wp_some, Wp_none, Wp_guard, Wp_iteB, runDef, dSeq2, dVar, dCon, dNil, dCons, dStar, dTup, dLst, dDct0, dBin, dNeg, dTru, dIf, dNotT, dBl, dBool, dAnd, dOr, dCmp, dCmp2, dIdx, dNoPart, dPart, dSlc, dRev, dCall, dBlt, dMet, dIsi, aNm, aSub, dItSeq, dItRng, dItRng2, dItEnu, dItZip, dItEnz, dNo, sExp, sAsg, setAll, sPar, sAug, sRet, sSeq, sNil, sCnt, sFor, wipeE, new, mtTy, tyHas, List.map_cons, List.map_nil, List.length_cons, List.length_nil, List.length_map, Nat.zero_add, Nat.add_zero, Nat.reduceAdd, Nat.reduceSub, Nat.reduceMul, Nat.reduceLeDiff, Nat.reduceEqDiff, List.replicate_succ, List.replicate_zero, List.cons_append, List.nil_append, List.append_nil, List.getElem?_cons_zero, List.getElem?_cons_succ, List.getElem?_nil, List.set_cons_zero, List.set_cons_succ, if_true, if_false, ite_true, ite_false, Bool.false_eq_true, Bool.not_true, Bool.not_false, Option.map_some, Option.map_none, reduceCtorEq, beq_self_eq_true, Nat.reduceBEq, Bool.or_true, Bool.or_false, Bool.true_or, Bool.false_or, Bool.and_true, Bool.and_false, Bool.true_and, Bool.false_and, reduceIte, decide_true, decide_false, lenLim, true_and, e_addi, e_adds, e_addt, e_addl, e_subi, e_muli, e_mult, e_mull, e_fdiv, e_mod, e_pow, e_neg, e_eq, e_ne, e_lti, e_ltt, e_lei, e_gti, e_gei, e_isn0, e_isb, e_isnn, e_isnb, e_in, e_nin, e_ixt, e_ixf, e_ixr, e_sqt, e_sqf, e_sqr, e_slt, e_slr, e_rvt, e_rvr, e_lnt, e_lnf, e_lns, e_lnr, e_len, e_tuple, e_list, e_inti, e_intb, e_abs, e_divmod, e_min2, e_max2, e_all, e_any, e_app, e_ext, e_rec, e_isnk, e_isbk, e_isik, e_issk, e_istk, e_isrk, e_tn, e_tb, e_ti, e_tt, e_tf, e_tr, e_sit, e_sif, e_sir, e_part, e_augA, e_augS, e_nn, e_nnb, e_nni, e_nns, e_nnt, e_nnf, e_nnr, e_tp, e_acons, e_anil, f12_ok n b w S h1 h2 hw hw2, f10_ok (n + 4) b w S h1 h2, e, e2, hc, List.length_set, hl]
  rw [f9_ok (n + 4) b _ _ h1 h2 (set_ok8 (digs_ok8 (by omega) w) hx hx2)]
  exact ⟨rfl, _, rfl⟩
theorem Wp_noErr_eq {α : Type} (r : R α) (P : α → Sto → Prop) (E : Nat → Option W → Sto → Prop) : Wp (noErr r) P E = Wp r P E0 := by cases r <;> rfl
theorem chk_nil (S : Sto) : chkOk [] S = true := rfl
theorem f3_ok (n : Nat) (p q t : Int) (S : Sto) (hp : 1 ≤ p) (hp2 : p ≤ 200) (hq : 1 ≤ q) (hq2 : q ≤ 1000000000000000000000000000000) (ht : 1 ≤ t) (ht2 : t ≤ 20000) : Gr (callF Dd (n + 3) 3 [.tup [.int p, .int q, .int t]] S) S (.bl true) := by
  apply Gr.of
  rw [u3]
  have e : ∀ (x a c : Int) (S' : Sto), callF Dd (n + 2) 1 [.int x, .int a, .int c] S' = .ok (.bl (decide (a ≤ x) && decide (x ≤ c))) S' := fun x a c S' => f1_any n (.int x) a c S' rfl
  simp -implicitDefEqProofs -dsimp only [Wp_ok, Wp_no, Wp_er, Wp_bind, Wp_some, Wp_none, Wp_guard, Wp_iteB, runDef, dSeq2, dVar, dCon, dNil, dCons, dStar, dTup, dLst, dDct0, dBin, dNeg, dTru, dIf, dNotT, dBl, dBool, dAnd, dOr, dCmp, dCmp2, dIdx, dNoPart, dPart, dSlc, dRev, dCall, dBlt, dMet, dIsi, aNm, aSub, dItSeq, dItRng, dItRng2, dItEnu, dItZip, dItEnz, dNo, sExp, sAsg, setAll, sPar, sAug, sRet, sSeq, sNil, sCnt, sFor, wipeE, new, mtTy, tyHas, List.map_cons, List.map_nil, List.length_cons, List.length_nil, List.length_map, Nat.zero_add, Nat.add_zero, Nat.reduceAdd, Nat.reduceSub, Nat.reduceMul, Nat.reduceLeDiff, Nat.reduceEqDiff, List.replicate_succ, List.replicate_zero, List.cons_append, List.nil_append, List.append_nil, List.getElem?_cons_zero, List.getElem?_cons_succ, List.getElem?_nil, List.set_cons_zero, List.set_cons_succ, if_true, if_false, ite_true, ite_false, Bool.false_eq_true, Bool.not_true, Bool.not_false, Option.map_some, Option.map_none, reduceCtorEq, beq_self_eq_true, Nat.reduceBEq, Bool.or_true, Bool.or_false, Bool.true_or, Bool.false_or, Bool.and_true, Bool.and_false, Bool.true_and, Bool.false_and, reduceIte, decide_true, decide_false, lenLim, true_and, e_addi, e_adds, e_addt, e_addl, e_subi, e_muli, e_mult, e_mull, e_fdiv, e_mod, e_pow, e_neg, e_eq, e_ne, e_lti, e_ltt, e_lei, e_gti, e_gei, e_isn0, e_isb, e_isnn, e_isnb, e_in, e_nin, e_ixt, e_ixf, e_ixr, e_sqt, e_sqf, e_sqr, e_slt, e_slr, e_rvt, e_rvr, e_lnt, e_lnf, e_lns, e_lnr, e_len, e_tuple, e_list, e_inti, e_intb, e_abs, e_divmod, e_min2, e_max2, e_all, e_any, e_app, e_ext, e_rec, e_isnk, e_isbk, e_isik, e_issk, e_istk, e_isrk, e_tn, e_tb, e_ti, e_tt, e_tf, e_tr, e_sit, e_sif, e_sir, e_part, e_augA, e_augS, e_nn, e_nnb, e_nni, e_nns, e_nnt, e_nnf, e_nnr, e_tp, e_acons, e_anil]
  rw [show eqW S (.int (3 : Nat)) (.int 3) = some true from rfl]
  simp -implicitDefEqProofs -dsimp only [Wp_ok, Wp_no, Wp_er, Wp_bind, Wp_some, Wp_none, Wp_guard, Wp_iteB, runDef, dSeq2, dVar, dCon, dNil, dCons, dStar, dTup, dLst, dDct0, dBin, dNeg, dTru, dIf, dNotT, dBl, dBool, dAnd, dOr, dCmp, dCmp2, dIdx, dNoPart, dPart, dSlc, dRev, dCall, dBlt, dMet, dIsi, aNm, aSub, dItSeq, dItRng, dItRng2, dItEnu, dItZip, dItEnz, dNo, sExp, sAsg, setAll, sPar, sAug, sRet, sSeq, sNil, sCnt, sFor, wipeE, new, mtTy, tyHas, List.map_cons, List.map_nil, List.length_cons, List.length_nil, List.length_map, Nat.zero_add, Nat.add_zero, Nat.reduceAdd, Nat.reduceSub, Nat.reduceMul, Nat.reduceLeDiff, Nat.reduceEqDiff, List.replicate_succ, List.replicate_zero, List.cons_append, List.nil_append, List.append_nil, List.getElem?_cons_zero, List.getElem?_cons_succ, List.getElem?_nil, List.set_cons_zero, List.set_cons_succ, if_true, if_false, ite_true, ite_false, Bool.false_eq_true, Bool.not_true, Bool.not_false, Option.map_some, Option.map_none, reduceCtorEq, beq_self_eq_true, Nat.reduceBEq, Bool.or_true, Bool.or_false, Bool.true_or, Bool.false_or, Bool.and_true, Bool.and_false, Bool.true_and, Bool.false_and, reduceIte, decide_true, decide_false, lenLim, true_and, e_addi, e_adds, e_addt, e_addl, e_subi, e_muli, e_mult, e_mull, e_fdiv, e_mod, e_pow, e_neg, e_eq, e_ne, e_lti, e_ltt, e_lei, e_gti, e_gei, e_isn0, e_isb, e_isnn, e_isnb, e_in, e_nin, e_ixt, e_ixf, e_ixr, e_sqt, e_sqf, e_sqr, e_slt, e_slr, e_rvt, e_rvr, e_lnt, e_lnf, e_lns, e_lnr, e_len, e_tuple, e_list, e_inti, e_intb, e_abs, e_divmod, e_min2, e_max2, e_all, e_any, e_app, e_ext, e_rec, e_isnk, e_isbk, e_isik, e_issk, e_istk, e_isrk, e_tn, e_tb, e_ti, e_tt, e_tf, e_tr, e_sit, e_sif, e_sir, e_part, e_augA, e_augS, e_nn, e_nnb, e_nni, e_nns, e_nnt, e_nnf, e_nnr, e_tp, e_acons, e_anil, dLc, Wp_noErr_eq, zipI, zipW, lcLoop, chk_nil, e, wBools, List.append_eq]
  simp -implicitDefEqProofs -dsimp only [Wp_ok, Wp_no, Wp_er, Wp_bind, Wp_some, Wp_none, Wp_guard, Wp_iteB, runDef, dSeq2, dVar, dCon, dNil, dCons, dStar, dTup, dLst, dDct0, dBin, dNeg, dTru, dIf, dNotT, dBl, dBool, dAnd, dOr, dCmp, dCmp2, dIdx, dNoPart, dPart, dSlc, dRev, dCall, dBlt, dMet, dIsi, aNm, aSub, dItSeq, dItRng, dItRng2, dItEnu, dItZip, dItEnz, dNo, sExp, sAsg, setAll, sPar, sAug, sRet, sSeq, sNil, sCnt, sFor, wipeE, new, mtTy, tyHas, List.map_cons, List.map_nil, List.length_cons, List.length_nil, List.length_map, Nat.zero_add, Nat.add_zero, Nat.reduceAdd, Nat.reduceSub, Nat.reduceMul, Nat.reduceLeDiff, Nat.reduceEqDiff, List.replicate_succ, List.replicate_zero, List.cons_append, List.nil_append, List.append_nil, List.getElem?_cons_zero, List.getElem?_cons_succ, List.getElem?_nil, List.set_cons_zero, List.set_cons_succ, if_true, if_false, ite_true, ite_false, Bool.false_eq_true, Bool.not_true, Bool.not_false, Option.map_some, Option.map_none, reduceCtorEq, beq_self_eq_true, Nat.reduceBEq, Bool.or_true, Bool.or_false, Bool.true_or, Bool.false_or, Bool.and_true, Bool.and_false, Bool.true_and, Bool.false_and, reduceIte, decide_true, decide_false, lenLim, true_and, e_addi, e_adds, e_addt, e_addl, e_subi, e_muli, e_mult, e_mull, e_fdiv, e_mod, e_pow, e_neg, e_eq, e_ne, e_lti, e_ltt, e_lei, e_gti, e_gei, e_isn0, e_isb, e_isnn, e_isnb, e_in, e_nin, e_ixt, e_ixf, e_ixr, e_sqt, e_sqf, e_sqr, e_slt, e_slr, e_rvt, e_rvr, e_lnt, e_lnf, e_lns, e_lnr, e_len, e_tuple, e_list, e_inti, e_intb, e_abs, e_divmod, e_min2, e_max2, e_all, e_any, e_app, e_ext, e_rec, e_isnk, e_isbk, e_isik, e_issk, e_istk, e_isrk, e_tn, e_tb, e_ti, e_tt, e_tf, e_tr, e_sit, e_sif, e_sir, e_part, e_augA, e_augS, e_nn, e_nnb, e_nni, e_nns, e_nnt, e_nnf, e_nnr, e_tp, e_acons, e_anil, at_last, wBools]
  simp [hp, hp2, hq, hq2, ht, ht2]
theorem f17_ok (n : Nat) (b p t : Int) (S : Sto) (h1 : 2 ≤ b) (h2 : b ≤ 1000) (hp : 1 ≤ p) (hp2 : p ≤ 200) (ht : 1 ≤ t) (ht2 : t ≤ 20000) : Gr (callF Dd (n + 6) 17 [.int b, .int p, .int t] S) S (.tup [.int p, .int (b ^ 8), .int t]) := by
  apply Gr.of
  have e16 : callF Dd (n + 5) 16 [.int b, .int p, .int t] S = .ok (.tup [.int p, .int (b ^ 8), .int t]) S := by
    apply eq_of
    rw [u16]
    simp -implicitDefEqProofs -dsimp only [Wp_ok, Wp_no, Wp_er, Wp_bind, Wp_some, Wp_none, Wp_guard, Wp_iteB, runDef, dSeq2, dVar, dCon, dNil, dCons, dStar, dTup, dLst, dDct0, dBin, dNeg, dTru, dIf, dNotT, dBl, dBool, dAnd, dOr, dCmp, dCmp2, dIdx, dNoPart, dPart, dSlc, dRev, dCall, dBlt, dMet, dIsi, aNm, aSub, dItSeq, dItRng, dItRng2, dItEnu, dItZip, dItEnz, dNo, sExp, sAsg, setAll, sPar, sAug, sRet, sSeq, sNil, sCnt, sFor, wipeE, new, mtTy, tyHas, List.map_cons, List.map_nil, List.length_cons, List.length_nil, List.length_map, Nat.zero_add, Nat.add_zero, Nat.reduceAdd, Nat.reduceSub, Nat.reduceMul, Nat.reduceLeDiff, Nat.reduceEqDiff, List.replicate_succ, List.replicate_zero, List.cons_append, List.nil_append, List.append_nil, List.getElem?_cons_zero, List.getElem?_cons_succ, List.getElem?_nil, List.set_cons_zero, List.set_cons_succ, if_true, if_false, ite_true, ite_false, Bool.false_eq_true, Bool.not_true, Bool.not_false, Option.map_some, Option.map_none, reduceCtorEq, beq_self_eq_true, Nat.reduceBEq, Bool.or_true, Bool.or_false, Bool.true_or, Bool.false_or, Bool.and_true, Bool.and_false, Bool.true_and, Bool.false_and, reduceIte, decide_true, decide_false, lenLim, true_and, e_addi, e_adds, e_addt, e_addl, e_subi, e_muli, e_mult, e_mull, e_fdiv, e_mod, e_pow, e_neg, e_eq, e_ne, e_lti, e_ltt, e_lei, e_gti, e_gei, e_isn0, e_isb, e_isnn, e_isnb, e_in, e_nin, e_ixt, e_ixf, e_ixr, e_sqt, e_sqf, e_sqr, e_slt, e_slr, e_rvt, e_rvr, e_lnt, e_lnf, e_lns, e_lnr, e_len, e_tuple, e_list, e_inti, e_intb, e_abs, e_divmod, e_min2, e_max2, e_all, e_any, e_app, e_ext, e_rec, e_isnk, e_isbk, e_isik, e_issk, e_istk, e_isrk, e_tn, e_tb, e_ti, e_tt, e_tf, e_tr, e_sit, e_sif, e_sir, e_part, e_augA, e_augS, e_nn, e_nnb, e_nni, e_nns, e_nnt, e_nnf, e_nnr, e_tp, e_acons, e_anil, f6_ok (n + 3) b S h1 h2]
    try trivial
  have e4 : Gr (callF Dd (n + 5) 4 [.tup [.int p, .int (b ^ 8), .int t]] S) S (.tup [.int p, .int (b ^ 8), .int t]) := by
    apply Gr.of
    rw [u4]
    obtain ⟨q1, q2⟩ := pow8 h1 h2 (k := 8) (by omega)
    have q3 : (1000 : Int) ^ 8 ≤ 1000000000000000000000000000000 := by decide
    simp -implicitDefEqProofs -dsimp only [Wp_ok, Wp_no, Wp_er, Wp_bind, Wp_some, Wp_none, Wp_guard, Wp_iteB, runDef, dSeq2, dVar, dCon, dNil, dCons, dStar, dTup, dLst, dDct0, dBin, dNeg, dTru, dIf, dNotT, dBl, dBool, dAnd, dOr, dCmp, dCmp2, dIdx, dNoPart, dPart, dSlc, dRev, dCall, dBlt, dMet, dIsi, aNm, aSub, dItSeq, dItRng, dItRng2, dItEnu, dItZip, dItEnz, dNo, sExp, sAsg, setAll, sPar, sAug, sRet, sSeq, sNil, sCnt, sFor, wipeE, new, mtTy, tyHas, List.map_cons, List.map_nil, List.length_cons, List.length_nil, List.length_map, Nat.zero_add, Nat.add_zero, Nat.reduceAdd, Nat.reduceSub, Nat.reduceMul, Nat.reduceLeDiff, Nat.reduceEqDiff, List.replicate_succ, List.replicate_zero, List.cons_append, List.nil_append, List.append_nil, List.getElem?_cons_zero, List.getElem?_cons_succ, List.getElem?_nil, List.set_cons_zero, List.set_cons_succ, if_true, if_false, ite_true, ite_false, Bool.false_eq_true, Bool.not_true, Bool.not_false, Option.map_some, Option.map_none, reduceCtorEq, beq_self_eq_true, Nat.reduceBEq, Bool.or_true, Bool.or_false, Bool.true_or, Bool.false_or, Bool.and_true, Bool.and_false, Bool.true_and, Bool.false_and, reduceIte, decide_true, decide_false, lenLim, true_and, e_addi, e_adds, e_addt, e_addl, e_subi, e_muli, e_mult, e_mull, e_fdiv, e_mod, e_pow, e_neg, e_eq, e_ne, e_lti, e_ltt, e_lei, e_gti, e_gei, e_isn0, e_isb, e_isnn, e_isnb, e_in, e_nin, e_ixt, e_ixf, e_ixr, e_sqt, e_sqf, e_sqr, e_slt, e_slr, e_rvt, e_rvr, e_lnt, e_lnf, e_lns, e_lnr, e_len, e_tuple, e_list, e_inti, e_intb, e_abs, e_divmod, e_min2, e_max2, e_all, e_any, e_app, e_ext, e_rec, e_isnk, e_isbk, e_isik, e_issk, e_istk, e_isrk, e_tn, e_tb, e_ti, e_tt, e_tf, e_tr, e_sit, e_sif, e_sir, e_part, e_augA, e_augS, e_nn, e_nnb, e_nni, e_nns, e_nnt, e_nnf, e_nnr, e_tp, e_acons, e_anil]
    refine (f3_ok (n + 1) p (b ^ 8) t S hp hp2 q1 (by omega) ht ht2).wp fun m => ?_
    simp -implicitDefEqProofs -dsimp only [Wp_ok, Wp_no, Wp_er, Wp_bind, Wp_some, Wp_none, Wp_guard, Wp_iteB, runDef, dSeq2, dVar, dCon, dNil, dCons, dStar, dTup, dLst, dDct0, dBin, dNeg, dTru, dIf, dNotT, dBl, dBool, dAnd, dOr, dCmp, dCmp2, dIdx, dNoPart, dPart, dSlc, dRev, dCall, dBlt, dMet, dIsi, aNm, aSub, dItSeq, dItRng, dItRng2, dItEnu, dItZip, dItEnz, dNo, sExp, sAsg, setAll, sPar, sAug, sRet, sSeq, sNil, sCnt, sFor, wipeE, new, mtTy, tyHas, List.map_cons, List.map_nil, List.length_cons, List.length_nil, List.length_map, Nat.zero_add, Nat.add_zero, Nat.reduceAdd, Nat.reduceSub, Nat.reduceMul, Nat.reduceLeDiff, Nat.reduceEqDiff, List.replicate_succ, List.replicate_zero, List.cons_append, List.nil_append, List.append_nil, List.getElem?_cons_zero, List.getElem?_cons_succ, List.getElem?_nil, List.set_cons_zero, List.set_cons_succ, if_true, if_false, ite_true, ite_false, Bool.false_eq_true, Bool.not_true, Bool.not_false, Option.map_some, Option.map_none, reduceCtorEq, beq_self_eq_true, Nat.reduceBEq, Bool.or_true, Bool.or_false, Bool.true_or, Bool.false_or, Bool.and_true, Bool.and_false, Bool.true_and, Bool.false_and, reduceIte, decide_true, decide_false, lenLim, true_and, e_addi, e_adds, e_addt, e_addl, e_subi, e_muli, e_mult, e_mull, e_fdiv, e_mod, e_pow, e_neg, e_eq, e_ne, e_lti, e_ltt, e_lei, e_gti, e_gei, e_isn0, e_isb, e_isnn, e_isnb, e_in, e_nin, e_ixt, e_ixf, e_ixr, e_sqt, e_sqf, e_sqr, e_slt, e_slr, e_rvt, e_rvr, e_lnt, e_lnf, e_lns, e_lnr, e_len, e_tuple, e_list, e_inti, e_intb, e_abs, e_divmod, e_min2, e_max2, e_all, e_any, e_app, e_ext, e_rec, e_isnk, e_isbk, e_isik, e_issk, e_istk, e_isrk, e_tn, e_tb, e_ti, e_tt, e_tf, e_tr, e_sit, e_sif, e_sir, e_part, e_augA, e_augS, e_nn, e_nnb, e_nni, e_nns, e_nnt, e_nnf, e_nnr, e_tp, e_acons, e_anil]
    first | exact ⟨m, rfl⟩ | exact ⟨rfl, m, rfl⟩ | exact ⟨trivial, m, rfl⟩
  rw [u17]
  simp -implicitDefEqProofs -dsimp only [Wp_ok, Wp_no, Wp_er, Wp_bind, Wp_some, Wp_none, Wp_guard, Wp_iteB, runDef, dSeq2, dVar, dCon, dNil, dCons, dStar, dTup, dLst, dDct0, dBin, dNeg, dTru, dIf, dNotT, dBl, dBool, dAnd, dOr, dCmp, dCmp2, dIdx, dNoPart, dPart, dSlc, dRev, dCall, dBlt, dMet, dIsi, aNm, aSub, dItSeq, dItRng, dItRng2, dItEnu, dItZip, dItEnz, dNo, sExp, sAsg, setAll, sPar, sAug, sRet, sSeq, sNil, sCnt, sFor, wipeE, new, mtTy, tyHas, List.map_cons, List.map_nil, List.length_cons, List.length_nil, List.length_map, Nat.zero_add, Nat.add_zero, Nat.reduceAdd, Nat.reduceSub, Nat.reduceMul, Nat.reduceLeDiff, Nat.reduceEqDiff, List.replicate_succ, List.replicate_zero, List.cons_append, List.nil_append, List.append_nil, List.getElem?_cons_zero, List.getElem?_cons_succ, List.getElem?_nil, List.set_cons_zero, List.set_cons_succ, if_true, if_false, ite_true, ite_false, Bool.false_eq_true, Bool.not_true, Bool.not_false, Option.map_some, Option.map_none, reduceCtorEq, beq_self_eq_true, Nat.reduceBEq, Bool.or_true, Bool.or_false, Bool.true_or, Bool.false_or, Bool.and_true, Bool.and_false, Bool.true_and, Bool.false_and, reduceIte, decide_true, decide_false, lenLim, true_and, e_addi, e_adds, e_addt, e_addl, e_subi, e_muli, e_mult, e_mull, e_fdiv, e_mod, e_pow, e_neg, e_eq, e_ne, e_lti, e_ltt, e_lei, e_gti, e_gei, e_isn0, e_isb, e_isnn, e_isnb, e_in, e_nin, e_ixt, e_ixf, e_ixr, e_sqt, e_sqf, e_sqr, e_slt, e_slr, e_rvt, e_rvr, e_lnt, e_lnf, e_lns, e_lnr, e_len, e_tuple, e_list, e_inti, e_intb, e_abs, e_divmod, e_min2, e_max2, e_all, e_any, e_app, e_ext, e_rec, e_isnk, e_isbk, e_isik, e_issk, e_istk, e_isrk, e_tn, e_tb, e_ti, e_tt, e_tf, e_tr, e_sit, e_sif, e_sir, e_part, e_augA, e_augS, e_nn, e_nnb, e_nni, e_nns, e_nnt, e_nnf, e_nnr, e_tp, e_acons, e_anil, f5_ok (n + 1) b S h1 h2, e16]
  exact e4.wp fun m => by first | exact ⟨m, rfl⟩ | exact ⟨rfl, m, rfl⟩ | exact ⟨trivial, m, rfl⟩
/-- a row of worths -/
def okC (b : Int) (cs : List Int) : Prop := cs.length ≤ 100 ∧ ∀ c ∈ cs, 0 ≤ c ∧ c < b ^ 8
theorem f18_ok (n : Nat) (b : Int) (cs : List Int) (S : Sto) (h1 : 2 ≤ b) (h2 : b ≤ 1000) (h : okC b cs) : Gr (callF Dd (n + 3) 18 [.int b, .tup (cs.map .int)] S) S .non := by
  apply Gr.of
  rw [u18]
  simp -implicitDefEqProofs -dsimp only [Wp_ok, Wp_no, Wp_er, Wp_bind, Wp_some, Wp_none, Wp_guard, Wp_iteB, runDef, dSeq2, dVar, dCon, dNil, dCons, dStar, dTup, dLst, dDct0, dBin, dNeg, dTru, dIf, dNotT, dBl, dBool, dAnd, dOr, dCmp, dCmp2, dIdx, dNoPart, dPart, dSlc, dRev, dCall, dBlt, dMet, dIsi, aNm, aSub, dItSeq, dItRng, dItRng2, dItEnu, dItZip, dItEnz, dNo, sExp, sAsg, setAll, sPar, sAug, sRet, sSeq, sNil, sCnt, sFor, wipeE, new, mtTy, tyHas, List.map_cons, List.map_nil, List.length_cons, List.length_nil, List.length_map, Nat.zero_add, Nat.add_zero, Nat.reduceAdd, Nat.reduceSub, Nat.reduceMul, Nat.reduceLeDiff, Nat.reduceEqDiff, List.replicate_succ, List.replicate_zero, List.cons_append, List.nil_append, List.append_nil, List.getElem?_cons_zero, List.getElem?_cons_succ, List.getElem?_nil, List.set_cons_zero, List.set_cons_succ, if_true, if_false, ite_true, ite_false, Bool.false_eq_true, Bool.not_true, Bool.not_false, Option.map_some, Option.map_none, reduceCtorEq, beq_self_eq_true, Nat.reduceBEq, Bool.or_true, Bool.or_false, Bool.true_or, Bool.false_or, Bool.and_true, Bool.and_false, Bool.true_and, Bool.false_and, reduceIte, decide_true, decide_false, lenLim, true_and, e_addi, e_adds, e_addt, e_addl, e_subi, e_muli, e_mult, e_mull, e_fdiv, e_mod, e_pow, e_neg, e_eq, e_ne, e_lti, e_ltt, e_lei, e_gti, e_gei, e_isn0, e_isb, e_isnn, e_isnb, e_in, e_nin, e_ixt, e_ixf, e_ixr, e_sqt, e_sqf, e_sqr, e_slt, e_slr, e_rvt, e_rvr, e_lnt, e_lnf, e_lns, e_lnr, e_len, e_tuple, e_list, e_inti, e_intb, e_abs, e_divmod, e_min2, e_max2, e_all, e_any, e_app, e_ext, e_rec, e_isnk, e_isbk, e_isik, e_issk, e_istk, e_isrk, e_tn, e_tb, e_ti, e_tt, e_tf, e_tr, e_sit, e_sif, e_sir, e_part, e_augA, e_augS, e_nn, e_nnb, e_nni, e_nns, e_nnt, e_nnf, e_nnr, e_tp, e_acons, e_anil, f6_ok (n + 1) b S h1 h2]
  refine Wp_dlc (I := ⟨[], cs.map .int⟩) (f := fun w => .bl (cntB 0 (b ^ 8 - 1) w)) rfl rfl (by have := h.1; simp; rw [lenLim]; omega) (fun w hw m => ?_) fun m => ?_
  · refine Gr.eq ?_
    apply eq_of
    simp -implicitDefEqProofs -dsimp only [Wp_ok, Wp_no, Wp_er, Wp_bind, Wp_some, Wp_none, Wp_guard, Wp_iteB, runDef, dSeq2, dVar, dCon, dNil, dCons, dStar, dTup, dLst, dDct0, dBin, dNeg, dTru, dIf, dNotT, dBl, dBool, dAnd, dOr, dCmp, dCmp2, dIdx, dNoPart, dPart, dSlc, dRev, dCall, dBlt, dMet, dIsi, aNm, aSub, dItSeq, dItRng, dItRng2, dItEnu, dItZip, dItEnz, dNo, sExp, sAsg, setAll, sPar, sAug, sRet, sSeq, sNil, sCnt, sFor, wipeE, new, mtTy, tyHas, List.map_cons, List.map_nil, List.length_cons, List.length_nil, List.length_map, Nat.zero_add, Nat.add_zero, Nat.reduceAdd, Nat.reduceSub, Nat.reduceMul, Nat.reduceLeDiff, Nat.reduceEqDiff, List.replicate_succ, List.replicate_zero, List.cons_append, List.nil_append, List.append_nil, List.getElem?_cons_zero, List.getElem?_cons_succ, List.getElem?_nil, List.set_cons_zero, List.set_cons_succ, if_true, if_false, ite_true, ite_false, Bool.false_eq_true, Bool.not_true, Bool.not_false, Option.map_some, Option.map_none, reduceCtorEq, beq_self_eq_true, Nat.reduceBEq, Bool.or_true, Bool.or_false, Bool.true_or, Bool.false_or, Bool.and_true, Bool.and_false, Bool.true_and, Bool.false_and, reduceIte, decide_true, decide_false, lenLim, true_and, e_addi, e_adds, e_addt, e_addl, e_subi, e_muli, e_mult, e_mull, e_fdiv, e_mod, e_pow, e_neg, e_eq, e_ne, e_lti, e_ltt, e_lei, e_gti, e_gei, e_isn0, e_isb, e_isnn, e_isnb, e_in, e_nin, e_ixt, e_ixf, e_ixr, e_sqt, e_sqf, e_sqr, e_slt, e_slr, e_rvt, e_rvr, e_lnt, e_lnf, e_lns, e_lnr, e_len, e_tuple, e_list, e_inti, e_intb, e_abs, e_divmod, e_min2, e_max2, e_all, e_any, e_app, e_ext, e_rec, e_isnk, e_isbk, e_isik, e_issk, e_istk, e_isrk, e_tn, e_tb, e_ti, e_tt, e_tf, e_tr, e_sit, e_sif, e_sir, e_part, e_augA, e_augS, e_nn, e_nnb, e_nni, e_nns, e_nnt, e_nnf, e_nnr, e_tp, e_acons, e_anil, wipeE, f1_any n w 0 (b ^ 8 - 1) (S ++ m) (kind_ints cs S w hw m)]
    try trivial
  · have ha : (List.map (cntB 0 (b ^ 8 - 1)) (cs.map W.int)).all id = true := by
      rw [List.all_eq_true]
      intro x hx
      obtain ⟨w, hw, rfl⟩ := List.mem_map.mp hx
      obtain ⟨d, hd, rfl⟩ := List.mem_map.mp hw
      have := h.2 d hd
      simp [cntB]
      omega
    simp -implicitDefEqProofs -dsimp only [Wp_ok, Wp_no, Wp_er, Wp_bind, Wp_some, Wp_none, Wp_guard, Wp_iteB, runDef, dSeq2, dVar, dCon, dNil, dCons, dStar, dTup, dLst, dDct0, dBin, dNeg, dTru, dIf, dNotT, dBl, dBool, dAnd, dOr, dCmp, dCmp2, dIdx, dNoPart, dPart, dSlc, dRev, dCall, dBlt, dMet, dIsi, aNm, aSub, dItSeq, dItRng, dItRng2, dItEnu, dItZip, dItEnz, dNo, sExp, sAsg, setAll, sPar, sAug, sRet, sSeq, sNil, sCnt, sFor, wipeE, new, mtTy, tyHas, List.map_cons, List.map_nil, List.length_cons, List.length_nil, List.length_map, Nat.zero_add, Nat.add_zero, Nat.reduceAdd, Nat.reduceSub, Nat.reduceMul, Nat.reduceLeDiff, Nat.reduceEqDiff, List.replicate_succ, List.replicate_zero, List.cons_append, List.nil_append, List.append_nil, List.getElem?_cons_zero, List.getElem?_cons_succ, List.getElem?_nil, List.set_cons_zero, List.set_cons_succ, if_true, if_false, ite_true, ite_false, Bool.false_eq_true, Bool.not_true, Bool.not_false, Option.map_some, Option.map_none, reduceCtorEq, beq_self_eq_true, Nat.reduceBEq, Bool.or_true, Bool.or_false, Bool.true_or, Bool.false_or, Bool.and_true, Bool.and_false, Bool.true_and, Bool.false_and, reduceIte, decide_true, decide_false, lenLim, true_and, e_addi, e_adds, e_addt, e_addl, e_subi, e_muli, e_mult, e_mull, e_fdiv, e_mod, e_pow, e_neg, e_eq, e_ne, e_lti, e_ltt, e_lei, e_gti, e_gei, e_isn0, e_isb, e_isnn, e_isnb, e_in, e_nin, e_ixt, e_ixf, e_ixr, e_sqt, e_sqf, e_sqr, e_slt, e_slr, e_rvt, e_rvr, e_lnt, e_lnf, e_lns, e_lnr, e_len, e_tuple, e_list, e_inti, e_intb, e_abs, e_divmod, e_min2, e_max2, e_all, e_any, e_app, e_ext, e_rec, e_isnk, e_isbk, e_isik, e_issk, e_istk, e_isrk, e_tn, e_tb, e_ti, e_tt, e_tf, e_tr, e_sit, e_sif, e_sir, e_part, e_augA, e_augS, e_nn, e_nnb, e_nni, e_nns, e_nnt, e_nnf, e_nnr, e_tp, e_acons, e_anil, at_last, wBools_map, ha]
    first | exact ⟨_, List.append_assoc _ _ _⟩ | exact ⟨trivial, _, List.append_assoc _ _ _⟩
def pgs (b : Int) (cs : List Int) : List W := cs.map fun c => .tup ((digs b 8 c).map .int)
theorem f19_ok (n : Nat) (b : Int) (cs : List Int) (S : Sto) (h1 : 2 ≤ b) (h2 : b ≤ 1000) (h : okC b cs) : Gr (callF Dd (n + 5) 19 [.int b, .tup (cs.map .int)] S) S (.tup (pgs b cs)) := by
  apply Gr.of
  rw [u19]
  simp -implicitDefEqProofs -dsimp only [Wp_ok, Wp_no, Wp_er, Wp_bind, Wp_some, Wp_none, Wp_guard, Wp_iteB, runDef, dSeq2, dVar, dCon, dNil, dCons, dStar, dTup, dLst, dDct0, dBin, dNeg, dTru, dIf, dNotT, dBl, dBool, dAnd, dOr, dCmp, dCmp2, dIdx, dNoPart, dPart, dSlc, dRev, dCall, dBlt, dMet, dIsi, aNm, aSub, dItSeq, dItRng, dItRng2, dItEnu, dItZip, dItEnz, dNo, sExp, sAsg, setAll, sPar, sAug, sRet, sSeq, sNil, sCnt, sFor, wipeE, new, mtTy, tyHas, List.map_cons, List.map_nil, List.length_cons, List.length_nil, List.length_map, Nat.zero_add, Nat.add_zero, Nat.reduceAdd, Nat.reduceSub, Nat.reduceMul, Nat.reduceLeDiff, Nat.reduceEqDiff, List.replicate_succ, List.replicate_zero, List.cons_append, List.nil_append, List.append_nil, List.getElem?_cons_zero, List.getElem?_cons_succ, List.getElem?_nil, List.set_cons_zero, List.set_cons_succ, if_true, if_false, ite_true, ite_false, Bool.false_eq_true, Bool.not_true, Bool.not_false, Option.map_some, Option.map_none, reduceCtorEq, beq_self_eq_true, Nat.reduceBEq, Bool.or_true, Bool.or_false, Bool.true_or, Bool.false_or, Bool.and_true, Bool.and_false, Bool.true_and, Bool.false_and, reduceIte, decide_true, decide_false, lenLim, true_and, e_addi, e_adds, e_addt, e_addl, e_subi, e_muli, e_mult, e_mull, e_fdiv, e_mod, e_pow, e_neg, e_eq, e_ne, e_lti, e_ltt, e_lei, e_gti, e_gei, e_isn0, e_isb, e_isnn, e_isnb, e_in, e_nin, e_ixt, e_ixf, e_ixr, e_sqt, e_sqf, e_sqr, e_slt, e_slr, e_rvt, e_rvr, e_lnt, e_lnf, e_lns, e_lnr, e_len, e_tuple, e_list, e_inti, e_intb, e_abs, e_divmod, e_min2, e_max2, e_all, e_any, e_app, e_ext, e_rec, e_isnk, e_isbk, e_isik, e_issk, e_istk, e_isrk, e_tn, e_tb, e_ti, e_tt, e_tf, e_tr, e_sit, e_sif, e_sir, e_part, e_augA, e_augS, e_nn, e_nnb, e_nni, e_nns, e_nnt, e_nnf, e_nnr, e_tp, e_acons, e_anil, f5_ok n b S h1 h2]
  refine (f18_ok (n + 1) b cs S h1 h2 h).wp fun m => ?_
  try simp -implicitDefEqProofs -dsimp only [Wp_ok, Wp_no, Wp_er, Wp_bind, Wp_some, Wp_none, Wp_guard, Wp_iteB, runDef, dSeq2, dVar, dCon, dNil, dCons, dStar, dTup, dLst, dDct0, dBin, dNeg, dTru, dIf, dNotT, dBl, dBool, dAnd, dOr, dCmp, dCmp2, dIdx, dNoPart, dPart, dSlc, dRev, dCall, dBlt, dMet, dIsi, aNm, aSub, dItSeq, dItRng, dItRng2, dItEnu, dItZip, dItEnz, dNo, sExp, sAsg, setAll, sPar, sAug, sRet, sSeq, sNil, sCnt, sFor, wipeE, new, mtTy, tyHas, List.map_cons, List.map_nil, List.length_cons, List.length_nil, List.length_map, Nat.zero_add, Nat.add_zero, Nat.reduceAdd, Nat.reduceSub, Nat.reduceMul, Nat.reduceLeDiff, Nat.reduceEqDiff, List.replicate_succ, List.replicate_zero, List.cons_append, List.nil_append, List.append_nil, List.getElem?_cons_zero, List.getElem?_cons_succ, List.getElem?_nil, List.set_cons_zero, List.set_cons_succ, if_true, if_false, ite_true, ite_false, Bool.false_eq_true, Bool.not_true, Bool.not_false, Option.map_some, Option.map_none, reduceCtorEq, beq_self_eq_true, Nat.reduceBEq, Bool.or_true, Bool.or_false, Bool.true_or, Bool.false_or, Bool.and_true, Bool.and_false, Bool.true_and, Bool.false_and, reduceIte, decide_true, decide_false, lenLim, true_and, e_addi, e_adds, e_addt, e_addl, e_subi, e_muli, e_mult, e_mull, e_fdiv, e_mod, e_pow, e_neg, e_eq, e_ne, e_lti, e_ltt, e_lei, e_gti, e_gei, e_isn0, e_isb, e_isnn, e_isnb, e_in, e_nin, e_ixt, e_ixf, e_ixr, e_sqt, e_sqf, e_sqr, e_slt, e_slr, e_rvt, e_rvr, e_lnt, e_lnf, e_lns, e_lnr, e_len, e_tuple, e_list, e_inti, e_intb, e_abs, e_divmod, e_min2, e_max2, e_all, e_any, e_app, e_ext, e_rec, e_isnk, e_isbk, e_isik, e_issk, e_istk, e_isrk, e_tn, e_tb, e_ti, e_tt, e_tf, e_tr, e_sit, e_sif, e_sir, e_part, e_augA, e_augS, e_nn, e_nnb, e_nni, e_nns, e_nnt, e_nnf, e_nnr, e_tp, e_acons, e_anil]
  refine Wp_dlc (I := ⟨[], cs.map .int⟩) (f := fun w => match w with
    | .int c => .tup ((digs b 8 c).map .int)
    | _ => .non) rfl rfl (by have := h.1; simp; rw [lenLim]; omega) (fun w hw m2 => ?_) fun m2 => ?_
  · obtain ⟨c, hc, rfl⟩ := List.mem_map.mp hw
    apply Gr.of
    simp -implicitDefEqProofs -dsimp only [Wp_ok, Wp_no, Wp_er, Wp_bind, Wp_some, Wp_none, Wp_guard, Wp_iteB, runDef, dSeq2, dVar, dCon, dNil, dCons, dStar, dTup, dLst, dDct0, dBin, dNeg, dTru, dIf, dNotT, dBl, dBool, dAnd, dOr, dCmp, dCmp2, dIdx, dNoPart, dPart, dSlc, dRev, dCall, dBlt, dMet, dIsi, aNm, aSub, dItSeq, dItRng, dItRng2, dItEnu, dItZip, dItEnz, dNo, sExp, sAsg, setAll, sPar, sAug, sRet, sSeq, sNil, sCnt, sFor, wipeE, new, mtTy, tyHas, List.map_cons, List.map_nil, List.length_cons, List.length_nil, List.length_map, Nat.zero_add, Nat.add_zero, Nat.reduceAdd, Nat.reduceSub, Nat.reduceMul, Nat.reduceLeDiff, Nat.reduceEqDiff, List.replicate_succ, List.replicate_zero, List.cons_append, List.nil_append, List.append_nil, List.getElem?_cons_zero, List.getElem?_cons_succ, List.getElem?_nil, List.set_cons_zero, List.set_cons_succ, if_true, if_false, ite_true, ite_false, Bool.false_eq_true, Bool.not_true, Bool.not_false, Option.map_some, Option.map_none, reduceCtorEq, beq_self_eq_true, Nat.reduceBEq, Bool.or_true, Bool.or_false, Bool.true_or, Bool.false_or, Bool.and_true, Bool.and_false, Bool.true_and, Bool.false_and, reduceIte, decide_true, decide_false, lenLim, true_and, e_addi, e_adds, e_addt, e_addl, e_subi, e_muli, e_mult, e_mull, e_fdiv, e_mod, e_pow, e_neg, e_eq, e_ne, e_lti, e_ltt, e_lei, e_gti, e_gei, e_isn0, e_isb, e_isnn, e_isnb, e_in, e_nin, e_ixt, e_ixf, e_ixr, e_sqt, e_sqf, e_sqr, e_slt, e_slr, e_rvt, e_rvr, e_lnt, e_lnf, e_lns, e_lnr, e_len, e_tuple, e_list, e_inti, e_intb, e_abs, e_divmod, e_min2, e_max2, e_all, e_any, e_app, e_ext, e_rec, e_isnk, e_isbk, e_isik, e_issk, e_istk, e_isrk, e_tn, e_tb, e_ti, e_tt, e_tf, e_tr, e_sit, e_sif, e_sir, e_part, e_augA, e_augS, e_nn, e_nnb, e_nni, e_nns, e_nnt, e_nnf, e_nnr, e_tp, e_acons, e_anil, wipeE, f10_ok (n + 3) b c _ h1 h2]
    first | exact ⟨_, rfl⟩ | exact ⟨rfl, _, rfl⟩ | exact ⟨trivial, _, rfl⟩
  · simp -implicitDefEqProofs -dsimp only [Wp_ok, Wp_no, Wp_er, Wp_bind, Wp_some, Wp_none, Wp_guard, Wp_iteB, runDef, dSeq2, dVar, dCon, dNil, dCons, dStar, dTup, dLst, dDct0, dBin, dNeg, dTru, dIf, dNotT, dBl, dBool, dAnd, dOr, dCmp, dCmp2, dIdx, dNoPart, dPart, dSlc, dRev, dCall, dBlt, dMet, dIsi, aNm, aSub, dItSeq, dItRng, dItRng2, dItEnu, dItZip, dItEnz, dNo, sExp, sAsg, setAll, sPar, sAug, sRet, sSeq, sNil, sCnt, sFor, wipeE, new, mtTy, tyHas, List.map_cons, List.map_nil, List.length_cons, List.length_nil, List.length_map, Nat.zero_add, Nat.add_zero, Nat.reduceAdd, Nat.reduceSub, Nat.reduceMul, Nat.reduceLeDiff, Nat.reduceEqDiff, List.replicate_succ, List.replicate_zero, List.cons_append, List.nil_append, List.append_nil, List.getElem?_cons_zero, List.getElem?_cons_succ, List.getElem?_nil, List.set_cons_zero, List.set_cons_succ, if_true, if_false, ite_true, ite_false, Bool.false_eq_true, Bool.not_true, Bool.not_false, Option.map_some, Option.map_none, reduceCtorEq, beq_self_eq_true, Nat.reduceBEq, Bool.or_true, Bool.or_false, Bool.true_or, Bool.false_or, Bool.and_true, Bool.and_false, Bool.true_and, Bool.false_and, reduceIte, decide_true, decide_false, lenLim, true_and, e_addi, e_adds, e_addt, e_addl, e_subi, e_muli, e_mult, e_mull, e_fdiv, e_mod, e_pow, e_neg, e_eq, e_ne, e_lti, e_ltt, e_lei, e_gti, e_gei, e_isn0, e_isb, e_isnn, e_isnb, e_in, e_nin, e_ixt, e_ixf, e_ixr, e_sqt, e_sqf, e_sqr, e_slt, e_slr, e_rvt, e_rvr, e_lnt, e_lnf, e_lns, e_lnr, e_len, e_tuple, e_list, e_inti, e_intb, e_abs, e_divmod, e_min2, e_max2, e_all, e_any, e_app, e_ext, e_rec, e_isnk, e_isbk, e_isik, e_issk, e_istk, e_isrk, e_tn, e_tb, e_ti, e_tt, e_tf, e_tr, e_sit, e_sif, e_sir, e_part, e_augA, e_augS, e_nn, e_nnb, e_nni, e_nns, e_nnt, e_nnf, e_nnr, e_tp, e_acons, e_anil, at_last]
    refine ⟨?_, _, (List.append_assoc _ _ _).trans (List.append_assoc _ _ _)⟩
    rw [List.map_map]
    rfl
/-! ### rows that differ -/
def pd (as bs : List Int) : W → Bool
  | .int j => !decide (as.getD j.toNat 0 = bs.getD j.toNat 0)
  | _ => false
def dif (i : Nat) (as bs : List Int) : List W := (rng8.filter (pd as bs)).map fun w => .tup [.int i, w]
def dnn (b : Int) (cs ds : List Int) : Nat → List W
  | 0 => []
  | k + 1 => dnn b cs ds k ++ dif k (digs b 8 (cs.getD k 0)) (digs b 8 (ds.getD k 0))
theorem dif_len (i : Nat) (as bs : List Int) : (dif i as bs).length ≤ 8 := by
  unfold dif
  rw [List.length_map]
  exact List.length_filter_le _ rng8
theorem dnn_len (b : Int) (cs ds : List Int) : ∀ k, (dnn b cs ds k).length ≤ 8 * k
  | 0 => by simp [dnn]
  | k + 1 => by
    rw [dnn, List.length_append]
    have := dnn_len b cs ds k
    have := dif_len k (digs b 8 (cs.getD k 0)) (digs b 8 (ds.getD k 0))
    omega
theorem lc_filt {chk : List (Nat × List W)} {j : Nat} {c : Dn Bool} {e : Dn W} {cl : CL} {env : En} {p : W → Bool} {f : W → W} {S : Sto} (hc : chkOk chk S = true) : ∀ (items acc : List W), acc.length + items.length ≤ lim → (∀ w ∈ items, c cl (env.set j (some w)) S = .ok (p w) S ∧ e cl (env.set j (some w)) S = .ok (f w) S) →
    lcLoop chk (aNm j) c e cl env items acc S = .ok (acc ++ (items.filter p).map f) S
  | [], acc, _, _ => by rw [lcLoop, if_pos hc, List.filter_nil, List.map_nil, List.append_nil]
  | w :: items, acc, hl, h => by
    obtain ⟨h1, h2⟩ := h w (by simp)
    rw [lcLoop, if_pos hc]
    show ((c cl (env.set j (some w)) S).bind fun k S2 => if k then (e cl (env.set j (some w)) S2).bind fun y S3 => if acc.length < lim then lcLoop chk (aNm j) c e cl env items (acc ++ [y]) S3 else .no
      else lcLoop chk (aNm j) c e cl env items acc S2) = _
    rw [h1]
    show (if p w then (e cl (env.set j (some w)) S).bind fun y S3 => if acc.length < lim then lcLoop chk (aNm j) c e cl env items (acc ++ [y]) S3 else .no
      else lcLoop chk (aNm j) c e cl env items acc S) = _
    rw [List.length_cons] at hl
    cases hp : p w with
    | false =>
      rw [if_neg Bool.false_ne_true, lc_filt hc items acc (by omega) fun w' hw => h w' (by simp [hw]), List.filter_cons, hp, if_neg Bool.false_ne_true]
    | true =>
      rw [if_pos rfl, h2]
      show (if acc.length < lim then lcLoop chk (aNm j) c e cl env items (acc ++ [f w]) S else .no) = _
      rw [if_pos (by omega), lc_filt hc items (acc ++ [f w]) (by rw [List.length_append, List.length_singleton]; omega) fun w' hw => h w' (by simp [hw]), List.filter_cons, hp, if_pos rfl, List.map_cons, List.append_assoc]
      rfl
theorem at_mid (S : Sto) (o : O) (m : Sto) : (S ++ o :: m)[S.length]? = some o := by simp
theorem set_mid (S : Sto) (o o' : O) (m : Sto) : (S ++ o :: m).set S.length o' = S ++ o' :: m := by simp
theorem in_rng8 {w : W} (h : w ∈ rng8) : ∃ j : Nat, j < 8 ∧ w = .int (j : Nat) := by
  simp only [rng8, List.mem_cons, List.not_mem_nil, or_false] at h
  rcases h with rfl | rfl | rfl | rfl | rfl | rfl | rfl | rfl
  · exact ⟨0, by omega, rfl⟩
  · exact ⟨1, by omega, rfl⟩
  · exact ⟨2, by omega, rfl⟩
  · exact ⟨3, by omega, rfl⟩
  · exact ⟨4, by omega, rfl⟩
  · exact ⟨5, by omega, rfl⟩
  · exact ⟨6, by omega, rfl⟩
  · exact ⟨7, by omega, rfl⟩
theorem at8 {as : List Int} (h : as.length = 8) {j : Nat} (hj : j < 8) : L2.atI (as.map W.int) (j : Nat) = some (.int (as.getD j 0)) := by
  refine at_ok (Int.natCast_nonneg j) ?_
  rw [Int.toNat_natCast, List.getElem?_map, List.getElem?_eq_getElem (by omega)]
  simp [List.getD, List.getElem?_eq_getElem (show j < as.length by omega)]
theorem eqW_int (S : Sto) (i j : Int) : eqW S (.int i) (.int j) = some (decide (i = j)) := rfl
theorem f20_ok (n : Nat) (b : Int) (cs ds : List Int) (S : Sto) (h1 : 2 ≤ b) (h2 : b ≤ 1000) (hc : okC b cs) (hd : okC b ds) (hl : cs.length = ds.length) : Gr (callF Dd (n + 5) 20 [.int b, .tup (cs.map .int), .tup (ds.map .int)] S) S (.tup (dnn b cs ds cs.length)) := by
  apply Gr.of
  rw [u20]
  simp -implicitDefEqProofs -dsimp only [Wp_ok, Wp_no, Wp_er, Wp_bind, Wp_some, Wp_none, Wp_guard, Wp_iteB, runDef, dSeq2, dVar, dCon, dNil, dCons, dStar, dTup, dLst, dDct0, dBin, dNeg, dTru, dIf, dNotT, dBl, dBool, dAnd, dOr, dCmp, dCmp2, dIdx, dNoPart, dPart, dSlc, dRev, dCall, dBlt, dMet, dIsi, aNm, aSub, dItSeq, dItRng, dItRng2, dItEnu, dItZip, dItEnz, dNo, sExp, sAsg, setAll, sPar, sAug, sRet, sSeq, sNil, sCnt, sFor, wipeE, new, mtTy, tyHas, List.map_cons, List.map_nil, List.length_cons, List.length_nil, List.length_map, Nat.zero_add, Nat.add_zero, Nat.reduceAdd, Nat.reduceSub, Nat.reduceMul, Nat.reduceLeDiff, Nat.reduceEqDiff, List.replicate_succ, List.replicate_zero, List.cons_append, List.nil_append, List.append_nil, List.getElem?_cons_zero, List.getElem?_cons_succ, List.getElem?_nil, List.set_cons_zero, List.set_cons_succ, if_true, if_false, ite_true, ite_false, Bool.false_eq_true, Bool.not_true, Bool.not_false, Option.map_some, Option.map_none, reduceCtorEq, beq_self_eq_true, Nat.reduceBEq, Bool.or_true, Bool.or_false, Bool.true_or, Bool.false_or, Bool.and_true, Bool.and_false, Bool.true_and, Bool.false_and, reduceIte, decide_true, decide_false, lenLim, true_and, e_addi, e_adds, e_addt, e_addl, e_subi, e_muli, e_mult, e_mull, e_fdiv, e_mod, e_pow, e_neg, e_eq, e_ne, e_lti, e_ltt, e_lei, e_gti, e_gei, e_isn0, e_isb, e_isnn, e_isnb, e_in, e_nin, e_ixt, e_ixf, e_ixr, e_sqt, e_sqf, e_sqr, e_slt, e_slr, e_rvt, e_rvr, e_lnt, e_lnf, e_lns, e_lnr, e_len, e_tuple, e_list, e_inti, e_intb, e_abs, e_divmod, e_min2, e_max2, e_all, e_any, e_app, e_ext, e_rec, e_isnk, e_isbk, e_isik, e_issk, e_istk, e_isrk, e_tn, e_tb, e_ti, e_tt, e_tf, e_tr, e_sit, e_sif, e_sir, e_part, e_augA, e_augS, e_nn, e_nnb, e_nni, e_nns, e_nnt, e_nnf, e_nnr, e_tp, e_acons, e_anil, f5_ok n b S h1 h2]
  refine (f18_ok (n + 1) b cs S h1 h2 hc).wp fun m => ?_
  try simp -implicitDefEqProofs -dsimp only [Wp_ok, Wp_no, Wp_er, Wp_bind, Wp_some, Wp_none, Wp_guard, Wp_iteB, runDef, dSeq2, dVar, dCon, dNil, dCons, dStar, dTup, dLst, dDct0, dBin, dNeg, dTru, dIf, dNotT, dBl, dBool, dAnd, dOr, dCmp, dCmp2, dIdx, dNoPart, dPart, dSlc, dRev, dCall, dBlt, dMet, dIsi, aNm, aSub, dItSeq, dItRng, dItRng2, dItEnu, dItZip, dItEnz, dNo, sExp, sAsg, setAll, sPar, sAug, sRet, sSeq, sNil, sCnt, sFor, wipeE, new, mtTy, tyHas, List.map_cons, List.map_nil, List.length_cons, List.length_nil, List.length_map, Nat.zero_add, Nat.add_zero, Nat.reduceAdd, Nat.reduceSub, Nat.reduceMul, Nat.reduceLeDiff, Nat.reduceEqDiff, List.replicate_succ, List.replicate_zero, List.cons_append, List.nil_append, List.append_nil, List.getElem?_cons_zero, List.getElem?_cons_succ, List.getElem?_nil, List.set_cons_zero, List.set_cons_succ, if_true, if_false, ite_true, ite_false, Bool.false_eq_true, Bool.not_true, Bool.not_false, Option.map_some, Option.map_none, reduceCtorEq, beq_self_eq_true, Nat.reduceBEq, Bool.or_true, Bool.or_false, Bool.true_or, Bool.false_or, Bool.and_true, Bool.and_false, Bool.true_and, Bool.false_and, reduceIte, decide_true, decide_false, lenLim, true_and, e_addi, e_adds, e_addt, e_addl, e_subi, e_muli, e_mult, e_mull, e_fdiv, e_mod, e_pow, e_neg, e_eq, e_ne, e_lti, e_ltt, e_lei, e_gti, e_gei, e_isn0, e_isb, e_isnn, e_isnb, e_in, e_nin, e_ixt, e_ixf, e_ixr, e_sqt, e_sqf, e_sqr, e_slt, e_slr, e_rvt, e_rvr, e_lnt, e_lnf, e_lns, e_lnr, e_len, e_tuple, e_list, e_inti, e_intb, e_abs, e_divmod, e_min2, e_max2, e_all, e_any, e_app, e_ext, e_rec, e_isnk, e_isbk, e_isik, e_issk, e_istk, e_isrk, e_tn, e_tb, e_ti, e_tt, e_tf, e_tr, e_sit, e_sif, e_sir, e_part, e_augA, e_augS, e_nn, e_nnb, e_nni, e_nns, e_nnt, e_nnf, e_nnr, e_tp, e_acons, e_anil]
  refine (f18_ok (n + 1) b ds (S ++ m) h1 h2 hd).wp fun m2 => ?_
  generalize hS1 : S ++ m ++ m2 = S1
  simp -implicitDefEqProofs -dsimp only [Wp_ok, Wp_no, Wp_er, Wp_bind, Wp_some, Wp_none, Wp_guard, Wp_iteB, runDef, dSeq2, dVar, dCon, dNil, dCons, dStar, dTup, dLst, dDct0, dBin, dNeg, dTru, dIf, dNotT, dBl, dBool, dAnd, dOr, dCmp, dCmp2, dIdx, dNoPart, dPart, dSlc, dRev, dCall, dBlt, dMet, dIsi, aNm, aSub, dItSeq, dItRng, dItRng2, dItEnu, dItZip, dItEnz, dNo, sExp, sAsg, setAll, sPar, sAug, sRet, sSeq, sNil, sCnt, sFor, wipeE, new, mtTy, tyHas, List.map_cons, List.map_nil, List.length_cons, List.length_nil, List.length_map, Nat.zero_add, Nat.add_zero, Nat.reduceAdd, Nat.reduceSub, Nat.reduceMul, Nat.reduceLeDiff, Nat.reduceEqDiff, List.replicate_succ, List.replicate_zero, List.cons_append, List.nil_append, List.append_nil, List.getElem?_cons_zero, List.getElem?_cons_succ, List.getElem?_nil, List.set_cons_zero, List.set_cons_succ, if_true, if_false, ite_true, ite_false, Bool.false_eq_true, Bool.not_true, Bool.not_false, Option.map_some, Option.map_none, reduceCtorEq, beq_self_eq_true, Nat.reduceBEq, Bool.or_true, Bool.or_false, Bool.true_or, Bool.false_or, Bool.and_true, Bool.and_false, Bool.true_and, Bool.false_and, reduceIte, decide_true, decide_false, lenLim, true_and, e_addi, e_adds, e_addt, e_addl, e_subi, e_muli, e_mult, e_mull, e_fdiv, e_mod, e_pow, e_neg, e_eq, e_ne, e_lti, e_ltt, e_lei, e_gti, e_gei, e_isn0, e_isb, e_isnn, e_isnb, e_in, e_nin, e_ixt, e_ixf, e_ixr, e_sqt, e_sqf, e_sqr, e_slt, e_slr, e_rvt, e_rvr, e_lnt, e_lnf, e_lns, e_lnr, e_len, e_tuple, e_list, e_inti, e_intb, e_abs, e_divmod, e_min2, e_max2, e_all, e_any, e_app, e_ext, e_rec, e_isnk, e_isbk, e_isik, e_issk, e_istk, e_isrk, e_tn, e_tb, e_ti, e_tt, e_tf, e_tr, e_sit, e_sif, e_sir, e_part, e_augA, e_augS, e_nn, e_nnb, e_nni, e_nns, e_nnt, e_nnf, e_nnr, e_tp, e_acons, e_anil, eqW_int, hl, zipI, enuJ]
  refine Wp_for (fun i env S' => i ≤ cs.length ∧ (∃ m, S' = S1 ++ .lst (dnn b cs ds i) :: m) ∧ ∃ x4 x5 x6 x7 x8 x9, env = [some (.int b), some (.tup (cs.map .int)), some (.tup (ds.map .int)), some (.ref S1.length), x4, x5, x6, x7, x8, x9]) ⟨by omega, ⟨[], rfl⟩, none, none, none, none, none, none, rfl⟩ (fun _ _ _ _ _ => rfl) ?_ ?_
  · rintro i w env S' hw ⟨hi, ⟨m3, rfl⟩, x4, x5, x6, x7, x8, x9, rfl⟩
    have hlt : i < (enuW 0 (zipW (cs.map W.int) (ds.map W.int))).length := (List.getElem?_eq_some_iff.mp hw).1
    rw [enuW_len, zipW_len, List.length_map, List.length_map] at hlt
    have hi1 : i < cs.length := by omega
    have hi2 : i < ds.length := by omega
    have ew : w = .tup [.int (i : Nat), .tup [.int (cs.getD i 0), .int (ds.getD i 0)]] := by
      rw [enuW_get _ 0 i _ (zipW_get _ _ i (.int (cs.getD i 0)) (.int (ds.getD i 0)) (by simp [List.getD, hi1]) (by simp [List.getD, hi2])), Nat.zero_add] at hw
      exact (Option.some.inj hw).symm
    subst ew
    simp -implicitDefEqProofs -dsimp only [Wp_ok, Wp_no, Wp_er, Wp_bind, Wp_some, Wp_none, Wp_guard, Wp_iteB, runDef, dSeq2, dVar, dCon, dNil, dCons, dStar, dTup, dLst, dDct0, dBin, dNeg, dTru, dIf, dNotT, dBl, dBool, dAnd, dOr, dCmp, dCmp2, dIdx, dNoPart, dPart, dSlc, dRev, dCall, dBlt, dMet, dIsi, aNm, aSub, dItSeq, dItRng, dItRng2, dItEnu, dItZip, dItEnz, dNo, sExp, sAsg, setAll, sPar, sAug, sRet, sSeq, sNil, sCnt, sFor, wipeE, new, mtTy, tyHas, List.map_cons, List.map_nil, List.length_cons, List.length_nil, List.length_map, Nat.zero_add, Nat.add_zero, Nat.reduceAdd, Nat.reduceSub, Nat.reduceMul, Nat.reduceLeDiff, Nat.reduceEqDiff, List.replicate_succ, List.replicate_zero, List.cons_append, List.nil_append, List.append_nil, List.getElem?_cons_zero, List.getElem?_cons_succ, List.getElem?_nil, List.set_cons_zero, List.set_cons_succ, if_true, if_false, ite_true, ite_false, Bool.false_eq_true, Bool.not_true, Bool.not_false, Option.map_some, Option.map_none, reduceCtorEq, beq_self_eq_true, Nat.reduceBEq, Bool.or_true, Bool.or_false, Bool.true_or, Bool.false_or, Bool.and_true, Bool.and_false, Bool.true_and, Bool.false_and, reduceIte, decide_true, decide_false, lenLim, true_and, e_addi, e_adds, e_addt, e_addl, e_subi, e_muli, e_mult, e_mull, e_fdiv, e_mod, e_pow, e_neg, e_eq, e_ne, e_lti, e_ltt, e_lei, e_gti, e_gei, e_isn0, e_isb, e_isnn, e_isnb, e_in, e_nin, e_ixt, e_ixf, e_ixr, e_sqt, e_sqf, e_sqr, e_slt, e_slr, e_rvt, e_rvr, e_lnt, e_lnf, e_lns, e_lnr, e_len, e_tuple, e_list, e_inti, e_intb, e_abs, e_divmod, e_min2, e_max2, e_all, e_any, e_app, e_ext, e_rec, e_isnk, e_isbk, e_isik, e_issk, e_istk, e_isrk, e_tn, e_tb, e_ti, e_tt, e_tf, e_tr, e_sit, e_sif, e_sir, e_part, e_augA, e_augS, e_nn, e_nnb, e_nni, e_nns, e_nnt, e_nnf, e_nnr, e_tp, e_acons, e_anil, f10_ok (n + 3) b _ _ h1 h2, dLc, Wp_noErr_eq, rng8_eq]
    have hA := digs_len b 8 (cs.getD i 0)
    have hB := digs_len b 8 (ds.getD i 0)
    generalize hA' : digs b 8 (cs.getD i 0) = as at hA ⊢
    generalize hB' : digs b 8 (ds.getD i 0) = bs at hB ⊢
    have hdl := dnn_len b cs ds i
    have hcl := hc.1
    rw [lc_filt (p := pd as bs) (f := fun w => .tup [.int i, w]) rfl rng8 [] (by decide) ?_]
    · have g3 : (dnn b cs ds i).length + (dif i as bs).length ≤ 16777216 := by
        have := dif_len i as bs
        omega
      simp -implicitDefEqProofs -dsimp only [Wp_ok, Wp_no, Wp_er, Wp_bind, Wp_some, Wp_none, Wp_guard, Wp_iteB, runDef, dSeq2, dVar, dCon, dNil, dCons, dStar, dTup, dLst, dDct0, dBin, dNeg, dTru, dIf, dNotT, dBl, dBool, dAnd, dOr, dCmp, dCmp2, dIdx, dNoPart, dPart, dSlc, dRev, dCall, dBlt, dMet, dIsi, aNm, aSub, dItSeq, dItRng, dItRng2, dItEnu, dItZip, dItEnz, dNo, sExp, sAsg, setAll, sPar, sAug, sRet, sSeq, sNil, sCnt, sFor, wipeE, new, mtTy, tyHas, List.map_cons, List.map_nil, List.length_cons, List.length_nil, List.length_map, Nat.zero_add, Nat.add_zero, Nat.reduceAdd, Nat.reduceSub, Nat.reduceMul, Nat.reduceLeDiff, Nat.reduceEqDiff, List.replicate_succ, List.replicate_zero, List.cons_append, List.nil_append, List.append_nil, List.getElem?_cons_zero, List.getElem?_cons_succ, List.getElem?_nil, List.set_cons_zero, List.set_cons_succ, if_true, if_false, ite_true, ite_false, Bool.false_eq_true, Bool.not_true, Bool.not_false, Option.map_some, Option.map_none, reduceCtorEq, beq_self_eq_true, Nat.reduceBEq, Bool.or_true, Bool.or_false, Bool.true_or, Bool.false_or, Bool.and_true, Bool.and_false, Bool.true_and, Bool.false_and, reduceIte, decide_true, decide_false, lenLim, true_and, e_addi, e_adds, e_addt, e_addl, e_subi, e_muli, e_mult, e_mull, e_fdiv, e_mod, e_pow, e_neg, e_eq, e_ne, e_lti, e_ltt, e_lei, e_gti, e_gei, e_isn0, e_isb, e_isnn, e_isnb, e_in, e_nin, e_ixt, e_ixf, e_ixr, e_sqt, e_sqf, e_sqr, e_slt, e_slr, e_rvt, e_rvr, e_lnt, e_lnf, e_lns, e_lnr, e_len, e_tuple, e_list, e_inti, e_intb, e_abs, e_divmod, e_min2, e_max2, e_all, e_any, e_app, e_ext, e_rec, e_isnk, e_isbk, e_isik, e_issk, e_istk, e_isrk, e_tn, e_tb, e_ti, e_tt, e_tf, e_tr, e_sit, e_sif, e_sir, e_part, e_augA, e_augS, e_nn, e_nnb, e_nni, e_nns, e_nnt, e_nnf, e_nnr, e_tp, e_acons, e_anil, at_mid]
      rw [show (rng8.filter (pd as bs)).map (fun w => W.tup [W.int (i : Nat), w]) = dif i as bs from rfl]
      simp only [List.append_assoc, List.cons_append, at_mid, set_mid, Wp_ok, Wp_no, Wp_er, Wp_bind, Wp_some, Wp_none, Wp_guard, Wp_iteB, runDef, dSeq2, dVar, dCon, dNil, dCons, dStar, dTup, dLst, dDct0, dBin, dNeg, dTru, dIf, dNotT, dBl, dBool, dAnd, dOr, dCmp, dCmp2, dIdx, dNoPart, dPart, dSlc, dRev, dCall, dBlt, dMet, dIsi, aNm, aSub, dItSeq, dItRng, dItRng2, dItEnu, dItZip, dItEnz, dNo, sExp, sAsg, setAll, sPar, sAug, sRet, sSeq, sNil, sCnt, sFor, wipeE, new, mtTy, tyHas, List.map_cons, List.map_nil, List.length_cons, List.length_nil, List.length_map, Nat.zero_add, Nat.add_zero, Nat.reduceAdd, Nat.reduceSub, Nat.reduceMul, Nat.reduceLeDiff, Nat.reduceEqDiff, List.replicate_succ, List.replicate_zero, List.cons_append, List.nil_append, List.append_nil, List.getElem?_cons_zero, List.getElem?_cons_succ, List.getElem?_nil, List.set_cons_zero, List.set_cons_succ, if_true, if_false, ite_true, ite_false, Bool.false_eq_true, Bool.not_true, Bool.not_false, Option.map_some, Option.map_none, reduceCtorEq, beq_self_eq_true, Nat.reduceBEq, Bool.or_true, Bool.or_false, Bool.true_or, Bool.false_or, Bool.and_true, Bool.and_false, Bool.true_and, Bool.false_and, reduceIte, decide_true, decide_false, lenLim, true_and, e_addi, e_adds, e_addt, e_addl, e_subi, e_muli, e_mult, e_mull, e_fdiv, e_mod, e_pow, e_neg, e_eq, e_ne, e_lti, e_ltt, e_lei, e_gti, e_gei, e_isn0, e_isb, e_isnn, e_isnb, e_in, e_nin, e_ixt, e_ixf, e_ixr, e_sqt, e_sqf, e_sqr, e_slt, e_slr, e_rvt, e_rvr, e_lnt, e_lnf, e_lns, e_lnr, e_len, e_tuple, e_list, e_inti, e_intb, e_abs, e_divmod, e_min2, e_max2, e_all, e_any, e_app, e_ext, e_rec, e_isnk, e_isbk, e_isik, e_issk, e_istk, e_isrk, e_tn, e_tb, e_ti, e_tt, e_tf, e_tr, e_sit, e_sif, e_sir, e_part, e_augA, e_augS, e_nn, e_nnb, e_nni, e_nns, e_nnt, e_nnf, e_nnr, e_tp, e_acons, e_anil, g3]
      refine ⟨by omega, ?_, _, _, _, _, _, _, rfl⟩
      rw [show dnn b cs ds (i + 1) = dnn b cs ds i ++ dif i as bs by rw [dnn, hA', hB']]
      exact ⟨_, rfl⟩
    · rintro w hw
      obtain ⟨j, hj, rfl⟩ := in_rng8 hw
      constructor
      · apply eq_ofB
        simp -implicitDefEqProofs -dsimp only [Wp_ok, Wp_no, Wp_er, Wp_bind, Wp_some, Wp_none, Wp_guard, Wp_iteB, runDef, dSeq2, dVar, dCon, dNil, dCons, dStar, dTup, dLst, dDct0, dBin, dNeg, dTru, dIf, dNotT, dBl, dBool, dAnd, dOr, dCmp, dCmp2, dIdx, dNoPart, dPart, dSlc, dRev, dCall, dBlt, dMet, dIsi, aNm, aSub, dItSeq, dItRng, dItRng2, dItEnu, dItZip, dItEnz, dNo, sExp, sAsg, setAll, sPar, sAug, sRet, sSeq, sNil, sCnt, sFor, wipeE, new, mtTy, tyHas, List.map_cons, List.map_nil, List.length_cons, List.length_nil, List.length_map, Nat.zero_add, Nat.add_zero, Nat.reduceAdd, Nat.reduceSub, Nat.reduceMul, Nat.reduceLeDiff, Nat.reduceEqDiff, List.replicate_succ, List.replicate_zero, List.cons_append, List.nil_append, List.append_nil, List.getElem?_cons_zero, List.getElem?_cons_succ, List.getElem?_nil, List.set_cons_zero, List.set_cons_succ, if_true, if_false, ite_true, ite_false, Bool.false_eq_true, Bool.not_true, Bool.not_false, Option.map_some, Option.map_none, reduceCtorEq, beq_self_eq_true, Nat.reduceBEq, Bool.or_true, Bool.or_false, Bool.true_or, Bool.false_or, Bool.and_true, Bool.and_false, Bool.true_and, Bool.false_and, reduceIte, decide_true, decide_false, lenLim, true_and, e_addi, e_adds, e_addt, e_addl, e_subi, e_muli, e_mult, e_mull, e_fdiv, e_mod, e_pow, e_neg, e_eq, e_ne, e_lti, e_ltt, e_lei, e_gti, e_gei, e_isn0, e_isb, e_isnn, e_isnb, e_in, e_nin, e_ixt, e_ixf, e_ixr, e_sqt, e_sqf, e_sqr, e_slt, e_slr, e_rvt, e_rvr, e_lnt, e_lnf, e_lns, e_lnr, e_len, e_tuple, e_list, e_inti, e_intb, e_abs, e_divmod, e_min2, e_max2, e_all, e_any, e_app, e_ext, e_rec, e_isnk, e_isbk, e_isik, e_issk, e_istk, e_isrk, e_tn, e_tb, e_ti, e_tt, e_tf, e_tr, e_sit, e_sif, e_sir, e_part, e_augA, e_augS, e_nn, e_nnb, e_nni, e_nns, e_nnt, e_nnf, e_nnr, e_tp, e_acons, e_anil, at8 hA hj, at8 hB hj, eqW_int]
        simp [pd]
      · apply eq_ofB
        simp -implicitDefEqProofs -dsimp only [Wp_ok, Wp_no, Wp_er, Wp_bind, Wp_some, Wp_none, Wp_guard, Wp_iteB, runDef, dSeq2, dVar, dCon, dNil, dCons, dStar, dTup, dLst, dDct0, dBin, dNeg, dTru, dIf, dNotT, dBl, dBool, dAnd, dOr, dCmp, dCmp2, dIdx, dNoPart, dPart, dSlc, dRev, dCall, dBlt, dMet, dIsi, aNm, aSub, dItSeq, dItRng, dItRng2, dItEnu, dItZip, dItEnz, dNo, sExp, sAsg, setAll, sPar, sAug, sRet, sSeq, sNil, sCnt, sFor, wipeE, new, mtTy, tyHas, List.map_cons, List.map_nil, List.length_cons, List.length_nil, List.length_map, Nat.zero_add, Nat.add_zero, Nat.reduceAdd, Nat.reduceSub, Nat.reduceMul, Nat.reduceLeDiff, Nat.reduceEqDiff, List.replicate_succ, List.replicate_zero, List.cons_append, List.nil_append, List.append_nil, List.getElem?_cons_zero, List.getElem?_cons_succ, List.getElem?_nil, List.set_cons_zero, List.set_cons_succ, if_true, if_false, ite_true, ite_false, Bool.false_eq_true, Bool.not_true, Bool.not_false, Option.map_some, Option.map_none, reduceCtorEq, beq_self_eq_true, Nat.reduceBEq, Bool.or_true, Bool.or_false, Bool.true_or, Bool.false_or, Bool.and_true, Bool.and_false, Bool.true_and, Bool.false_and, reduceIte, decide_true, decide_false, lenLim, true_and, e_addi, e_adds, e_addt, e_addl, e_subi, e_muli, e_mult, e_mull, e_fdiv, e_mod, e_pow, e_neg, e_eq, e_ne, e_lti, e_ltt, e_lei, e_gti, e_gei, e_isn0, e_isb, e_isnn, e_isnb, e_in, e_nin, e_ixt, e_ixf, e_ixr, e_sqt, e_sqf, e_sqr, e_slt, e_slr, e_rvt, e_rvr, e_lnt, e_lnf, e_lns, e_lnr, e_len, e_tuple, e_list, e_inti, e_intb, e_abs, e_divmod, e_min2, e_max2, e_all, e_any, e_app, e_ext, e_rec, e_isnk, e_isbk, e_isik, e_issk, e_istk, e_isrk, e_tn, e_tb, e_ti, e_tt, e_tf, e_tr, e_sit, e_sif, e_sir, e_part, e_augA, e_augS, e_nn, e_nnb, e_nni, e_nns, e_nnt, e_nnf, e_nnr, e_tp, e_acons, e_anil]
        try simp
  · rintro env S' ⟨hi, ⟨m3, rfl⟩, x4, x5, x6, x7, x8, x9, rfl⟩
    simp -implicitDefEqProofs -dsimp only [Wp_ok, Wp_no, Wp_er, Wp_bind, Wp_some, Wp_none, Wp_guard, Wp_iteB, runDef, dSeq2, dVar, dCon, dNil, dCons, dStar, dTup, dLst, dDct0, dBin, dNeg, dTru, dIf, dNotT, dBl, dBool, dAnd, dOr, dCmp, dCmp2, dIdx, dNoPart, dPart, dSlc, dRev, dCall, dBlt, dMet, dIsi, aNm, aSub, dItSeq, dItRng, dItRng2, dItEnu, dItZip, dItEnz, dNo, sExp, sAsg, setAll, sPar, sAug, sRet, sSeq, sNil, sCnt, sFor, wipeE, new, mtTy, tyHas, List.map_cons, List.map_nil, List.length_cons, List.length_nil, List.length_map, Nat.zero_add, Nat.add_zero, Nat.reduceAdd, Nat.reduceSub, Nat.reduceMul, Nat.reduceLeDiff, Nat.reduceEqDiff, List.replicate_succ, List.replicate_zero, List.cons_append, List.nil_append, List.append_nil, List.getElem?_cons_zero, List.getElem?_cons_succ, List.getElem?_nil, List.set_cons_zero, List.set_cons_succ, if_true, if_false, ite_true, ite_false, Bool.false_eq_true, Bool.not_true, Bool.not_false, Option.map_some, Option.map_none, reduceCtorEq, beq_self_eq_true, Nat.reduceBEq, Bool.or_true, Bool.or_false, Bool.true_or, Bool.false_or, Bool.and_true, Bool.and_false, Bool.true_and, Bool.false_and, reduceIte, decide_true, decide_false, lenLim, true_and, e_addi, e_adds, e_addt, e_addl, e_subi, e_muli, e_mult, e_mull, e_fdiv, e_mod, e_pow, e_neg, e_eq, e_ne, e_lti, e_ltt, e_lei, e_gti, e_gei, e_isn0, e_isb, e_isnn, e_isnb, e_in, e_nin, e_ixt, e_ixf, e_ixr, e_sqt, e_sqf, e_sqr, e_slt, e_slr, e_rvt, e_rvr, e_lnt, e_lnf, e_lns, e_lnr, e_len, e_tuple, e_list, e_inti, e_intb, e_abs, e_divmod, e_min2, e_max2, e_all, e_any, e_app, e_ext, e_rec, e_isnk, e_isbk, e_isik, e_issk, e_istk, e_isrk, e_tn, e_tb, e_ti, e_tt, e_tf, e_tr, e_sit, e_sif, e_sir, e_part, e_augA, e_augS, e_nn, e_nnb, e_nni, e_nns, e_nnt, e_nnf, e_nnr, e_tp, e_acons, e_anil, at_mid]
    rw [show (enuW 0 (zipW (List.map W.int cs) (List.map W.int ds))).length = ds.length by rw [enuW_len, zipW_len, List.length_map, List.length_map]; omega]
    refine ⟨by rw [hl], m ++ m2 ++ .lst (dnn b cs ds ds.length) :: m3, ?_⟩
    rw [← hS1]
    simp only [List.append_assoc]
/-! ### the dice -/
def Dc (r : Nat) (m : Int) (S : Sto) : Prop := ∃ a b c : Int, S[r]? = some (.lst [.int a, .int b, .int c]) ∧ 0 ≤ a ∧ 0 ≤ c ∧ c ≤ m
theorem at3_0 (x y z : W) : L2.atI [x, y, z] 0 = some x := rfl
theorem at3_1 (x y z : W) : L2.atI [x, y, z] 1 = some y := rfl
theorem at3_2 (x y z : W) : L2.atI [x, y, z] 2 = some z := rfl
theorem ix3_0 : L2.ixN 3 0 = some 0 := rfl
theorem ix3_2 : L2.ixN 3 2 = some 2 := rfl
theorem set_get {S : Sto} {r : Nat} {o o' : O} (h : S[r]? = some o) : (S.set r o')[r]? = some o' := by
  rw [List.getElem?_set_self (List.getElem?_eq_some_iff.mp h).1]
theorem set_set' (S : Sto) (r : Nat) (o o' : O) : (S.set r o).set r o' = S.set r o' := by simp
theorem mul_small {i j : Int} (h1 : i.natAbs < 2 ^ 200) (h2 : j.natAbs < 2 ^ 200) : (i.natAbs.log2 + j.natAbs.log2 < 1000000) = True := eq_true (mul_ok h1 h2)
end L59
set_option autoImplicit false
set_option Elab.async false
set_option linter.all false
set_option maxRecDepth 100000
set_option maxHeartbeats 4000000
namespace L59
open PySem Pv
theorem log70001 : (70001 : Int).natAbs.log2 < 9000 := Nat.lt_trans (log_lt (k := 17) (by omega) (by omega)) (by omega)
theorem f22_ok (n r : Nat) (m t : Int) (S : Sto) (hd : Dc r m S) (hm : m ≤ 1000000) (ht : 0 < t) (ht2 : t.natAbs.log2 < 9000) :
    Wp (callF Dd (n + 1) 22 [.ref r, .int t] S) (fun v S' => ∃ x : Int, v = .int x ∧ 0 ≤ x ∧ x < t ∧ Dc r (m + 1) S' ∧ ∃ o, S' = S.set r o) E0 := by
  obtain ⟨a, b, c, hS, ha, hc, hcm⟩ := hd
  rw [u22]
  simp -implicitDefEqProofs -dsimp only [Wp_ok, Wp_no, Wp_er, Wp_bind, Wp_some, Wp_none, Wp_guard, Wp_iteB, runDef, dSeq2, dVar, dCon, dNil, dCons, dStar, dTup, dLst, dDct0, dBin, dNeg, dTru, dIf, dNotT, dBl, dBool, dAnd, dOr, dCmp, dCmp2, dIdx, dNoPart, dPart, dSlc, dRev, dCall, dBlt, dMet, dIsi, aNm, aSub, dItSeq, dItRng, dItRng2, dItEnu, dItZip, dItEnz, dNo, sExp, sAsg, setAll, sPar, sAug, sRet, sSeq, sNil, sCnt, sFor, wipeE, new, mtTy, tyHas, List.map_cons, List.map_nil, List.length_cons, List.length_nil, List.length_map, Nat.zero_add, Nat.add_zero, Nat.reduceAdd, Nat.reduceSub, Nat.reduceMul, Nat.reduceLeDiff, Nat.reduceEqDiff, List.replicate_succ, List.replicate_zero, List.cons_append, List.nil_append, List.append_nil, List.getElem?_cons_zero, List.getElem?_cons_succ, List.getElem?_nil, List.set_cons_zero, List.set_cons_succ, if_true, if_false, ite_true, ite_false, Bool.false_eq_true, Bool.not_true, Bool.not_false, Option.map_some, Option.map_none, reduceCtorEq, beq_self_eq_true, Nat.reduceBEq, Bool.or_true, Bool.or_false, Bool.true_or, Bool.false_or, Bool.and_true, Bool.and_false, Bool.true_and, Bool.false_and, reduceIte, decide_true, decide_false, lenLim, true_and, e_addi, e_adds, e_addt, e_addl, e_subi, e_muli, e_mult, e_mull, e_fdiv, e_mod, e_pow, e_neg, e_eq, e_ne, e_lti, e_ltt, e_lei, e_gti, e_gei, e_isn0, e_isb, e_isnn, e_isnb, e_in, e_nin, e_ixt, e_ixf, e_ixr, e_sqt, e_sqf, e_sqr, e_slt, e_slr, e_rvt, e_rvr, e_lnt, e_lnf, e_lns, e_lnr, e_len, e_tuple, e_list, e_inti, e_intb, e_abs, e_divmod, e_min2, e_max2, e_all, e_any, e_app, e_ext, e_rec, e_isnk, e_isbk, e_isik, e_issk, e_istk, e_isrk, e_tn, e_tb, e_ti, e_tt, e_tf, e_tr, e_sit, e_sif, e_sir, e_part, e_augA, e_augS, e_nn, e_nnb, e_nni, e_nns, e_nnt, e_nnf, e_nnr, e_tp, e_acons, e_anil, hS, at3_0]
  by_cases h : 0 < a
  · simp -implicitDefEqProofs -dsimp only [Wp_ok, Wp_no, Wp_er, Wp_bind, Wp_some, Wp_none, Wp_guard, Wp_iteB, runDef, dSeq2, dVar, dCon, dNil, dCons, dStar, dTup, dLst, dDct0, dBin, dNeg, dTru, dIf, dNotT, dBl, dBool, dAnd, dOr, dCmp, dCmp2, dIdx, dNoPart, dPart, dSlc, dRev, dCall, dBlt, dMet, dIsi, aNm, aSub, dItSeq, dItRng, dItRng2, dItEnu, dItZip, dItEnz, dNo, sExp, sAsg, setAll, sPar, sAug, sRet, sSeq, sNil, sCnt, sFor, wipeE, new, mtTy, tyHas, List.map_cons, List.map_nil, List.length_cons, List.length_nil, List.length_map, Nat.zero_add, Nat.add_zero, Nat.reduceAdd, Nat.reduceSub, Nat.reduceMul, Nat.reduceLeDiff, Nat.reduceEqDiff, List.replicate_succ, List.replicate_zero, List.cons_append, List.nil_append, List.append_nil, List.getElem?_cons_zero, List.getElem?_cons_succ, List.getElem?_nil, List.set_cons_zero, List.set_cons_succ, if_true, if_false, ite_true, ite_false, Bool.false_eq_true, Bool.not_true, Bool.not_false, Option.map_some, Option.map_none, reduceCtorEq, beq_self_eq_true, Nat.reduceBEq, Bool.or_true, Bool.or_false, Bool.true_or, Bool.false_or, Bool.and_true, Bool.and_false, Bool.true_and, Bool.false_and, reduceIte, decide_true, decide_false, lenLim, true_and, e_addi, e_adds, e_addt, e_addl, e_subi, e_muli, e_mult, e_mull, e_fdiv, e_mod, e_pow, e_neg, e_eq, e_ne, e_lti, e_ltt, e_lei, e_gti, e_gei, e_isn0, e_isb, e_isnn, e_isnb, e_in, e_nin, e_ixt, e_ixf, e_ixr, e_sqt, e_sqf, e_sqr, e_slt, e_slr, e_rvt, e_rvr, e_lnt, e_lnf, e_lns, e_lnr, e_len, e_tuple, e_list, e_inti, e_intb, e_abs, e_divmod, e_min2, e_max2, e_all, e_any, e_app, e_ext, e_rec, e_isnk, e_isbk, e_isik, e_issk, e_istk, e_isrk, e_tn, e_tb, e_ti, e_tt, e_tf, e_tr, e_sit, e_sif, e_sir, e_part, e_augA, e_augS, e_nn, e_nnb, e_nni, e_nns, e_nnt, e_nnf, e_nnr, e_tp, e_acons, e_anil, h, hS, at3_0, ht, ht2, and_self, ix3_0]
    exact ⟨a % t, rfl, Int.emod_nonneg _ (by omega), Int.emod_lt_of_pos _ ht, ⟨a / t, b, c, set_get hS, Int.ediv_nonneg ha (by omega), hc, by omega⟩, _, rfl⟩
  · simp -implicitDefEqProofs -dsimp only [Wp_ok, Wp_no, Wp_er, Wp_bind, Wp_some, Wp_none, Wp_guard, Wp_iteB, runDef, dSeq2, dVar, dCon, dNil, dCons, dStar, dTup, dLst, dDct0, dBin, dNeg, dTru, dIf, dNotT, dBl, dBool, dAnd, dOr, dCmp, dCmp2, dIdx, dNoPart, dPart, dSlc, dRev, dCall, dBlt, dMet, dIsi, aNm, aSub, dItSeq, dItRng, dItRng2, dItEnu, dItZip, dItEnz, dNo, sExp, sAsg, setAll, sPar, sAug, sRet, sSeq, sNil, sCnt, sFor, wipeE, new, mtTy, tyHas, List.map_cons, List.map_nil, List.length_cons, List.length_nil, List.length_map, Nat.zero_add, Nat.add_zero, Nat.reduceAdd, Nat.reduceSub, Nat.reduceMul, Nat.reduceLeDiff, Nat.reduceEqDiff, List.replicate_succ, List.replicate_zero, List.cons_append, List.nil_append, List.append_nil, List.getElem?_cons_zero, List.getElem?_cons_succ, List.getElem?_nil, List.set_cons_zero, List.set_cons_succ, if_true, if_false, ite_true, ite_false, Bool.false_eq_true, Bool.not_true, Bool.not_false, Option.map_some, Option.map_none, reduceCtorEq, beq_self_eq_true, Nat.reduceBEq, Bool.or_true, Bool.or_false, Bool.true_or, Bool.false_or, Bool.and_true, Bool.and_false, Bool.true_and, Bool.false_and, reduceIte, decide_true, decide_false, lenLim, true_and, e_addi, e_adds, e_addt, e_addl, e_subi, e_muli, e_mult, e_mull, e_fdiv, e_mod, e_pow, e_neg, e_eq, e_ne, e_lti, e_ltt, e_lei, e_gti, e_gei, e_isn0, e_isb, e_isnn, e_isnb, e_in, e_nin, e_ixt, e_ixf, e_ixr, e_sqt, e_sqf, e_sqr, e_slt, e_slr, e_rvt, e_rvr, e_lnt, e_lnf, e_lns, e_lnr, e_len, e_tuple, e_list, e_inti, e_intb, e_abs, e_divmod, e_min2, e_max2, e_all, e_any, e_app, e_ext, e_rec, e_isnk, e_isbk, e_isik, e_issk, e_istk, e_isrk, e_tn, e_tb, e_ti, e_tt, e_tf, e_tr, e_sit, e_sif, e_sir, e_part, e_augA, e_augS, e_nn, e_nnb, e_nni, e_nns, e_nnt, e_nnf, e_nnr, e_tp, e_acons, e_anil, h, hS, at3_2, ix3_2, set_get hS, at3_1]
    have g1 : ((67867967 : Int).natAbs.log2 + (c + 1).natAbs.log2 < 1000000) = True := mul_small (by omega) (by
      have : (c + 1).natAbs ≤ 1000002 := by omega
      exact Nat.lt_of_le_of_lt this (by decide))
    have g5 : ((211 : Int).natAbs.log2 + (c + 1).natAbs.log2 < 1000000) = True := mul_small (by omega) (by
      have : (c + 1).natAbs ≤ 1000002 := by omega
      exact Nat.lt_of_le_of_lt this (by decide))
    have g2 : (0 < (2305843009213693613 : Int)) = True := eq_true (by omega)
    simp -implicitDefEqProofs -dsimp only [Wp_ok, Wp_no, Wp_er, Wp_bind, Wp_some, Wp_none, Wp_guard, Wp_iteB, runDef, dSeq2, dVar, dCon, dNil, dCons, dStar, dTup, dLst, dDct0, dBin, dNeg, dTru, dIf, dNotT, dBl, dBool, dAnd, dOr, dCmp, dCmp2, dIdx, dNoPart, dPart, dSlc, dRev, dCall, dBlt, dMet, dIsi, aNm, aSub, dItSeq, dItRng, dItRng2, dItEnu, dItZip, dItEnz, dNo, sExp, sAsg, setAll, sPar, sAug, sRet, sSeq, sNil, sCnt, sFor, wipeE, new, mtTy, tyHas, List.map_cons, List.map_nil, List.length_cons, List.length_nil, List.length_map, Nat.zero_add, Nat.add_zero, Nat.reduceAdd, Nat.reduceSub, Nat.reduceMul, Nat.reduceLeDiff, Nat.reduceEqDiff, List.replicate_succ, List.replicate_zero, List.cons_append, List.nil_append, List.append_nil, List.getElem?_cons_zero, List.getElem?_cons_succ, List.getElem?_nil, List.set_cons_zero, List.set_cons_succ, if_true, if_false, ite_true, ite_false, Bool.false_eq_true, Bool.not_true, Bool.not_false, Option.map_some, Option.map_none, reduceCtorEq, beq_self_eq_true, Nat.reduceBEq, Bool.or_true, Bool.or_false, Bool.true_or, Bool.false_or, Bool.and_true, Bool.and_false, Bool.true_and, Bool.false_and, reduceIte, decide_true, decide_false, lenLim, true_and, e_addi, e_adds, e_addt, e_addl, e_subi, e_muli, e_mult, e_mull, e_fdiv, e_mod, e_pow, e_neg, e_eq, e_ne, e_lti, e_ltt, e_lei, e_gti, e_gei, e_isn0, e_isb, e_isnn, e_isnb, e_in, e_nin, e_ixt, e_ixf, e_ixr, e_sqt, e_sqf, e_sqr, e_slt, e_slr, e_rvt, e_rvr, e_lnt, e_lnf, e_lns, e_lnr, e_len, e_tuple, e_list, e_inti, e_intb, e_abs, e_divmod, e_min2, e_max2, e_all, e_any, e_app, e_ext, e_rec, e_isnk, e_isbk, e_isik, e_issk, e_istk, e_isrk, e_tn, e_tb, e_ti, e_tt, e_tf, e_tr, e_sit, e_sif, e_sir, e_part, e_augA, e_augS, e_nn, e_nnb, e_nni, e_nns, e_nnt, e_nnf, e_nnr, e_tp, e_acons, e_anil, g1, g2, g5]
    generalize hone : (b + 67867967 * (c + 1)) % 2305843009213693613 = one
    have o1 : 0 ≤ one := by rw [← hone]; exact Int.emod_nonneg _ (by omega)
    have o2 : one < 2305843009213693613 := by rw [← hone]; exact Int.emod_lt_of_pos _ (by omega)
    have g3 : (one.natAbs.log2 + one.natAbs.log2 < 1000000) = True := by
      have : one.natAbs < 2 ^ 200 := Nat.lt_of_le_of_lt (show one.natAbs ≤ 2305843009213693613 by omega) (by decide)
      exact mul_small this this
    have g4 : (0 < (2305843009213693487 : Int)) = True := eq_true (by omega)
    simp -implicitDefEqProofs -dsimp only [Wp_ok, Wp_no, Wp_er, Wp_bind, Wp_some, Wp_none, Wp_guard, Wp_iteB, runDef, dSeq2, dVar, dCon, dNil, dCons, dStar, dTup, dLst, dDct0, dBin, dNeg, dTru, dIf, dNotT, dBl, dBool, dAnd, dOr, dCmp, dCmp2, dIdx, dNoPart, dPart, dSlc, dRev, dCall, dBlt, dMet, dIsi, aNm, aSub, dItSeq, dItRng, dItRng2, dItEnu, dItZip, dItEnz, dNo, sExp, sAsg, setAll, sPar, sAug, sRet, sSeq, sNil, sCnt, sFor, wipeE, new, mtTy, tyHas, List.map_cons, List.map_nil, List.length_cons, List.length_nil, List.length_map, Nat.zero_add, Nat.add_zero, Nat.reduceAdd, Nat.reduceSub, Nat.reduceMul, Nat.reduceLeDiff, Nat.reduceEqDiff, List.replicate_succ, List.replicate_zero, List.cons_append, List.nil_append, List.append_nil, List.getElem?_cons_zero, List.getElem?_cons_succ, List.getElem?_nil, List.set_cons_zero, List.set_cons_succ, if_true, if_false, ite_true, ite_false, Bool.false_eq_true, Bool.not_true, Bool.not_false, Option.map_some, Option.map_none, reduceCtorEq, beq_self_eq_true, Nat.reduceBEq, Bool.or_true, Bool.or_false, Bool.true_or, Bool.false_or, Bool.and_true, Bool.and_false, Bool.true_and, Bool.false_and, reduceIte, decide_true, decide_false, lenLim, true_and, e_addi, e_adds, e_addt, e_addl, e_subi, e_muli, e_mult, e_mull, e_fdiv, e_mod, e_pow, e_neg, e_eq, e_ne, e_lti, e_ltt, e_lei, e_gti, e_gei, e_isn0, e_isb, e_isnn, e_isnb, e_in, e_nin, e_ixt, e_ixf, e_ixr, e_sqt, e_sqf, e_sqr, e_slt, e_slr, e_rvt, e_rvr, e_lnt, e_lnf, e_lns, e_lnr, e_len, e_tuple, e_list, e_inti, e_intb, e_abs, e_divmod, e_min2, e_max2, e_all, e_any, e_app, e_ext, e_rec, e_isnk, e_isbk, e_isik, e_issk, e_istk, e_isrk, e_tn, e_tb, e_ti, e_tt, e_tf, e_tr, e_sit, e_sif, e_sir, e_part, e_augA, e_augS, e_nn, e_nnb, e_nni, e_nns, e_nnt, e_nnf, e_nnr, e_tp, e_acons, e_anil, g3, g4]
    generalize htwo : (one * one + 211 * (c + 1)) % 2305843009213693487 = two
    have t1 : 0 ≤ two := by rw [← htwo]; exact Int.emod_nonneg _ (by omega)
    have t2 : two < 2305843009213693487 := by rw [← htwo]; exact Int.emod_lt_of_pos _ (by omega)
    have g6 : (two.natAbs.log2 + (49979693 : Int).natAbs.log2 < 1000000) = True := mul_small (Nat.lt_of_le_of_lt (show two.natAbs ≤ 2305843009213693487 by omega) (by decide)) (by omega)
    have g7 : (0 < (70001 : Int) ∧ (70001 : Int).natAbs.log2 < 9000) = True := eq_true ⟨by omega, log70001⟩
    simp -implicitDefEqProofs -dsimp only [Wp_ok, Wp_no, Wp_er, Wp_bind, Wp_some, Wp_none, Wp_guard, Wp_iteB, runDef, dSeq2, dVar, dCon, dNil, dCons, dStar, dTup, dLst, dDct0, dBin, dNeg, dTru, dIf, dNotT, dBl, dBool, dAnd, dOr, dCmp, dCmp2, dIdx, dNoPart, dPart, dSlc, dRev, dCall, dBlt, dMet, dIsi, aNm, aSub, dItSeq, dItRng, dItRng2, dItEnu, dItZip, dItEnz, dNo, sExp, sAsg, setAll, sPar, sAug, sRet, sSeq, sNil, sCnt, sFor, wipeE, new, mtTy, tyHas, List.map_cons, List.map_nil, List.length_cons, List.length_nil, List.length_map, Nat.zero_add, Nat.add_zero, Nat.reduceAdd, Nat.reduceSub, Nat.reduceMul, Nat.reduceLeDiff, Nat.reduceEqDiff, List.replicate_succ, List.replicate_zero, List.cons_append, List.nil_append, List.append_nil, List.getElem?_cons_zero, List.getElem?_cons_succ, List.getElem?_nil, List.set_cons_zero, List.set_cons_succ, if_true, if_false, ite_true, ite_false, Bool.false_eq_true, Bool.not_true, Bool.not_false, Option.map_some, Option.map_none, reduceCtorEq, beq_self_eq_true, Nat.reduceBEq, Bool.or_true, Bool.or_false, Bool.true_or, Bool.false_or, Bool.and_true, Bool.and_false, Bool.true_and, Bool.false_and, reduceIte, decide_true, decide_false, lenLim, true_and, e_addi, e_adds, e_addt, e_addl, e_subi, e_muli, e_mult, e_mull, e_fdiv, e_mod, e_pow, e_neg, e_eq, e_ne, e_lti, e_ltt, e_lei, e_gti, e_gei, e_isn0, e_isb, e_isnn, e_isnb, e_in, e_nin, e_ixt, e_ixf, e_ixr, e_sqt, e_sqf, e_sqr, e_slt, e_slr, e_rvt, e_rvr, e_lnt, e_lnf, e_lns, e_lnr, e_len, e_tuple, e_list, e_inti, e_intb, e_abs, e_divmod, e_min2, e_max2, e_all, e_any, e_app, e_ext, e_rec, e_isnk, e_isbk, e_isik, e_issk, e_istk, e_isrk, e_tn, e_tb, e_ti, e_tt, e_tf, e_tr, e_sit, e_sif, e_sir, e_part, e_augA, e_augS, e_nn, e_nnb, e_nni, e_nns, e_nnt, e_nnf, e_nnr, e_tp, e_acons, e_anil, g6, g7, ht]
    exact ⟨_, rfl, Int.emod_nonneg _ (by omega), Int.emod_lt_of_pos _ ht, ⟨a, b, c + 1, set_get hS, ha, by omega, by omega⟩, _, rfl⟩
/-- the dice change, new things come, all else stays -/
def Gs (r : Nat) (S S' : Sto) : Prop := ∃ o m, S' = S.set r o ++ m
theorem Dc.lt {r : Nat} {m : Int} {S : Sto} (h : Dc r m S) : r < S.length := by
  obtain ⟨a, b, c, h, _⟩ := h
  exact (List.getElem?_eq_some_iff.mp h).1
theorem Gs.set {r : Nat} {S : Sto} {o : O} : Gs r S (S.set r o) := ⟨o, [], by simp⟩
theorem Gs.app {r : Nat} {S : Sto} {m : Int} (h : Dc r m S) (m' : Sto) : Gs r S (S ++ m') := by
  obtain ⟨a, b, c, h, _⟩ := h
  refine ⟨.lst [.int a, .int b, .int c], m', ?_⟩
  congr 1
  have hl := (List.getElem?_eq_some_iff.mp h).1
  have e := (List.getElem?_eq_some_iff.mp h).2
  rw [← e, List.set_getElem_self]
theorem Gs.trans {r : Nat} {S S1 S2 : Sto} (hr : r < S.length) (a : Gs r S S1) (b : Gs r S1 S2) : Gs r S S2 := by
  obtain ⟨o, m, rfl⟩ := a
  obtain ⟨o', m', rfl⟩ := b
  exact ⟨o', m ++ m', by rw [List.set_append_left _ _ (by rw [List.length_set]; exact hr), List.set_set, List.append_assoc]⟩
theorem Gs.get {r j : Nat} {S S' : Sto} {x : O} (g : Gs r S S') (hj : j ≠ r) (h : S[j]? = some x) : S'[j]? = some x := by
  obtain ⟨o, m, rfl⟩ := g
  have hl := (List.getElem?_eq_some_iff.mp h).1
  rw [List.getElem?_append_left (by rw [List.length_set]; exact hl), List.getElem?_set_ne (Ne.symm hj), h]
theorem Dc.app {r : Nat} {m : Int} {S : Sto} (h : Dc r m S) (m' : Sto) : Dc r m (S ++ m') := by
  have hl := h.lt
  obtain ⟨a, b, c, h, x⟩ := h
  exact ⟨a, b, c, by rw [List.getElem?_append_left hl]; exact h, x⟩
theorem Dc.le {r : Nat} {m m' : Int} {S : Sto} (h : Dc r m S) (hm : m ≤ m') : Dc r m' S := by
  obtain ⟨a, b, c, h, x, y, z⟩ := h
  exact ⟨a, b, c, h, x, y, by omega⟩
/-- a roll -/
theorem roll (n r : Nat) (m t : Int) (S : Sto) (hd : Dc r m S) (hm : m ≤ 1000000) (ht : 0 < t) (ht2 : t.natAbs.log2 < 9000) :
    Wp (callF Dd (n + 1) 22 [.ref r, .int t] S) (fun v S' => ∃ x : Int, v = .int x ∧ 0 ≤ x ∧ x < t ∧ Dc r (m + 1) S' ∧ Gs r S S') E0 :=
  (f22_ok n r m t S hd hm ht ht2).then fun v S' ⟨x, e, h0, h1, h2, o, e2⟩ => ⟨x, e, h0, h1, h2, by rw [e2]; exact .set⟩
theorem pick (n r q : Nat) (m : Int) (S : Sto) (ws : List W) (hd : Dc r m S) (hm : m ≤ 1000000) (hq : S[q]? = some (.lst ws)) (hqr : q ≠ r) (hl : 0 < ws.length) (hl2 : ws.length < 1000) :
    Wp (callF Dd (n + 2) 23 [.ref r, .ref q] S) (fun v S' => v ∈ ws ∧ Dc r (m + 1) S' ∧ Gs r S S') E0 := by
  rw [u23]
  simp -implicitDefEqProofs -dsimp only [Wp_ok, Wp_no, Wp_er, Wp_bind, Wp_some, Wp_none, Wp_guard, Wp_iteB, runDef, dSeq2, dVar, dCon, dNil, dCons, dStar, dTup, dLst, dDct0, dBin, dNeg, dTru, dIf, dNotT, dBl, dBool, dAnd, dOr, dCmp, dCmp2, dIdx, dNoPart, dPart, dSlc, dRev, dCall, dBlt, dMet, dIsi, aNm, aSub, dItSeq, dItRng, dItRng2, dItEnu, dItZip, dItEnz, dNo, sExp, sAsg, setAll, sPar, sAug, sRet, sSeq, sNil, sCnt, sFor, wipeE, new, mtTy, tyHas, List.map_cons, List.map_nil, List.length_cons, List.length_nil, List.length_map, Nat.zero_add, Nat.add_zero, Nat.reduceAdd, Nat.reduceSub, Nat.reduceMul, Nat.reduceLeDiff, Nat.reduceEqDiff, List.replicate_succ, List.replicate_zero, List.cons_append, List.nil_append, List.append_nil, List.getElem?_cons_zero, List.getElem?_cons_succ, List.getElem?_nil, List.set_cons_zero, List.set_cons_succ, if_true, if_false, ite_true, ite_false, Bool.false_eq_true, Bool.not_true, Bool.not_false, Option.map_some, Option.map_none, reduceCtorEq, beq_self_eq_true, Nat.reduceBEq, Bool.or_true, Bool.or_false, Bool.true_or, Bool.false_or, Bool.and_true, Bool.and_false, Bool.true_and, Bool.false_and, reduceIte, decide_true, decide_false, lenLim, true_and, e_addi, e_adds, e_addt, e_addl, e_subi, e_muli, e_mult, e_mull, e_fdiv, e_mod, e_pow, e_neg, e_eq, e_ne, e_lti, e_ltt, e_lei, e_gti, e_gei, e_isn0, e_isb, e_isnn, e_isnb, e_in, e_nin, e_ixt, e_ixf, e_ixr, e_sqt, e_sqf, e_sqr, e_slt, e_slr, e_rvt, e_rvr, e_lnt, e_lnf, e_lns, e_lnr, e_len, e_tuple, e_list, e_inti, e_intb, e_abs, e_divmod, e_min2, e_max2, e_all, e_any, e_app, e_ext, e_rec, e_isnk, e_isbk, e_isik, e_issk, e_istk, e_isrk, e_tn, e_tb, e_ti, e_tt, e_tf, e_tr, e_sit, e_sif, e_sir, e_part, e_augA, e_augS, e_nn, e_nnb, e_nni, e_nns, e_nnt, e_nnf, e_nnr, e_tp, e_acons, e_anil, hq]
  refine (roll n r m (ws.length : Nat) S hd hm (by omega) (by
    rw [Int.natAbs_natCast]
    exact Nat.lt_trans (log_lt (k := 10) (by omega) (by omega)) (by omega))).then ?_
  rintro v S' ⟨x, rfl, h0, h1, h2, h3⟩
  have hx : x.toNat < ws.length := by omega
  have ha : L2.atI ws x = some ws[x.toNat] := at_ok h0 (List.getElem?_eq_getElem hx)
  simp -implicitDefEqProofs -dsimp only [Wp_ok, Wp_no, Wp_er, Wp_bind, Wp_some, Wp_none, Wp_guard, Wp_iteB, runDef, dSeq2, dVar, dCon, dNil, dCons, dStar, dTup, dLst, dDct0, dBin, dNeg, dTru, dIf, dNotT, dBl, dBool, dAnd, dOr, dCmp, dCmp2, dIdx, dNoPart, dPart, dSlc, dRev, dCall, dBlt, dMet, dIsi, aNm, aSub, dItSeq, dItRng, dItRng2, dItEnu, dItZip, dItEnz, dNo, sExp, sAsg, setAll, sPar, sAug, sRet, sSeq, sNil, sCnt, sFor, wipeE, new, mtTy, tyHas, List.map_cons, List.map_nil, List.length_cons, List.length_nil, List.length_map, Nat.zero_add, Nat.add_zero, Nat.reduceAdd, Nat.reduceSub, Nat.reduceMul, Nat.reduceLeDiff, Nat.reduceEqDiff, List.replicate_succ, List.replicate_zero, List.cons_append, List.nil_append, List.append_nil, List.getElem?_cons_zero, List.getElem?_cons_succ, List.getElem?_nil, List.set_cons_zero, List.set_cons_succ, if_true, if_false, ite_true, ite_false, Bool.false_eq_true, Bool.not_true, Bool.not_false, Option.map_some, Option.map_none, reduceCtorEq, beq_self_eq_true, Nat.reduceBEq, Bool.or_true, Bool.or_false, Bool.true_or, Bool.false_or, Bool.and_true, Bool.and_false, Bool.true_and, Bool.false_and, reduceIte, decide_true, decide_false, lenLim, true_and, e_addi, e_adds, e_addt, e_addl, e_subi, e_muli, e_mult, e_mull, e_fdiv, e_mod, e_pow, e_neg, e_eq, e_ne, e_lti, e_ltt, e_lei, e_gti, e_gei, e_isn0, e_isb, e_isnn, e_isnb, e_in, e_nin, e_ixt, e_ixf, e_ixr, e_sqt, e_sqf, e_sqr, e_slt, e_slr, e_rvt, e_rvr, e_lnt, e_lnf, e_lns, e_lnr, e_len, e_tuple, e_list, e_inti, e_intb, e_abs, e_divmod, e_min2, e_max2, e_all, e_any, e_app, e_ext, e_rec, e_isnk, e_isbk, e_isik, e_issk, e_istk, e_isrk, e_tn, e_tb, e_ti, e_tt, e_tf, e_tr, e_sit, e_sif, e_sir, e_part, e_augA, e_augS, e_nn, e_nnb, e_nni, e_nns, e_nnt, e_nnf, e_nnr, e_tp, e_acons, e_anil, h3.get hqr hq, ha]
  exact ⟨List.getElem_mem hx, h2, h3⟩
theorem log_b' {b : Int} (h : 0 < b) (h2 : b ≤ 10 ^ 100) : b.natAbs.log2 < 9000 := Nat.lt_trans (log_lt (k := 400) (Nat.lt_of_le_of_lt (show b.natAbs ≤ 10 ^ 100 by omega) (by decide)) (by omega)) (by omega)
end L59
set_option autoImplicit false
set_option Elab.async false
set_option linter.all false
set_option maxRecDepth 100000
set_option maxHeartbeats 4000000
namespace L59
open PySem Pv
def plnI : W → Bool
  | .int _ => true
  | _ => false
theorem eqW_ints (S : Sto) : ∀ (as : List Int), eqW S (.tup (as.map .int)) (.tup (as.map .int)) = some true := by
  intro as
  have h1 : ∀ n (as : List Int), dpAll (dpW (n + 1) S) (as.map .int) = some (as.map PyData.int) := by
    intro n as
    induction as with
    | nil => rfl
    | cons a r ih => rw [List.map_cons, dpAll, ih]; rfl
  have h2 : dpW 66 S (.tup (as.map .int)) = some (.tuple (as.map PyData.int)) := by
    show (dpAll (dpW 65 S) (as.map .int)).map PyData.tuple = _
    rw [h1 64 as]
    rfl
  have h3 : SeqAt.shaped (.tuple (as.map PyData.int)) = true := by
    have a : ∀ as : List Int, PyData.canLayAll0 (as.map PyData.int) = true := by
      intro as
      induction as with
      | nil => rfl
      | cons a r ih => rw [List.map_cons, PyData.canLayAll0, ih]; rfl
    have b : ∀ as : List Int, PyData.depthAll (as.map PyData.int) = 0 := by
      intro as
      induction as with
      | nil => rfl
      | cons a r ih => rw [List.map_cons, PyData.depthAll, ih]; rfl
    unfold SeqAt.shaped
    rw [show PyData.canLay0 (.tuple (as.map PyData.int)) = PyData.canLayAll0 (as.map PyData.int) from rfl, a as]
    show decide (PyData.depthAll (as.map PyData.int) + 1 ≤ 64) = true
    rw [b as]
    rfl
  have h4 : ∀ as : List Int, PyData.eqvAll (as.map PyData.int) (as.map PyData.int) = true := by
    intro as
    induction as with
    | nil => rfl
    | cons a r ih =>
      rw [List.map_cons, PyData.eqvAll, ih, PyData.eqv]
      simp
  unfold eqW
  rw [h2]
  dsimp only
  rw [h3]
  show some (PyData.eqvAll (as.map PyData.int) (as.map PyData.int)) = _
  rw [h4]
theorem eqW_bl (S : Sto) (p q : Bool) : eqW S (.bl p) (.bl q) = some (p == q) := rfl
theorem lex_refl : ∀ xs : List Int, HT.lexLt xs xs = false
  | [] => rfl
  | x :: xs => by rw [HT.lexLt_cons, if_pos rfl, lex_refl xs]
theorem lex_app : ∀ (xs ys : List Int) (a b : Int), xs.length = ys.length → HT.lexLt (xs ++ [a]) (ys ++ [b]) = if xs = ys then decide (a < b) else HT.lexLt xs ys
  | [], [], a, b, _ => by
    simp only [List.nil_append, HT.lexLt_cons, if_true]
    by_cases h : a = b
    · rw [if_pos h]; subst h; simp [HT.lexLt]
    · rw [if_neg h]
  | [], _ :: _, _, _, h => by simp at h
  | _ :: _, [], _, _, h => by simp at h
  | x :: xs, y :: ys, a, b, h => by
    rw [List.cons_append, List.cons_append, HT.lexLt_cons, HT.lexLt_cons, lex_app xs ys a b (by simpa using h)]
    by_cases e : x = y
    · subst e
      by_cases e2 : xs = ys
      · subst e2; simp
      · simp [e2]
    · simp [e]
theorem wInts_map : ∀ as : List Int, wInts (as.map .int) = some as
  | [] => rfl
  | a :: r => by rw [List.map_cons, wInts, wInts_map r]; rfl
theorem hor_inj {b : Int} (h : 2 ≤ b) {as bs : List Int} (hl : as.length = bs.length) (ha : ∀ d ∈ as, 0 ≤ d ∧ d < b) (hb : ∀ d ∈ bs, 0 ≤ d ∧ d < b) (e : hor b as = hor b bs) : as = bs := by
  have h1 := digs_hor (b := b) (by omega) as ha
  have h2 := digs_hor (b := b) (by omega) bs hb
  rw [← h1, ← h2, hl, e]
theorem hor_lex {b : Int} (h : 2 ≤ b) : ∀ {as bs : List Int}, as.length = bs.length → (∀ d ∈ as, 0 ≤ d ∧ d < b) → (∀ d ∈ bs, 0 ≤ d ∧ d < b) → decide (hor b as < hor b bs) = HT.lexLt as.reverse bs.reverse
  | [], [], _, _, _ => by simp [hor, HT.lexLt]
  | [], _ :: _, h, _, _ => by simp at h
  | _ :: _, [], h, _, _ => by simp at h
  | a :: as, c :: cs, hl, ha, hc => by
    have hl' : as.length = cs.length := by simpa using hl
    have ha' : ∀ d ∈ as, 0 ≤ d ∧ d < b := fun d hd => ha d (by simp [hd])
    have hc' : ∀ d ∈ cs, 0 ≤ d ∧ d < b := fun d hd => hc d (by simp [hd])
    obtain ⟨a1, a2⟩ := ha a (by simp)
    obtain ⟨c1, c2⟩ := hc c (by simp)
    rw [List.reverse_cons, List.reverse_cons, lex_app _ _ _ _ (by simp [hl'])]
    have ih := hor_lex h hl' ha' hc'
    rw [hor, hor]
    by_cases e : as = cs
    · subst e
      rw [if_pos rfl]
      congr 1
      apply propext
      omega
    · rw [if_neg (by simpa using e), ← ih]
      congr 1
      apply propext
      have ne : hor b as ≠ hor b cs := fun z => e (hor_inj h hl' ha' hc' z)
      constructor
      · intro z
        by_cases q : hor b as < hor b cs
        · exact q
        · have : b * hor b cs + b * 1 ≤ b * hor b as := by rw [← Int.mul_add]; exact Int.mul_le_mul_of_nonneg_left (by omega) (by omega)
          omega
      · intro z
        have : b * hor b as + b * 1 ≤ b * hor b cs := by rw [← Int.mul_add]; exact Int.mul_le_mul_of_nonneg_left (by omega) (by omega)
        omega
end L59
set_option autoImplicit false
set_option Elab.async false
set_option linter.all false
set_option maxRecDepth 100000
set_option maxHeartbeats 4000000
namespace L59
open PySem Pv
theorem Wp.drop {α : Type} {r : R α} {P : α → Sto → Prop} {E : Nat → Option W → Sto → Prop} (h : Wp r P E) : Wp r P E := h
theorem small8 : (8 : Int).natAbs.log2 < 9000 := Nat.lt_trans (log_lt (k := 5) (by omega) (by omega)) (by omega)
theorem hor8 {b : Int} (h1 : 2 ≤ b) {ds : List Int} (h : ok8 b ds) : 0 ≤ hor b ds ∧ hor b ds < b ^ 8 := by
  have := hor_lt h1 h.2
  rwa [h.1] at this
theorem f26_ok (n r : Nat) (m b : Int) (S : Sto) (hd : Dc r m S) (hm : m + 100 ≤ 1000000) (h1 : 2 ≤ b) (h2 : b ≤ 1000) :
    Wp (callF Dd (n + 8) 26 [.ref r, .int b] S) (fun v S' => v = .bl true ∧ Dc r (m + 100) S' ∧ Gs r S S') E0 := by
  have hr := hd.lt
  rw [u26]
  simp -implicitDefEqProofs -dsimp only [Wp_ok, Wp_no, Wp_er, Wp_bind, Wp_some, Wp_none, Wp_guard, Wp_iteB, runDef, dSeq2, dVar, dCon, dNil, dCons, dStar, dTup, dLst, dDct0, dBin, dNeg, dTru, dIf, dNotT, dBl, dBool, dAnd, dOr, dCmp, dCmp2, dIdx, dNoPart, dPart, dSlc, dRev, dCall, dBlt, dMet, dIsi, aNm, aSub, dItSeq, dItRng, dItRng2, dItEnu, dItZip, dItEnz, dNo, sExp, sAsg, setAll, sPar, sAug, sRet, sSeq, sNil, sCnt, sFor, wipeE, new, mtTy, tyHas, List.map_cons, List.map_nil, List.length_cons, List.length_nil, List.length_map, Nat.zero_add, Nat.add_zero, Nat.reduceAdd, Nat.reduceSub, Nat.reduceMul, Nat.reduceLeDiff, Nat.reduceEqDiff, List.replicate_succ, List.replicate_zero, List.cons_append, List.nil_append, List.append_nil, List.getElem?_cons_zero, List.getElem?_cons_succ, List.getElem?_nil, List.set_cons_zero, List.set_cons_succ, if_true, if_false, ite_true, ite_false, Bool.false_eq_true, Bool.not_true, Bool.not_false, Option.map_some, Option.map_none, reduceCtorEq, beq_self_eq_true, Nat.reduceBEq, Bool.or_true, Bool.or_false, Bool.true_or, Bool.false_or, Bool.and_true, Bool.and_false, Bool.true_and, Bool.false_and, reduceIte, decide_true, decide_false, lenLim, true_and, e_addi, e_adds, e_addt, e_addl, e_subi, e_muli, e_mult, e_mull, e_fdiv, e_mod, e_pow, e_neg, e_eq, e_ne, e_lti, e_ltt, e_lei, e_gti, e_gei, e_isn0, e_isb, e_isnn, e_isnb, e_in, e_nin, e_ixt, e_ixf, e_ixr, e_sqt, e_sqf, e_sqr, e_slt, e_slr, e_rvt, e_rvr, e_lnt, e_lnf, e_lns, e_lnr, e_len, e_tuple, e_list, e_inti, e_intb, e_abs, e_divmod, e_min2, e_max2, e_all, e_any, e_app, e_ext, e_rec, e_isnk, e_isbk, e_isik, e_issk, e_istk, e_isrk, e_tn, e_tb, e_ti, e_tt, e_tf, e_tr, e_sit, e_sif, e_sir, e_part, e_augA, e_augS, e_nn, e_nnb, e_nni, e_nns, e_nnt, e_nnf, e_nnr, e_tp, e_acons, e_anil, dLc, Wp_noErr_eq, rng8_eq]
  refine Wp_lc (fun i acc S' => i ≤ 8 ∧ ∃ ds : List Int, acc = ds.map .int ∧ ds.length = i ∧ (∀ d ∈ ds, 0 ≤ d ∧ d < b) ∧ Dc r (m + 2 * i) S' ∧ Gs r S S') ⟨by omega, [], rfl, rfl, by simp, hd.le (by omega), by have := Gs.app hd []; rwa [List.append_nil] at this⟩ (fun _ _ _ _ _ => rfl) ?_ ?_
  · rintro i w acc S1 hw ⟨hi, ds, rfl, hl, hr2, hd1, g1⟩
    have hi8 : i < 8 := (List.getElem?_eq_some_iff.mp hw).1
    simp -implicitDefEqProofs -dsimp only [Wp_ok, Wp_no, Wp_er, Wp_bind, Wp_some, Wp_none, Wp_guard, Wp_iteB, runDef, dSeq2, dVar, dCon, dNil, dCons, dStar, dTup, dLst, dDct0, dBin, dNeg, dTru, dIf, dNotT, dBl, dBool, dAnd, dOr, dCmp, dCmp2, dIdx, dNoPart, dPart, dSlc, dRev, dCall, dBlt, dMet, dIsi, aNm, aSub, dItSeq, dItRng, dItRng2, dItEnu, dItZip, dItEnz, dNo, sExp, sAsg, setAll, sPar, sAug, sRet, sSeq, sNil, sCnt, sFor, wipeE, new, mtTy, tyHas, List.map_cons, List.map_nil, List.length_cons, List.length_nil, List.length_map, Nat.zero_add, Nat.add_zero, Nat.reduceAdd, Nat.reduceSub, Nat.reduceMul, Nat.reduceLeDiff, Nat.reduceEqDiff, List.replicate_succ, List.replicate_zero, List.cons_append, List.nil_append, List.append_nil, List.getElem?_cons_zero, List.getElem?_cons_succ, List.getElem?_nil, List.set_cons_zero, List.set_cons_succ, if_true, if_false, ite_true, ite_false, Bool.false_eq_true, Bool.not_true, Bool.not_false, Option.map_some, Option.map_none, reduceCtorEq, beq_self_eq_true, Nat.reduceBEq, Bool.or_true, Bool.or_false, Bool.true_or, Bool.false_or, Bool.and_true, Bool.and_false, Bool.true_and, Bool.false_and, reduceIte, decide_true, decide_false, lenLim, true_and, e_addi, e_adds, e_addt, e_addl, e_subi, e_muli, e_mult, e_mull, e_fdiv, e_mod, e_pow, e_neg, e_eq, e_ne, e_lti, e_ltt, e_lei, e_gti, e_gei, e_isn0, e_isb, e_isnn, e_isnb, e_in, e_nin, e_ixt, e_ixf, e_ixr, e_sqt, e_sqf, e_sqr, e_slt, e_slr, e_rvt, e_rvr, e_lnt, e_lnf, e_lns, e_lnr, e_len, e_tuple, e_list, e_inti, e_intb, e_abs, e_divmod, e_min2, e_max2, e_all, e_any, e_app, e_ext, e_rec, e_isnk, e_isbk, e_isik, e_issk, e_istk, e_isrk, e_tn, e_tb, e_ti, e_tt, e_tf, e_tr, e_sit, e_sif, e_sir, e_part, e_augA, e_augS, e_nn, e_nnb, e_nni, e_nns, e_nnt, e_nnf, e_nnr, e_tp, e_acons, e_anil]
    have hq : (S1 ++ [O.lst [.int b, .int 2, .int 1]])[S1.length]? = some (.lst [.int b, .int 2, .int 1]) := at_last _ _
    refine (pick (n + 5) r S1.length (m + 2 * i) _ _ (hd1.app _) (by omega) hq (by have := hd1.lt; omega) (by simp) (by simp)).then ?_
    rintro v S2 ⟨hv, hd2, g2⟩
    try simp -implicitDefEqProofs -dsimp only [Wp_ok, Wp_no, Wp_er, Wp_bind, Wp_some, Wp_none, Wp_guard, Wp_iteB, runDef, dSeq2, dVar, dCon, dNil, dCons, dStar, dTup, dLst, dDct0, dBin, dNeg, dTru, dIf, dNotT, dBl, dBool, dAnd, dOr, dCmp, dCmp2, dIdx, dNoPart, dPart, dSlc, dRev, dCall, dBlt, dMet, dIsi, aNm, aSub, dItSeq, dItRng, dItRng2, dItEnu, dItZip, dItEnz, dNo, sExp, sAsg, setAll, sPar, sAug, sRet, sSeq, sNil, sCnt, sFor, wipeE, new, mtTy, tyHas, List.map_cons, List.map_nil, List.length_cons, List.length_nil, List.length_map, Nat.zero_add, Nat.add_zero, Nat.reduceAdd, Nat.reduceSub, Nat.reduceMul, Nat.reduceLeDiff, Nat.reduceEqDiff, List.replicate_succ, List.replicate_zero, List.cons_append, List.nil_append, List.append_nil, List.getElem?_cons_zero, List.getElem?_cons_succ, List.getElem?_nil, List.set_cons_zero, List.set_cons_succ, if_true, if_false, ite_true, ite_false, Bool.false_eq_true, Bool.not_true, Bool.not_false, Option.map_some, Option.map_none, reduceCtorEq, beq_self_eq_true, Nat.reduceBEq, Bool.or_true, Bool.or_false, Bool.true_or, Bool.false_or, Bool.and_true, Bool.and_false, Bool.true_and, Bool.false_and, reduceIte, decide_true, decide_false, lenLim, true_and, e_addi, e_adds, e_addt, e_addl, e_subi, e_muli, e_mult, e_mull, e_fdiv, e_mod, e_pow, e_neg, e_eq, e_ne, e_lti, e_ltt, e_lei, e_gti, e_gei, e_isn0, e_isb, e_isnn, e_isnb, e_in, e_nin, e_ixt, e_ixf, e_ixr, e_sqt, e_sqf, e_sqr, e_slt, e_slr, e_rvt, e_rvr, e_lnt, e_lnf, e_lns, e_lnr, e_len, e_tuple, e_list, e_inti, e_intb, e_abs, e_divmod, e_min2, e_max2, e_all, e_any, e_app, e_ext, e_rec, e_isnk, e_isbk, e_isik, e_issk, e_istk, e_isrk, e_tn, e_tb, e_ti, e_tt, e_tf, e_tr, e_sit, e_sif, e_sir, e_part, e_augA, e_augS, e_nn, e_nnb, e_nni, e_nns, e_nnt, e_nnf, e_nnr, e_tp, e_acons, e_anil]
    have g12 := (Gs.app hd1 [O.lst [.int b, .int 2, .int 1]]).trans hd1.lt g2
    have key : ∃ t : Int, v = .int t ∧ 1 ≤ t ∧ t ≤ b := by
      simp only [List.mem_cons, List.not_mem_nil, or_false] at hv
      rcases hv with rfl | rfl | rfl
      · exact ⟨b, rfl, by omega, by omega⟩
      · exact ⟨2, rfl, by omega, by omega⟩
      · exact ⟨1, rfl, by omega, by omega⟩
    obtain ⟨t, rfl, t1, t2⟩ := key
    try simp -implicitDefEqProofs -dsimp only [Wp_ok, Wp_no, Wp_er, Wp_bind, Wp_some, Wp_none, Wp_guard, Wp_iteB, runDef, dSeq2, dVar, dCon, dNil, dCons, dStar, dTup, dLst, dDct0, dBin, dNeg, dTru, dIf, dNotT, dBl, dBool, dAnd, dOr, dCmp, dCmp2, dIdx, dNoPart, dPart, dSlc, dRev, dCall, dBlt, dMet, dIsi, aNm, aSub, dItSeq, dItRng, dItRng2, dItEnu, dItZip, dItEnz, dNo, sExp, sAsg, setAll, sPar, sAug, sRet, sSeq, sNil, sCnt, sFor, wipeE, new, mtTy, tyHas, List.map_cons, List.map_nil, List.length_cons, List.length_nil, List.length_map, Nat.zero_add, Nat.add_zero, Nat.reduceAdd, Nat.reduceSub, Nat.reduceMul, Nat.reduceLeDiff, Nat.reduceEqDiff, List.replicate_succ, List.replicate_zero, List.cons_append, List.nil_append, List.append_nil, List.getElem?_cons_zero, List.getElem?_cons_succ, List.getElem?_nil, List.set_cons_zero, List.set_cons_succ, if_true, if_false, ite_true, ite_false, Bool.false_eq_true, Bool.not_true, Bool.not_false, Option.map_some, Option.map_none, reduceCtorEq, beq_self_eq_true, Nat.reduceBEq, Bool.or_true, Bool.or_false, Bool.true_or, Bool.false_or, Bool.and_true, Bool.and_false, Bool.true_and, Bool.false_and, reduceIte, decide_true, decide_false, lenLim, true_and, e_addi, e_adds, e_addt, e_addl, e_subi, e_muli, e_mult, e_mull, e_fdiv, e_mod, e_pow, e_neg, e_eq, e_ne, e_lti, e_ltt, e_lei, e_gti, e_gei, e_isn0, e_isb, e_isnn, e_isnb, e_in, e_nin, e_ixt, e_ixf, e_ixr, e_sqt, e_sqf, e_sqr, e_slt, e_slr, e_rvt, e_rvr, e_lnt, e_lnf, e_lns, e_lnr, e_len, e_tuple, e_list, e_inti, e_intb, e_abs, e_divmod, e_min2, e_max2, e_all, e_any, e_app, e_ext, e_rec, e_isnk, e_isbk, e_isik, e_issk, e_istk, e_isrk, e_tn, e_tb, e_ti, e_tt, e_tf, e_tr, e_sit, e_sif, e_sir, e_part, e_augA, e_augS, e_nn, e_nnb, e_nni, e_nns, e_nnt, e_nnf, e_nnr, e_tp, e_acons, e_anil]
    refine (roll (n + 6) r _ t S2 hd2 (by omega) (by omega) (Nat.lt_trans (log_lt (k := 10) (by omega) (by omega)) (by omega))).then ?_
    rintro v S3 ⟨x, rfl, x0, x1, hd3, g3⟩
    try simp -implicitDefEqProofs -dsimp only [Wp_ok, Wp_no, Wp_er, Wp_bind, Wp_some, Wp_none, Wp_guard, Wp_iteB, runDef, dSeq2, dVar, dCon, dNil, dCons, dStar, dTup, dLst, dDct0, dBin, dNeg, dTru, dIf, dNotT, dBl, dBool, dAnd, dOr, dCmp, dCmp2, dIdx, dNoPart, dPart, dSlc, dRev, dCall, dBlt, dMet, dIsi, aNm, aSub, dItSeq, dItRng, dItRng2, dItEnu, dItZip, dItEnz, dNo, sExp, sAsg, setAll, sPar, sAug, sRet, sSeq, sNil, sCnt, sFor, wipeE, new, mtTy, tyHas, List.map_cons, List.map_nil, List.length_cons, List.length_nil, List.length_map, Nat.zero_add, Nat.add_zero, Nat.reduceAdd, Nat.reduceSub, Nat.reduceMul, Nat.reduceLeDiff, Nat.reduceEqDiff, List.replicate_succ, List.replicate_zero, List.cons_append, List.nil_append, List.append_nil, List.getElem?_cons_zero, List.getElem?_cons_succ, List.getElem?_nil, List.set_cons_zero, List.set_cons_succ, if_true, if_false, ite_true, ite_false, Bool.false_eq_true, Bool.not_true, Bool.not_false, Option.map_some, Option.map_none, reduceCtorEq, beq_self_eq_true, Nat.reduceBEq, Bool.or_true, Bool.or_false, Bool.true_or, Bool.false_or, Bool.and_true, Bool.and_false, Bool.true_and, Bool.false_and, reduceIte, decide_true, decide_false, lenLim, true_and, e_addi, e_adds, e_addt, e_addl, e_subi, e_muli, e_mult, e_mull, e_fdiv, e_mod, e_pow, e_neg, e_eq, e_ne, e_lti, e_ltt, e_lei, e_gti, e_gei, e_isn0, e_isb, e_isnn, e_isnb, e_in, e_nin, e_ixt, e_ixf, e_ixr, e_sqt, e_sqf, e_sqr, e_slt, e_slr, e_rvt, e_rvr, e_lnt, e_lnf, e_lns, e_lnr, e_len, e_tuple, e_list, e_inti, e_intb, e_abs, e_divmod, e_min2, e_max2, e_all, e_any, e_app, e_ext, e_rec, e_isnk, e_isbk, e_isik, e_issk, e_istk, e_isrk, e_tn, e_tb, e_ti, e_tt, e_tf, e_tr, e_sit, e_sif, e_sir, e_part, e_augA, e_augS, e_nn, e_nnb, e_nni, e_nns, e_nnt, e_nnf, e_nnr, e_tp, e_acons, e_anil]
    refine ⟨by rw [hl]; omega, by omega, ds ++ [x], by simp, by simp [hl], ?_, hd3.le (by omega), g1.trans hr (g12.trans hd1.lt g3)⟩
    intro d hd
    rcases List.mem_append.mp hd with h | h
    · exact hr2 d h
    · rw [List.mem_singleton.mp h]; exact ⟨x0, by omega⟩
  · rintro acc S1 ⟨_, ds, rfl, hl, hrg, hd1, g1⟩
    have h8 : ok8 b ds := ⟨hl, hrg⟩
    obtain ⟨w0, w1⟩ := hor8 h1 h8
    have hd1' : Dc r (m + 16) (S1 ++ [O.lst (ds.map .int)]) := (hd1.le (by rw [show rng8.length = 8 from rfl]; omega)).app _
    have g1' : Gs r S (S1 ++ [O.lst (ds.map .int)]) := g1.trans hr (Gs.app hd1 _)
    simp -implicitDefEqProofs -dsimp only [Wp_ok, Wp_no, Wp_er, Wp_bind, Wp_some, Wp_none, Wp_guard, Wp_iteB, runDef, dSeq2, dVar, dCon, dNil, dCons, dStar, dTup, dLst, dDct0, dBin, dNeg, dTru, dIf, dNotT, dBl, dBool, dAnd, dOr, dCmp, dCmp2, dIdx, dNoPart, dPart, dSlc, dRev, dCall, dBlt, dMet, dIsi, aNm, aSub, dItSeq, dItRng, dItRng2, dItEnu, dItZip, dItEnz, dNo, sExp, sAsg, setAll, sPar, sAug, sRet, sSeq, sNil, sCnt, sFor, wipeE, new, mtTy, tyHas, List.map_cons, List.map_nil, List.length_cons, List.length_nil, List.length_map, Nat.zero_add, Nat.add_zero, Nat.reduceAdd, Nat.reduceSub, Nat.reduceMul, Nat.reduceLeDiff, Nat.reduceEqDiff, List.replicate_succ, List.replicate_zero, List.cons_append, List.nil_append, List.append_nil, List.getElem?_cons_zero, List.getElem?_cons_succ, List.getElem?_nil, List.set_cons_zero, List.set_cons_succ, if_true, if_false, ite_true, ite_false, Bool.false_eq_true, Bool.not_true, Bool.not_false, Option.map_some, Option.map_none, reduceCtorEq, beq_self_eq_true, Nat.reduceBEq, Bool.or_true, Bool.or_false, Bool.true_or, Bool.false_or, Bool.and_true, Bool.and_false, Bool.true_and, Bool.false_and, reduceIte, decide_true, decide_false, lenLim, true_and, e_addi, e_adds, e_addt, e_addl, e_subi, e_muli, e_mult, e_mull, e_fdiv, e_mod, e_pow, e_neg, e_eq, e_ne, e_lti, e_ltt, e_lei, e_gti, e_gei, e_isn0, e_isb, e_isnn, e_isnb, e_in, e_nin, e_ixt, e_ixf, e_ixr, e_sqt, e_sqf, e_sqr, e_slt, e_slr, e_rvt, e_rvr, e_lnt, e_lnf, e_lns, e_lnr, e_len, e_tuple, e_list, e_inti, e_intb, e_abs, e_divmod, e_min2, e_max2, e_all, e_any, e_app, e_ext, e_rec, e_isnk, e_isbk, e_isik, e_issk, e_istk, e_isrk, e_tn, e_tb, e_ti, e_tt, e_tf, e_tr, e_sit, e_sif, e_sir, e_part, e_augA, e_augS, e_nn, e_nnb, e_nni, e_nns, e_nnt, e_nnf, e_nnr, e_tp, e_acons, e_anil, at_last, f25_ok (n + 6) b ds _ h1 h2 h8]
    generalize S1 ++ [O.lst (ds.map .int)] = S2 at hd1' g1'
    refine (roll (n + 6) r _ 8 S2 hd1' (by omega) (by omega) small8).then ?_
    rintro v S3 ⟨i, rfl, i0, i1, hd3, g3⟩
    simp -implicitDefEqProofs -dsimp only [Wp_ok, Wp_no, Wp_er, Wp_bind, Wp_some, Wp_none, Wp_guard, Wp_iteB, runDef, dSeq2, dVar, dCon, dNil, dCons, dStar, dTup, dLst, dDct0, dBin, dNeg, dTru, dIf, dNotT, dBl, dBool, dAnd, dOr, dCmp, dCmp2, dIdx, dNoPart, dPart, dSlc, dRev, dCall, dBlt, dMet, dIsi, aNm, aSub, dItSeq, dItRng, dItRng2, dItEnu, dItZip, dItEnz, dNo, sExp, sAsg, setAll, sPar, sAug, sRet, sSeq, sNil, sCnt, sFor, wipeE, new, mtTy, tyHas, List.map_cons, List.map_nil, List.length_cons, List.length_nil, List.length_map, Nat.zero_add, Nat.add_zero, Nat.reduceAdd, Nat.reduceSub, Nat.reduceMul, Nat.reduceLeDiff, Nat.reduceEqDiff, List.replicate_succ, List.replicate_zero, List.cons_append, List.nil_append, List.append_nil, List.getElem?_cons_zero, List.getElem?_cons_succ, List.getElem?_nil, List.set_cons_zero, List.set_cons_succ, if_true, if_false, ite_true, ite_false, Bool.false_eq_true, Bool.not_true, Bool.not_false, Option.map_some, Option.map_none, reduceCtorEq, beq_self_eq_true, Nat.reduceBEq, Bool.or_true, Bool.or_false, Bool.true_or, Bool.false_or, Bool.and_true, Bool.and_false, Bool.true_and, Bool.false_and, reduceIte, decide_true, decide_false, lenLim, true_and, e_addi, e_adds, e_addt, e_addl, e_subi, e_muli, e_mult, e_mull, e_fdiv, e_mod, e_pow, e_neg, e_eq, e_ne, e_lti, e_ltt, e_lei, e_gti, e_gei, e_isn0, e_isb, e_isnn, e_isnb, e_in, e_nin, e_ixt, e_ixf, e_ixr, e_sqt, e_sqf, e_sqr, e_slt, e_slr, e_rvt, e_rvr, e_lnt, e_lnf, e_lns, e_lnr, e_len, e_tuple, e_list, e_inti, e_intb, e_abs, e_divmod, e_min2, e_max2, e_all, e_any, e_app, e_ext, e_rec, e_isnk, e_isbk, e_isik, e_issk, e_istk, e_isrk, e_tn, e_tb, e_ti, e_tt, e_tf, e_tr, e_sit, e_sif, e_sir, e_part, e_augA, e_augS, e_nn, e_nnb, e_nni, e_nns, e_nnt, e_nnf, e_nnr, e_tp, e_acons, e_anil]
    refine (roll (n + 6) r _ b S3 hd3 (by omega) (by omega) (log_b h1 h2)).then ?_
    rintro v S4 ⟨x, rfl, x0, x1, hd4, g4⟩
    try simp -implicitDefEqProofs -dsimp only [Wp_ok, Wp_no, Wp_er, Wp_bind, Wp_some, Wp_none, Wp_guard, Wp_iteB, runDef, dSeq2, dVar, dCon, dNil, dCons, dStar, dTup, dLst, dDct0, dBin, dNeg, dTru, dIf, dNotT, dBl, dBool, dAnd, dOr, dCmp, dCmp2, dIdx, dNoPart, dPart, dSlc, dRev, dCall, dBlt, dMet, dIsi, aNm, aSub, dItSeq, dItRng, dItRng2, dItEnu, dItZip, dItEnz, dNo, sExp, sAsg, setAll, sPar, sAug, sRet, sSeq, sNil, sCnt, sFor, wipeE, new, mtTy, tyHas, List.map_cons, List.map_nil, List.length_cons, List.length_nil, List.length_map, Nat.zero_add, Nat.add_zero, Nat.reduceAdd, Nat.reduceSub, Nat.reduceMul, Nat.reduceLeDiff, Nat.reduceEqDiff, List.replicate_succ, List.replicate_zero, List.cons_append, List.nil_append, List.append_nil, List.getElem?_cons_zero, List.getElem?_cons_succ, List.getElem?_nil, List.set_cons_zero, List.set_cons_succ, if_true, if_false, ite_true, ite_false, Bool.false_eq_true, Bool.not_true, Bool.not_false, Option.map_some, Option.map_none, reduceCtorEq, beq_self_eq_true, Nat.reduceBEq, Bool.or_true, Bool.or_false, Bool.true_or, Bool.false_or, Bool.and_true, Bool.and_false, Bool.true_and, Bool.false_and, reduceIte, decide_true, decide_false, lenLim, true_and, e_addi, e_adds, e_addt, e_addl, e_subi, e_muli, e_mult, e_mull, e_fdiv, e_mod, e_pow, e_neg, e_eq, e_ne, e_lti, e_ltt, e_lei, e_gti, e_gei, e_isn0, e_isb, e_isnn, e_isnb, e_in, e_nin, e_ixt, e_ixf, e_ixr, e_sqt, e_sqf, e_sqr, e_slt, e_slr, e_rvt, e_rvr, e_lnt, e_lnf, e_lns, e_lnr, e_len, e_tuple, e_list, e_inti, e_intb, e_abs, e_divmod, e_min2, e_max2, e_all, e_any, e_app, e_ext, e_rec, e_isnk, e_isbk, e_isik, e_issk, e_istk, e_isrk, e_tn, e_tb, e_ti, e_tt, e_tf, e_tr, e_sit, e_sif, e_sir, e_part, e_augA, e_augS, e_nn, e_nnb, e_nni, e_nns, e_nnt, e_nnf, e_nnr, e_tp, e_acons, e_anil]
    have hdg : digs b 8 (hor b ds) = ds := by rw [show (8 : Nat) = ds.length from h8.1.symm, digs_hor (by omega) ds hrg]
    have hlt : i.toNat < ds.length := by rw [h8.1]; omega
    refine (f11_ok (n + 2) b ds S4 h1 h2 h8).wp fun m1 => ?_
    simp -implicitDefEqProofs -dsimp only [Wp_ok, Wp_no, Wp_er, Wp_bind, Wp_some, Wp_none, Wp_guard, Wp_iteB, runDef, dSeq2, dVar, dCon, dNil, dCons, dStar, dTup, dLst, dDct0, dBin, dNeg, dTru, dIf, dNotT, dBl, dBool, dAnd, dOr, dCmp, dCmp2, dIdx, dNoPart, dPart, dSlc, dRev, dCall, dBlt, dMet, dIsi, aNm, aSub, dItSeq, dItRng, dItRng2, dItEnu, dItZip, dItEnz, dNo, sExp, sAsg, setAll, sPar, sAug, sRet, sSeq, sNil, sCnt, sFor, wipeE, new, mtTy, tyHas, List.map_cons, List.map_nil, List.length_cons, List.length_nil, List.length_map, Nat.zero_add, Nat.add_zero, Nat.reduceAdd, Nat.reduceSub, Nat.reduceMul, Nat.reduceLeDiff, Nat.reduceEqDiff, List.replicate_succ, List.replicate_zero, List.cons_append, List.nil_append, List.append_nil, List.getElem?_cons_zero, List.getElem?_cons_succ, List.getElem?_nil, List.set_cons_zero, List.set_cons_succ, if_true, if_false, ite_true, ite_false, Bool.false_eq_true, Bool.not_true, Bool.not_false, Option.map_some, Option.map_none, reduceCtorEq, beq_self_eq_true, Nat.reduceBEq, Bool.or_true, Bool.or_false, Bool.true_or, Bool.false_or, Bool.and_true, Bool.and_false, Bool.true_and, Bool.false_and, reduceIte, decide_true, decide_false, lenLim, true_and, e_addi, e_adds, e_addt, e_addl, e_subi, e_muli, e_mult, e_mull, e_fdiv, e_mod, e_pow, e_neg, e_eq, e_ne, e_lti, e_ltt, e_lei, e_gti, e_gei, e_isn0, e_isb, e_isnn, e_isnb, e_in, e_nin, e_ixt, e_ixf, e_ixr, e_sqt, e_sqf, e_sqr, e_slt, e_slr, e_rvt, e_rvr, e_lnt, e_lnf, e_lns, e_lnr, e_len, e_tuple, e_list, e_inti, e_intb, e_abs, e_divmod, e_min2, e_max2, e_all, e_any, e_app, e_ext, e_rec, e_isnk, e_isbk, e_isik, e_issk, e_istk, e_isrk, e_tn, e_tb, e_ti, e_tt, e_tf, e_tr, e_sit, e_sif, e_sir, e_part, e_augA, e_augS, e_nn, e_nnb, e_nni, e_nns, e_nnt, e_nnf, e_nnr, e_tp, e_acons, e_anil, eqW_int]
    refine (f13_ok (n + 1) b (hor b ds) _ h1 h2 w0 w1).wp fun m2 => ?_
    simp -implicitDefEqProofs -dsimp only [Wp_ok, Wp_no, Wp_er, Wp_bind, Wp_some, Wp_none, Wp_guard, Wp_iteB, runDef, dSeq2, dVar, dCon, dNil, dCons, dStar, dTup, dLst, dDct0, dBin, dNeg, dTru, dIf, dNotT, dBl, dBool, dAnd, dOr, dCmp, dCmp2, dIdx, dNoPart, dPart, dSlc, dRev, dCall, dBlt, dMet, dIsi, aNm, aSub, dItSeq, dItRng, dItRng2, dItEnu, dItZip, dItEnz, dNo, sExp, sAsg, setAll, sPar, sAug, sRet, sSeq, sNil, sCnt, sFor, wipeE, new, mtTy, tyHas, List.map_cons, List.map_nil, List.length_cons, List.length_nil, List.length_map, Nat.zero_add, Nat.add_zero, Nat.reduceAdd, Nat.reduceSub, Nat.reduceMul, Nat.reduceLeDiff, Nat.reduceEqDiff, List.replicate_succ, List.replicate_zero, List.cons_append, List.nil_append, List.append_nil, List.getElem?_cons_zero, List.getElem?_cons_succ, List.getElem?_nil, List.set_cons_zero, List.set_cons_succ, if_true, if_false, ite_true, ite_false, Bool.false_eq_true, Bool.not_true, Bool.not_false, Option.map_some, Option.map_none, reduceCtorEq, beq_self_eq_true, Nat.reduceBEq, Bool.or_true, Bool.or_false, Bool.true_or, Bool.false_or, Bool.and_true, Bool.and_false, Bool.true_and, Bool.false_and, reduceIte, decide_true, decide_false, lenLim, true_and, e_addi, e_adds, e_addt, e_addl, e_subi, e_muli, e_mult, e_mull, e_fdiv, e_mod, e_pow, e_neg, e_eq, e_ne, e_lti, e_ltt, e_lei, e_gti, e_gei, e_isn0, e_isb, e_isnn, e_isnb, e_in, e_nin, e_ixt, e_ixf, e_ixr, e_sqt, e_sqf, e_sqr, e_slt, e_slr, e_rvt, e_rvr, e_lnt, e_lnf, e_lns, e_lnr, e_len, e_tuple, e_list, e_inti, e_intb, e_abs, e_divmod, e_min2, e_max2, e_all, e_any, e_app, e_ext, e_rec, e_isnk, e_isbk, e_isik, e_issk, e_istk, e_isrk, e_tn, e_tb, e_ti, e_tt, e_tf, e_tr, e_sit, e_sif, e_sir, e_part, e_augA, e_augS, e_nn, e_nnb, e_nni, e_nns, e_nnt, e_nnf, e_nnr, e_tp, e_acons, e_anil, hdg, eqW_ints]
    refine (f8_gr (n + 2) b _ _ true h1 h2 (f7_good (n + 3) b ds _ h8)).wp fun m3 => ?_
    simp -implicitDefEqProofs -dsimp only [Wp_ok, Wp_no, Wp_er, Wp_bind, Wp_some, Wp_none, Wp_guard, Wp_iteB, runDef, dSeq2, dVar, dCon, dNil, dCons, dStar, dTup, dLst, dDct0, dBin, dNeg, dTru, dIf, dNotT, dBl, dBool, dAnd, dOr, dCmp, dCmp2, dIdx, dNoPart, dPart, dSlc, dRev, dCall, dBlt, dMet, dIsi, aNm, aSub, dItSeq, dItRng, dItRng2, dItEnu, dItZip, dItEnz, dNo, sExp, sAsg, setAll, sPar, sAug, sRet, sSeq, sNil, sCnt, sFor, wipeE, new, mtTy, tyHas, List.map_cons, List.map_nil, List.length_cons, List.length_nil, List.length_map, Nat.zero_add, Nat.add_zero, Nat.reduceAdd, Nat.reduceSub, Nat.reduceMul, Nat.reduceLeDiff, Nat.reduceEqDiff, List.replicate_succ, List.replicate_zero, List.cons_append, List.nil_append, List.append_nil, List.getElem?_cons_zero, List.getElem?_cons_succ, List.getElem?_nil, List.set_cons_zero, List.set_cons_succ, if_true, if_false, ite_true, ite_false, Bool.false_eq_true, Bool.not_true, Bool.not_false, Option.map_some, Option.map_none, reduceCtorEq, beq_self_eq_true, Nat.reduceBEq, Bool.or_true, Bool.or_false, Bool.true_or, Bool.false_or, Bool.and_true, Bool.and_false, Bool.true_and, Bool.false_and, reduceIte, decide_true, decide_false, lenLim, true_and, e_addi, e_adds, e_addt, e_addl, e_subi, e_muli, e_mult, e_mull, e_fdiv, e_mod, e_pow, e_neg, e_eq, e_ne, e_lti, e_ltt, e_lei, e_gti, e_gei, e_isn0, e_isb, e_isnn, e_isnb, e_in, e_nin, e_ixt, e_ixf, e_ixr, e_sqt, e_sqf, e_sqr, e_slt, e_slr, e_rvt, e_rvr, e_lnt, e_lnf, e_lns, e_lnr, e_len, e_tuple, e_list, e_inti, e_intb, e_abs, e_divmod, e_min2, e_max2, e_all, e_any, e_app, e_ext, e_rec, e_isnk, e_isbk, e_isik, e_issk, e_istk, e_isrk, e_tn, e_tb, e_ti, e_tt, e_tf, e_tr, e_sit, e_sif, e_sir, e_part, e_augA, e_augS, e_nn, e_nnb, e_nni, e_nns, e_nnt, e_nnf, e_nnr, e_tp, e_acons, e_anil]
    refine (f14_ok (n + 1) b (hor b ds) i ds[i.toNat] _ h1 h2 w0 w1 i0 i1 (by rw [hdg]; exact List.getElem?_eq_getElem hlt)).wp fun m4 => ?_
    try simp -implicitDefEqProofs -dsimp only [Wp_ok, Wp_no, Wp_er, Wp_bind, Wp_some, Wp_none, Wp_guard, Wp_iteB, runDef, dSeq2, dVar, dCon, dNil, dCons, dStar, dTup, dLst, dDct0, dBin, dNeg, dTru, dIf, dNotT, dBl, dBool, dAnd, dOr, dCmp, dCmp2, dIdx, dNoPart, dPart, dSlc, dRev, dCall, dBlt, dMet, dIsi, aNm, aSub, dItSeq, dItRng, dItRng2, dItEnu, dItZip, dItEnz, dNo, sExp, sAsg, setAll, sPar, sAug, sRet, sSeq, sNil, sCnt, sFor, wipeE, new, mtTy, tyHas, List.map_cons, List.map_nil, List.length_cons, List.length_nil, List.length_map, Nat.zero_add, Nat.add_zero, Nat.reduceAdd, Nat.reduceSub, Nat.reduceMul, Nat.reduceLeDiff, Nat.reduceEqDiff, List.replicate_succ, List.replicate_zero, List.cons_append, List.nil_append, List.append_nil, List.getElem?_cons_zero, List.getElem?_cons_succ, List.getElem?_nil, List.set_cons_zero, List.set_cons_succ, if_true, if_false, ite_true, ite_false, Bool.false_eq_true, Bool.not_true, Bool.not_false, Option.map_some, Option.map_none, reduceCtorEq, beq_self_eq_true, Nat.reduceBEq, Bool.or_true, Bool.or_false, Bool.true_or, Bool.false_or, Bool.and_true, Bool.and_false, Bool.true_and, Bool.false_and, reduceIte, decide_true, decide_false, lenLim, true_and, e_addi, e_adds, e_addt, e_addl, e_subi, e_muli, e_mult, e_mull, e_fdiv, e_mod, e_pow, e_neg, e_eq, e_ne, e_lti, e_ltt, e_lei, e_gti, e_gei, e_isn0, e_isb, e_isnn, e_isnb, e_in, e_nin, e_ixt, e_ixf, e_ixr, e_sqt, e_sqf, e_sqr, e_slt, e_slr, e_rvt, e_rvr, e_lnt, e_lnf, e_lns, e_lnr, e_len, e_tuple, e_list, e_inti, e_intb, e_abs, e_divmod, e_min2, e_max2, e_all, e_any, e_app, e_ext, e_rec, e_isnk, e_isbk, e_isik, e_issk, e_istk, e_isrk, e_tn, e_tb, e_ti, e_tt, e_tf, e_tr, e_sit, e_sif, e_sir, e_part, e_augA, e_augS, e_nn, e_nnb, e_nni, e_nns, e_nnt, e_nnf, e_nnr, e_tp, e_acons, e_anil]
    have ha : L2.atI (ds.map W.int) i = some (.int ds[i.toNat]) := at_ok i0 (by rw [List.getElem?_map, List.getElem?_eq_getElem hlt]; rfl)
    simp -implicitDefEqProofs -dsimp only [Wp_ok, Wp_no, Wp_er, Wp_bind, Wp_some, Wp_none, Wp_guard, Wp_iteB, runDef, dSeq2, dVar, dCon, dNil, dCons, dStar, dTup, dLst, dDct0, dBin, dNeg, dTru, dIf, dNotT, dBl, dBool, dAnd, dOr, dCmp, dCmp2, dIdx, dNoPart, dPart, dSlc, dRev, dCall, dBlt, dMet, dIsi, aNm, aSub, dItSeq, dItRng, dItRng2, dItEnu, dItZip, dItEnz, dNo, sExp, sAsg, setAll, sPar, sAug, sRet, sSeq, sNil, sCnt, sFor, wipeE, new, mtTy, tyHas, List.map_cons, List.map_nil, List.length_cons, List.length_nil, List.length_map, Nat.zero_add, Nat.add_zero, Nat.reduceAdd, Nat.reduceSub, Nat.reduceMul, Nat.reduceLeDiff, Nat.reduceEqDiff, List.replicate_succ, List.replicate_zero, List.cons_append, List.nil_append, List.append_nil, List.getElem?_cons_zero, List.getElem?_cons_succ, List.getElem?_nil, List.set_cons_zero, List.set_cons_succ, if_true, if_false, ite_true, ite_false, Bool.false_eq_true, Bool.not_true, Bool.not_false, Option.map_some, Option.map_none, reduceCtorEq, beq_self_eq_true, Nat.reduceBEq, Bool.or_true, Bool.or_false, Bool.true_or, Bool.false_or, Bool.and_true, Bool.and_false, Bool.true_and, Bool.false_and, reduceIte, decide_true, decide_false, lenLim, true_and, e_addi, e_adds, e_addt, e_addl, e_subi, e_muli, e_mult, e_mull, e_fdiv, e_mod, e_pow, e_neg, e_eq, e_ne, e_lti, e_ltt, e_lei, e_gti, e_gei, e_isn0, e_isb, e_isnn, e_isnb, e_in, e_nin, e_ixt, e_ixf, e_ixr, e_sqt, e_sqf, e_sqr, e_slt, e_slr, e_rvt, e_rvr, e_lnt, e_lnf, e_lns, e_lnr, e_len, e_tuple, e_list, e_inti, e_intb, e_abs, e_divmod, e_min2, e_max2, e_all, e_any, e_app, e_ext, e_rec, e_isnk, e_isbk, e_isik, e_issk, e_istk, e_isrk, e_tn, e_tb, e_ti, e_tt, e_tf, e_tr, e_sit, e_sif, e_sir, e_part, e_augA, e_augS, e_nn, e_nnb, e_nni, e_nns, e_nnt, e_nnf, e_nnr, e_tp, e_acons, e_anil, ha, eqW_int]
    have hcat : cutW (ds.map W.int) none (some i) ++ [W.int x] ++ cutW (ds.map W.int) (some (i + 1)) none = (ds.set i.toNat x).map .int := by
      rw [List.append_assoc]
      exact cut_set ds i x i0 (by have := h8.1; omega)
    have hcl := congrArg List.length hcat
    rw [List.length_append, List.length_append, List.length_singleton, List.length_map, List.length_set, h8.1] at hcl
    have h9 := set_ok8 (i := i.toNat) h8 x0 x1
    refine ⟨by omega, by rw [List.length_append, List.length_singleton]; omega, ?_⟩
    rw [hcat]
    refine (f15_ok (n + 1) b (hor b ds) i x _ h1 h2 w0 w1 i0 i1 x0 x1).wp fun m5 => ?_
    try simp -implicitDefEqProofs -dsimp only [Wp_ok, Wp_no, Wp_er, Wp_bind, Wp_some, Wp_none, Wp_guard, Wp_iteB, runDef, dSeq2, dVar, dCon, dNil, dCons, dStar, dTup, dLst, dDct0, dBin, dNeg, dTru, dIf, dNotT, dBl, dBool, dAnd, dOr, dCmp, dCmp2, dIdx, dNoPart, dPart, dSlc, dRev, dCall, dBlt, dMet, dIsi, aNm, aSub, dItSeq, dItRng, dItRng2, dItEnu, dItZip, dItEnz, dNo, sExp, sAsg, setAll, sPar, sAug, sRet, sSeq, sNil, sCnt, sFor, wipeE, new, mtTy, tyHas, List.map_cons, List.map_nil, List.length_cons, List.length_nil, List.length_map, Nat.zero_add, Nat.add_zero, Nat.reduceAdd, Nat.reduceSub, Nat.reduceMul, Nat.reduceLeDiff, Nat.reduceEqDiff, List.replicate_succ, List.replicate_zero, List.cons_append, List.nil_append, List.append_nil, List.getElem?_cons_zero, List.getElem?_cons_succ, List.getElem?_nil, List.set_cons_zero, List.set_cons_succ, if_true, if_false, ite_true, ite_false, Bool.false_eq_true, Bool.not_true, Bool.not_false, Option.map_some, Option.map_none, reduceCtorEq, beq_self_eq_true, Nat.reduceBEq, Bool.or_true, Bool.or_false, Bool.true_or, Bool.false_or, Bool.and_true, Bool.and_false, Bool.true_and, Bool.false_and, reduceIte, decide_true, decide_false, lenLim, true_and, e_addi, e_adds, e_addt, e_addl, e_subi, e_muli, e_mult, e_mull, e_fdiv, e_mod, e_pow, e_neg, e_eq, e_ne, e_lti, e_ltt, e_lei, e_gti, e_gei, e_isn0, e_isb, e_isnn, e_isnb, e_in, e_nin, e_ixt, e_ixf, e_ixr, e_sqt, e_sqf, e_sqr, e_slt, e_slr, e_rvt, e_rvr, e_lnt, e_lnf, e_lns, e_lnr, e_len, e_tuple, e_list, e_inti, e_intb, e_abs, e_divmod, e_min2, e_max2, e_all, e_any, e_app, e_ext, e_rec, e_isnk, e_isbk, e_isik, e_issk, e_istk, e_isrk, e_tn, e_tb, e_ti, e_tt, e_tf, e_tr, e_sit, e_sif, e_sir, e_part, e_augA, e_augS, e_nn, e_nnb, e_nni, e_nns, e_nnt, e_nnf, e_nnr, e_tp, e_acons, e_anil]
    have gb : ((0 : Int) ≤ 4 ∧ (b.natAbs.log2 + 1) * Int.toNat 4 ≤ 1000000) := ⟨by omega, by
      have : b.natAbs.log2 < 10 := log_lt (by omega) (by omega)
      show (b.natAbs.log2 + 1) * 4 ≤ 1000000
      omega⟩
    simp -implicitDefEqProofs -dsimp only [Wp_ok, Wp_no, Wp_er, Wp_bind, Wp_some, Wp_none, Wp_guard, Wp_iteB, runDef, dSeq2, dVar, dCon, dNil, dCons, dStar, dTup, dLst, dDct0, dBin, dNeg, dTru, dIf, dNotT, dBl, dBool, dAnd, dOr, dCmp, dCmp2, dIdx, dNoPart, dPart, dSlc, dRev, dCall, dBlt, dMet, dIsi, aNm, aSub, dItSeq, dItRng, dItRng2, dItEnu, dItZip, dItEnz, dNo, sExp, sAsg, setAll, sPar, sAug, sRet, sSeq, sNil, sCnt, sFor, wipeE, new, mtTy, tyHas, List.map_cons, List.map_nil, List.length_cons, List.length_nil, List.length_map, Nat.zero_add, Nat.add_zero, Nat.reduceAdd, Nat.reduceSub, Nat.reduceMul, Nat.reduceLeDiff, Nat.reduceEqDiff, List.replicate_succ, List.replicate_zero, List.cons_append, List.nil_append, List.append_nil, List.getElem?_cons_zero, List.getElem?_cons_succ, List.getElem?_nil, List.set_cons_zero, List.set_cons_succ, if_true, if_false, ite_true, ite_false, Bool.false_eq_true, Bool.not_true, Bool.not_false, Option.map_some, Option.map_none, reduceCtorEq, beq_self_eq_true, Nat.reduceBEq, Bool.or_true, Bool.or_false, Bool.true_or, Bool.false_or, Bool.and_true, Bool.and_false, Bool.true_and, Bool.false_and, reduceIte, decide_true, decide_false, lenLim, true_and, e_addi, e_adds, e_addt, e_addl, e_subi, e_muli, e_mult, e_mull, e_fdiv, e_mod, e_pow, e_neg, e_eq, e_ne, e_lti, e_ltt, e_lei, e_gti, e_gei, e_isn0, e_isb, e_isnn, e_isnb, e_in, e_nin, e_ixt, e_ixf, e_ixr, e_sqt, e_sqf, e_sqr, e_slt, e_slr, e_rvt, e_rvr, e_lnt, e_lnf, e_lns, e_lnr, e_len, e_tuple, e_list, e_inti, e_intb, e_abs, e_divmod, e_min2, e_max2, e_all, e_any, e_app, e_ext, e_rec, e_isnk, e_isbk, e_isik, e_issk, e_istk, e_isrk, e_tn, e_tb, e_ti, e_tt, e_tf, e_tr, e_sit, e_sif, e_sir, e_part, e_augA, e_augS, e_nn, e_nnb, e_nni, e_nns, e_nnt, e_nnf, e_nnr, e_tp, e_acons, e_anil, hdg, f25_ok (n + 6) b _ _ h1 h2 h9, eqW_int, gb]
    have g5 : Gs r S4 (S4 ++ m1 ++ m2 ++ m3 ++ m4 ++ m5) := by simp only [List.append_assoc]; exact .app hd4 _
    have hd5 : Dc r (m + 18) (S4 ++ m1 ++ m2 ++ m3 ++ m4 ++ m5) := by simp only [List.append_assoc]; exact (hd4.le (by omega)).app _
    generalize S4 ++ m1 ++ m2 ++ m3 ++ m4 ++ m5 = S5 at g5 hd5
    have p4 : 1 ≤ b ^ 4 ∧ b ^ 4 ≤ 1000 ^ 8 := pow8 h1 h2 (by omega)
    have p8 : b ^ 8 = b ^ 4 * b ^ 4 := by rw [← Int.pow_add]
    have lb4 : (b ^ Int.toNat 4).natAbs.log2 < 9000 := log_b' (b := b ^ 4) (by omega) (by
      omega)
    refine (roll (n + 6) r _ (b ^ 4) S5 hd5 (by omega) (by omega) lb4).then ?_
    rintro v S6 ⟨y, rfl, y0, y1, hd6, g6⟩
    simp -implicitDefEqProofs -dsimp only [Wp_ok, Wp_no, Wp_er, Wp_bind, Wp_some, Wp_none, Wp_guard, Wp_iteB, runDef, dSeq2, dVar, dCon, dNil, dCons, dStar, dTup, dLst, dDct0, dBin, dNeg, dTru, dIf, dNotT, dBl, dBool, dAnd, dOr, dCmp, dCmp2, dIdx, dNoPart, dPart, dSlc, dRev, dCall, dBlt, dMet, dIsi, aNm, aSub, dItSeq, dItRng, dItRng2, dItEnu, dItZip, dItEnz, dNo, sExp, sAsg, setAll, sPar, sAug, sRet, sSeq, sNil, sCnt, sFor, wipeE, new, mtTy, tyHas, List.map_cons, List.map_nil, List.length_cons, List.length_nil, List.length_map, Nat.zero_add, Nat.add_zero, Nat.reduceAdd, Nat.reduceSub, Nat.reduceMul, Nat.reduceLeDiff, Nat.reduceEqDiff, List.replicate_succ, List.replicate_zero, List.cons_append, List.nil_append, List.append_nil, List.getElem?_cons_zero, List.getElem?_cons_succ, List.getElem?_nil, List.set_cons_zero, List.set_cons_succ, if_true, if_false, ite_true, ite_false, Bool.false_eq_true, Bool.not_true, Bool.not_false, Option.map_some, Option.map_none, reduceCtorEq, beq_self_eq_true, Nat.reduceBEq, Bool.or_true, Bool.or_false, Bool.true_or, Bool.false_or, Bool.and_true, Bool.and_false, Bool.true_and, Bool.false_and, reduceIte, decide_true, decide_false, lenLim, true_and, e_addi, e_adds, e_addt, e_addl, e_subi, e_muli, e_mult, e_mull, e_fdiv, e_mod, e_pow, e_neg, e_eq, e_ne, e_lti, e_ltt, e_lei, e_gti, e_gei, e_isn0, e_isb, e_isnn, e_isnb, e_in, e_nin, e_ixt, e_ixf, e_ixr, e_sqt, e_sqf, e_sqr, e_slt, e_slr, e_rvt, e_rvr, e_lnt, e_lnf, e_lns, e_lnr, e_len, e_tuple, e_list, e_inti, e_intb, e_abs, e_divmod, e_min2, e_max2, e_all, e_any, e_app, e_ext, e_rec, e_isnk, e_isbk, e_isik, e_issk, e_istk, e_isrk, e_tn, e_tb, e_ti, e_tt, e_tf, e_tr, e_sit, e_sif, e_sir, e_part, e_augA, e_augS, e_nn, e_nnb, e_nni, e_nns, e_nnt, e_nnf, e_nnr, e_tp, e_acons, e_anil, gb, show b ^ Int.toNat 4 = b ^ 4 from rfl]
    have big : ∀ z : Int, 0 ≤ z → z < b ^ 4 → z.natAbs < 2 ^ 200 := fun z h0 h4 => Nat.lt_of_le_of_lt (show z.natAbs ≤ 1000 ^ 8 by omega) (by decide)
    refine ⟨mul_ok (big y y0 y1) (Nat.lt_of_le_of_lt (show (b ^ 4).natAbs ≤ 1000 ^ 8 by omega) (by decide)), ?_⟩
    refine (roll (n + 6) r _ (b ^ 4) S6 hd6 (by omega) (by omega) lb4).then ?_
    rintro v S7 ⟨z, rfl, z0, z1, hd7, g7⟩
    try simp -implicitDefEqProofs -dsimp only [Wp_ok, Wp_no, Wp_er, Wp_bind, Wp_some, Wp_none, Wp_guard, Wp_iteB, runDef, dSeq2, dVar, dCon, dNil, dCons, dStar, dTup, dLst, dDct0, dBin, dNeg, dTru, dIf, dNotT, dBl, dBool, dAnd, dOr, dCmp, dCmp2, dIdx, dNoPart, dPart, dSlc, dRev, dCall, dBlt, dMet, dIsi, aNm, aSub, dItSeq, dItRng, dItRng2, dItEnu, dItZip, dItEnz, dNo, sExp, sAsg, setAll, sPar, sAug, sRet, sSeq, sNil, sCnt, sFor, wipeE, new, mtTy, tyHas, List.map_cons, List.map_nil, List.length_cons, List.length_nil, List.length_map, Nat.zero_add, Nat.add_zero, Nat.reduceAdd, Nat.reduceSub, Nat.reduceMul, Nat.reduceLeDiff, Nat.reduceEqDiff, List.replicate_succ, List.replicate_zero, List.cons_append, List.nil_append, List.append_nil, List.getElem?_cons_zero, List.getElem?_cons_succ, List.getElem?_nil, List.set_cons_zero, List.set_cons_succ, if_true, if_false, ite_true, ite_false, Bool.false_eq_true, Bool.not_true, Bool.not_false, Option.map_some, Option.map_none, reduceCtorEq, beq_self_eq_true, Nat.reduceBEq, Bool.or_true, Bool.or_false, Bool.true_or, Bool.false_or, Bool.and_true, Bool.and_false, Bool.true_and, Bool.false_and, reduceIte, decide_true, decide_false, lenLim, true_and, e_addi, e_adds, e_addt, e_addl, e_subi, e_muli, e_mult, e_mull, e_fdiv, e_mod, e_pow, e_neg, e_eq, e_ne, e_lti, e_ltt, e_lei, e_gti, e_gei, e_isn0, e_isb, e_isnn, e_isnb, e_in, e_nin, e_ixt, e_ixf, e_ixr, e_sqt, e_sqf, e_sqr, e_slt, e_slr, e_rvt, e_rvr, e_lnt, e_lnf, e_lns, e_lnr, e_len, e_tuple, e_list, e_inti, e_intb, e_abs, e_divmod, e_min2, e_max2, e_all, e_any, e_app, e_ext, e_rec, e_isnk, e_isbk, e_isik, e_issk, e_istk, e_isrk, e_tn, e_tb, e_ti, e_tt, e_tf, e_tr, e_sit, e_sif, e_sir, e_part, e_augA, e_augS, e_nn, e_nnb, e_nni, e_nns, e_nnt, e_nnf, e_nnr, e_tp, e_acons, e_anil]
    have s0 : 0 ≤ y * b ^ 4 + z := by
      have : 0 ≤ y * b ^ 4 := Int.mul_nonneg y0 (by omega)
      omega
    have s1 : y * b ^ 4 + z < b ^ 8 := by
      have : y * b ^ 4 ≤ (b ^ 4 - 1) * b ^ 4 := Int.mul_le_mul_of_nonneg_right (by omega) (by omega)
      rw [Int.sub_mul, Int.one_mul] at this
      omega
    try simp -implicitDefEqProofs -dsimp only [Wp_ok, Wp_no, Wp_er, Wp_bind, Wp_some, Wp_none, Wp_guard, Wp_iteB, runDef, dSeq2, dVar, dCon, dNil, dCons, dStar, dTup, dLst, dDct0, dBin, dNeg, dTru, dIf, dNotT, dBl, dBool, dAnd, dOr, dCmp, dCmp2, dIdx, dNoPart, dPart, dSlc, dRev, dCall, dBlt, dMet, dIsi, aNm, aSub, dItSeq, dItRng, dItRng2, dItEnu, dItZip, dItEnz, dNo, sExp, sAsg, setAll, sPar, sAug, sRet, sSeq, sNil, sCnt, sFor, wipeE, new, mtTy, tyHas, List.map_cons, List.map_nil, List.length_cons, List.length_nil, List.length_map, Nat.zero_add, Nat.add_zero, Nat.reduceAdd, Nat.reduceSub, Nat.reduceMul, Nat.reduceLeDiff, Nat.reduceEqDiff, List.replicate_succ, List.replicate_zero, List.cons_append, List.nil_append, List.append_nil, List.getElem?_cons_zero, List.getElem?_cons_succ, List.getElem?_nil, List.set_cons_zero, List.set_cons_succ, if_true, if_false, ite_true, ite_false, Bool.false_eq_true, Bool.not_true, Bool.not_false, Option.map_some, Option.map_none, reduceCtorEq, beq_self_eq_true, Nat.reduceBEq, Bool.or_true, Bool.or_false, Bool.true_or, Bool.false_or, Bool.and_true, Bool.and_false, Bool.true_and, Bool.false_and, reduceIte, decide_true, decide_false, lenLim, true_and, e_addi, e_adds, e_addt, e_addl, e_subi, e_muli, e_mult, e_mull, e_fdiv, e_mod, e_pow, e_neg, e_eq, e_ne, e_lti, e_ltt, e_lei, e_gti, e_gei, e_isn0, e_isb, e_isnn, e_isnb, e_in, e_nin, e_ixt, e_ixf, e_ixr, e_sqt, e_sqf, e_sqr, e_slt, e_slr, e_rvt, e_rvr, e_lnt, e_lnf, e_lns, e_lnr, e_len, e_tuple, e_list, e_inti, e_intb, e_abs, e_divmod, e_min2, e_max2, e_all, e_any, e_app, e_ext, e_rec, e_isnk, e_isbk, e_isik, e_issk, e_istk, e_isrk, e_tn, e_tb, e_ti, e_tt, e_tf, e_tr, e_sit, e_sif, e_sir, e_part, e_augA, e_augS, e_nn, e_nnb, e_nni, e_nns, e_nnt, e_nnf, e_nnr, e_tp, e_acons, e_anil]
    generalize y * b ^ 4 + z = w at s0 s1 ⊢
    refine (f13_ok (n + 1) b w _ h1 h2 s0 s1).wp fun m6 => ?_
    simp -implicitDefEqProofs -dsimp only [Wp_ok, Wp_no, Wp_er, Wp_bind, Wp_some, Wp_none, Wp_guard, Wp_iteB, runDef, dSeq2, dVar, dCon, dNil, dCons, dStar, dTup, dLst, dDct0, dBin, dNeg, dTru, dIf, dNotT, dBl, dBool, dAnd, dOr, dCmp, dCmp2, dIdx, dNoPart, dPart, dSlc, dRev, dCall, dBlt, dMet, dIsi, aNm, aSub, dItSeq, dItRng, dItRng2, dItEnu, dItZip, dItEnz, dNo, sExp, sAsg, setAll, sPar, sAug, sRet, sSeq, sNil, sCnt, sFor, wipeE, new, mtTy, tyHas, List.map_cons, List.map_nil, List.length_cons, List.length_nil, List.length_map, Nat.zero_add, Nat.add_zero, Nat.reduceAdd, Nat.reduceSub, Nat.reduceMul, Nat.reduceLeDiff, Nat.reduceEqDiff, List.replicate_succ, List.replicate_zero, List.cons_append, List.nil_append, List.append_nil, List.getElem?_cons_zero, List.getElem?_cons_succ, List.getElem?_nil, List.set_cons_zero, List.set_cons_succ, if_true, if_false, ite_true, ite_false, Bool.false_eq_true, Bool.not_true, Bool.not_false, Option.map_some, Option.map_none, reduceCtorEq, beq_self_eq_true, Nat.reduceBEq, Bool.or_true, Bool.or_false, Bool.true_or, Bool.false_or, Bool.and_true, Bool.and_false, Bool.true_and, Bool.false_and, reduceIte, decide_true, decide_false, lenLim, true_and, e_addi, e_adds, e_addt, e_addl, e_subi, e_muli, e_mult, e_mull, e_fdiv, e_mod, e_pow, e_neg, e_eq, e_ne, e_lti, e_ltt, e_lei, e_gti, e_gei, e_isn0, e_isb, e_isnn, e_isnb, e_in, e_nin, e_ixt, e_ixf, e_ixr, e_sqt, e_sqf, e_sqr, e_slt, e_slr, e_rvt, e_rvr, e_lnt, e_lnf, e_lns, e_lnr, e_len, e_tuple, e_list, e_inti, e_intb, e_abs, e_divmod, e_min2, e_max2, e_all, e_any, e_app, e_ext, e_rec, e_isnk, e_isbk, e_isik, e_issk, e_istk, e_isrk, e_tn, e_tb, e_ti, e_tt, e_tf, e_tr, e_sit, e_sif, e_sir, e_part, e_augA, e_augS, e_nn, e_nnb, e_nni, e_nns, e_nnt, e_nnf, e_nnr, e_tp, e_acons, e_anil, f24_ok (n + 6) b w _ h1 h2, eqW_ints]
    refine (f13_ok (n + 1) b w _ h1 h2 s0 s1).wp fun m7 => ?_
    try simp -implicitDefEqProofs -dsimp only [Wp_ok, Wp_no, Wp_er, Wp_bind, Wp_some, Wp_none, Wp_guard, Wp_iteB, runDef, dSeq2, dVar, dCon, dNil, dCons, dStar, dTup, dLst, dDct0, dBin, dNeg, dTru, dIf, dNotT, dBl, dBool, dAnd, dOr, dCmp, dCmp2, dIdx, dNoPart, dPart, dSlc, dRev, dCall, dBlt, dMet, dIsi, aNm, aSub, dItSeq, dItRng, dItRng2, dItEnu, dItZip, dItEnz, dNo, sExp, sAsg, setAll, sPar, sAug, sRet, sSeq, sNil, sCnt, sFor, wipeE, new, mtTy, tyHas, List.map_cons, List.map_nil, List.length_cons, List.length_nil, List.length_map, Nat.zero_add, Nat.add_zero, Nat.reduceAdd, Nat.reduceSub, Nat.reduceMul, Nat.reduceLeDiff, Nat.reduceEqDiff, List.replicate_succ, List.replicate_zero, List.cons_append, List.nil_append, List.append_nil, List.getElem?_cons_zero, List.getElem?_cons_succ, List.getElem?_nil, List.set_cons_zero, List.set_cons_succ, if_true, if_false, ite_true, ite_false, Bool.false_eq_true, Bool.not_true, Bool.not_false, Option.map_some, Option.map_none, reduceCtorEq, beq_self_eq_true, Nat.reduceBEq, Bool.or_true, Bool.or_false, Bool.true_or, Bool.false_or, Bool.and_true, Bool.and_false, Bool.true_and, Bool.false_and, reduceIte, decide_true, decide_false, lenLim, true_and, e_addi, e_adds, e_addt, e_addl, e_subi, e_muli, e_mult, e_mull, e_fdiv, e_mod, e_pow, e_neg, e_eq, e_ne, e_lti, e_ltt, e_lei, e_gti, e_gei, e_isn0, e_isb, e_isnn, e_isnb, e_in, e_nin, e_ixt, e_ixf, e_ixr, e_sqt, e_sqf, e_sqr, e_slt, e_slr, e_rvt, e_rvr, e_lnt, e_lnf, e_lns, e_lnr, e_len, e_tuple, e_list, e_inti, e_intb, e_abs, e_divmod, e_min2, e_max2, e_all, e_any, e_app, e_ext, e_rec, e_isnk, e_isbk, e_isik, e_issk, e_istk, e_isrk, e_tn, e_tb, e_ti, e_tt, e_tf, e_tr, e_sit, e_sif, e_sir, e_part, e_augA, e_augS, e_nn, e_nnb, e_nni, e_nns, e_nnt, e_nnf, e_nnr, e_tp, e_acons, e_anil]
    have hw8 := digs_ok8 (b := b) (by omega) w
    refine (f11_ok (n + 2) b _ _ h1 h2 hw8).wp fun m8 => ?_
    simp -implicitDefEqProofs -dsimp only [Wp_ok, Wp_no, Wp_er, Wp_bind, Wp_some, Wp_none, Wp_guard, Wp_iteB, runDef, dSeq2, dVar, dCon, dNil, dCons, dStar, dTup, dLst, dDct0, dBin, dNeg, dTru, dIf, dNotT, dBl, dBool, dAnd, dOr, dCmp, dCmp2, dIdx, dNoPart, dPart, dSlc, dRev, dCall, dBlt, dMet, dIsi, aNm, aSub, dItSeq, dItRng, dItRng2, dItEnu, dItZip, dItEnz, dNo, sExp, sAsg, setAll, sPar, sAug, sRet, sSeq, sNil, sCnt, sFor, wipeE, new, mtTy, tyHas, List.map_cons, List.map_nil, List.length_cons, List.length_nil, List.length_map, Nat.zero_add, Nat.add_zero, Nat.reduceAdd, Nat.reduceSub, Nat.reduceMul, Nat.reduceLeDiff, Nat.reduceEqDiff, List.replicate_succ, List.replicate_zero, List.cons_append, List.nil_append, List.append_nil, List.getElem?_cons_zero, List.getElem?_cons_succ, List.getElem?_nil, List.set_cons_zero, List.set_cons_succ, if_true, if_false, ite_true, ite_false, Bool.false_eq_true, Bool.not_true, Bool.not_false, Option.map_some, Option.map_none, reduceCtorEq, beq_self_eq_true, Nat.reduceBEq, Bool.or_true, Bool.or_false, Bool.true_or, Bool.false_or, Bool.and_true, Bool.and_false, Bool.true_and, Bool.false_and, reduceIte, decide_true, decide_false, lenLim, true_and, e_addi, e_adds, e_addt, e_addl, e_subi, e_muli, e_mult, e_mull, e_fdiv, e_mod, e_pow, e_neg, e_eq, e_ne, e_lti, e_ltt, e_lei, e_gti, e_gei, e_isn0, e_isb, e_isnn, e_isnb, e_in, e_nin, e_ixt, e_ixf, e_ixr, e_sqt, e_sqf, e_sqr, e_slt, e_slr, e_rvt, e_rvr, e_lnt, e_lnf, e_lns, e_lnr, e_len, e_tuple, e_list, e_inti, e_intb, e_abs, e_divmod, e_min2, e_max2, e_all, e_any, e_app, e_ext, e_rec, e_isnk, e_isbk, e_isik, e_issk, e_istk, e_isrk, e_tn, e_tb, e_ti, e_tt, e_tf, e_tr, e_sit, e_sif, e_sir, e_part, e_augA, e_augS, e_nn, e_nnb, e_nni, e_nns, e_nnt, e_nnf, e_nnr, e_tp, e_acons, e_anil, hor_digs (b := b) (by omega) 8 w s0 s1, eqW_int, f25_ok (n + 6) b _ _ h1 h2 h9]
    rw [← List.map_reverse, ← List.map_reverse, wInts_map, wInts_map, hor_lex h1 (by rw [List.length_set]) hrg h9.2]
    simp -implicitDefEqProofs -dsimp only [Wp_ok, Wp_no, Wp_er, Wp_bind, Wp_some, Wp_none, Wp_guard, Wp_iteB, runDef, dSeq2, dVar, dCon, dNil, dCons, dStar, dTup, dLst, dDct0, dBin, dNeg, dTru, dIf, dNotT, dBl, dBool, dAnd, dOr, dCmp, dCmp2, dIdx, dNoPart, dPart, dSlc, dRev, dCall, dBlt, dMet, dIsi, aNm, aSub, dItSeq, dItRng, dItRng2, dItEnu, dItZip, dItEnz, dNo, sExp, sAsg, setAll, sPar, sAug, sRet, sSeq, sNil, sCnt, sFor, wipeE, new, mtTy, tyHas, List.map_cons, List.map_nil, List.length_cons, List.length_nil, List.length_map, Nat.zero_add, Nat.add_zero, Nat.reduceAdd, Nat.reduceSub, Nat.reduceMul, Nat.reduceLeDiff, Nat.reduceEqDiff, List.replicate_succ, List.replicate_zero, List.cons_append, List.nil_append, List.append_nil, List.getElem?_cons_zero, List.getElem?_cons_succ, List.getElem?_nil, List.set_cons_zero, List.set_cons_succ, if_true, if_false, ite_true, ite_false, Bool.false_eq_true, Bool.not_true, Bool.not_false, Option.map_some, Option.map_none, reduceCtorEq, beq_self_eq_true, Nat.reduceBEq, Bool.or_true, Bool.or_false, Bool.true_or, Bool.false_or, Bool.and_true, Bool.and_false, Bool.true_and, Bool.false_and, reduceIte, decide_true, decide_false, lenLim, true_and, e_addi, e_adds, e_addt, e_addl, e_subi, e_muli, e_mult, e_mull, e_fdiv, e_mod, e_pow, e_neg, e_eq, e_ne, e_lti, e_ltt, e_lei, e_gti, e_gei, e_isn0, e_isb, e_isnn, e_isnb, e_in, e_nin, e_ixt, e_ixf, e_ixr, e_sqt, e_sqf, e_sqr, e_slt, e_slr, e_rvt, e_rvr, e_lnt, e_lnf, e_lns, e_lnr, e_len, e_tuple, e_list, e_inti, e_intb, e_abs, e_divmod, e_min2, e_max2, e_all, e_any, e_app, e_ext, e_rec, e_isnk, e_isbk, e_isik, e_issk, e_istk, e_isrk, e_tn, e_tb, e_ti, e_tt, e_tf, e_tr, e_sit, e_sif, e_sir, e_part, e_augA, e_augS, e_nn, e_nnb, e_nni, e_nns, e_nnt, e_nnf, e_nnr, e_tp, e_acons, e_anil, eqW_bl]
    refine ⟨?_, ?_⟩
    · simp only [List.append_assoc]
      exact (hd7.le (by omega)).app _
    · have g8 : Gs r S7 (S7 ++ m6 ++ [O.lst (List.map W.int (digs b 8 w))] ++ m7 ++ m8) := by
        simp only [List.append_assoc]
        exact .app hd7 _
      have l2 := hd1'.lt
      have l3 := hd3.lt
      have l4 := hd4.lt
      have l5 := hd5.lt
      have l6 := hd6.lt
      have l7 := hd7.lt
      exact g1'.trans hr (g3.trans l2 (g4.trans l3 (g5.trans l4 (g6.trans l5 (g7.trans l6 g8)))))
end L59
set_option autoImplicit false
set_option Elab.async false
set_option linter.all false
set_option maxRecDepth 100000
set_option maxHeartbeats 4000000
namespace L59
open PySem Pv
/-- values that are no pages of a base -/
def bad (S : Sto) (b : Int) (w : W) : Prop := ∀ n m, Gr (callF Dd (n + 4) 7 [.int b, w] (S ++ m)) (S ++ m) (.bl false)
theorem bad_non {S : Sto} {b : Int} {w : W} (h : ∀ m, (kindW (S ++ m) w).isSome = true) (ht : notTup w = true) : bad S b w := fun n m => Gr.eq (f7_non (n + 3) b w (S ++ m) (h m) ht)
theorem bad_len {S : Sto} {b : Int} {ws : List W} (h : ws.length ≠ 8) : bad S b (.tup ws) := fun n m => Gr.eq (f7_len (n + 3) b ws (S ++ m) h)
theorem bad_entry {S : Sto} {b : Int} {ws : List W} {w : W} (hl : ws.length = 8) (hk : ∀ w ∈ ws, ∀ m, (kindW (S ++ m) w).isSome = true) (hw : w ∈ ws) (hc : cntB 0 (b - 1) w = false) : bad S b (.tup ws) := fun n m => by
  have := f7_tup (n + 1) b ws (S ++ m) hl (fun w hw m' => by rw [List.append_assoc]; exact hk w hw _)
  rwa [show ws.all (cntB 0 (b - 1)) = false from by
    rw [List.all_eq_false]
    exact ⟨w, hw, by rw [hc]; exact Bool.false_ne_true⟩] at this
theorem eqW_nil {S : Sto} {p q : Nat} (hp : S[p]? = some (.lst [])) (hq : S[q]? = some (.lst [])) : eqW S (.ref p) (.ref q) = some true := by
  have h : ∀ p : Nat, S[p]? = some (.lst []) → dpW 66 S (.ref p) = some (.list []) := fun p hp => by
    show (match S[p]? with
      | some (O.lst ws) => (dpAll (dpW 65 S) ws).map PyData.list
      | _ => none) = _
    rw [hp]
    rfl
  unfold eqW
  rw [h p hp, h q hq]
  rfl
theorem f27_ok (n r : Nat) (m b : Int) (S : Sto) (hd : Dc r m S) (hm : m + 100 ≤ 1000000) (h1 : 2 ≤ b) (h2 : b ≤ 1000) :
    Wp (callF Dd (n + 8) 27 [.ref r, .int b] S) (fun v S' => v = .bl true ∧ Dc r (m + 100) S' ∧ Gs r S S') E0 := by
  have hr := hd.lt
  rw [u27]
  simp -implicitDefEqProofs -dsimp only [Wp_ok, Wp_no, Wp_er, Wp_bind, Wp_some, Wp_none, Wp_guard, Wp_iteB, runDef, dSeq2, dVar, dCon, dNil, dCons, dStar, dTup, dLst, dDct0, dBin, dNeg, dTru, dIf, dNotT, dBl, dBool, dAnd, dOr, dCmp, dCmp2, dIdx, dNoPart, dPart, dSlc, dRev, dCall, dBlt, dMet, dIsi, aNm, aSub, dItSeq, dItRng, dItRng2, dItEnu, dItZip, dItEnz, dNo, sExp, sAsg, setAll, sPar, sAug, sRet, sSeq, sNil, sCnt, sFor, wipeE, new, mtTy, tyHas, List.map_cons, List.map_nil, List.length_cons, List.length_nil, List.length_map, Nat.zero_add, Nat.add_zero, Nat.reduceAdd, Nat.reduceSub, Nat.reduceMul, Nat.reduceLeDiff, Nat.reduceEqDiff, List.replicate_succ, List.replicate_zero, List.cons_append, List.nil_append, List.append_nil, List.getElem?_cons_zero, List.getElem?_cons_succ, List.getElem?_nil, List.set_cons_zero, List.set_cons_succ, if_true, if_false, ite_true, ite_false, Bool.false_eq_true, Bool.not_true, Bool.not_false, Option.map_some, Option.map_none, reduceCtorEq, beq_self_eq_true, Nat.reduceBEq, Bool.or_true, Bool.or_false, Bool.true_or, Bool.false_or, Bool.and_true, Bool.and_false, Bool.true_and, Bool.false_and, reduceIte, decide_true, decide_false, lenLim, true_and, e_addi, e_adds, e_addt, e_addl, e_subi, e_muli, e_mult, e_mull, e_fdiv, e_mod, e_pow, e_neg, e_eq, e_ne, e_lti, e_ltt, e_lei, e_gti, e_gei, e_isn0, e_isb, e_isnn, e_isnb, e_in, e_nin, e_ixt, e_ixf, e_ixr, e_sqt, e_sqf, e_sqr, e_slt, e_slr, e_rvt, e_rvr, e_lnt, e_lnf, e_lns, e_lnr, e_len, e_tuple, e_list, e_inti, e_intb, e_abs, e_divmod, e_min2, e_max2, e_all, e_any, e_app, e_ext, e_rec, e_isnk, e_isbk, e_isik, e_issk, e_istk, e_isrk, e_tn, e_tb, e_ti, e_tt, e_tf, e_tr, e_sit, e_sif, e_sir, e_part, e_augA, e_augS, e_nn, e_nnb, e_nni, e_nns, e_nnt, e_nnf, e_nnr, e_tp, e_acons, e_anil, dLc, Wp_noErr_eq, rng8_eq]
  refine Wp_lc (fun i acc S' => i ≤ 8 ∧ ∃ ds : List Int, acc = ds.map .int ∧ ds.length = i ∧ (∀ d ∈ ds, 0 ≤ d ∧ d < b) ∧ Dc r (m + i) S' ∧ Gs r S S') ⟨by omega, [], rfl, rfl, by simp, hd.le (by omega), by have := Gs.app hd []; rwa [List.append_nil] at this⟩ (fun _ _ _ _ _ => rfl) ?_ ?_
  · rintro i w acc S1 hw ⟨hi, ds, rfl, hl, hr2, hd1, g1⟩
    have hi8 : i < 8 := (List.getElem?_eq_some_iff.mp hw).1
    simp -implicitDefEqProofs -dsimp only [Wp_ok, Wp_no, Wp_er, Wp_bind, Wp_some, Wp_none, Wp_guard, Wp_iteB, runDef, dSeq2, dVar, dCon, dNil, dCons, dStar, dTup, dLst, dDct0, dBin, dNeg, dTru, dIf, dNotT, dBl, dBool, dAnd, dOr, dCmp, dCmp2, dIdx, dNoPart, dPart, dSlc, dRev, dCall, dBlt, dMet, dIsi, aNm, aSub, dItSeq, dItRng, dItRng2, dItEnu, dItZip, dItEnz, dNo, sExp, sAsg, setAll, sPar, sAug, sRet, sSeq, sNil, sCnt, sFor, wipeE, new, mtTy, tyHas, List.map_cons, List.map_nil, List.length_cons, List.length_nil, List.length_map, Nat.zero_add, Nat.add_zero, Nat.reduceAdd, Nat.reduceSub, Nat.reduceMul, Nat.reduceLeDiff, Nat.reduceEqDiff, List.replicate_succ, List.replicate_zero, List.cons_append, List.nil_append, List.append_nil, List.getElem?_cons_zero, List.getElem?_cons_succ, List.getElem?_nil, List.set_cons_zero, List.set_cons_succ, if_true, if_false, ite_true, ite_false, Bool.false_eq_true, Bool.not_true, Bool.not_false, Option.map_some, Option.map_none, reduceCtorEq, beq_self_eq_true, Nat.reduceBEq, Bool.or_true, Bool.or_false, Bool.true_or, Bool.false_or, Bool.and_true, Bool.and_false, Bool.true_and, Bool.false_and, reduceIte, decide_true, decide_false, lenLim, true_and, e_addi, e_adds, e_addt, e_addl, e_subi, e_muli, e_mult, e_mull, e_fdiv, e_mod, e_pow, e_neg, e_eq, e_ne, e_lti, e_ltt, e_lei, e_gti, e_gei, e_isn0, e_isb, e_isnn, e_isnb, e_in, e_nin, e_ixt, e_ixf, e_ixr, e_sqt, e_sqf, e_sqr, e_slt, e_slr, e_rvt, e_rvr, e_lnt, e_lnf, e_lns, e_lnr, e_len, e_tuple, e_list, e_inti, e_intb, e_abs, e_divmod, e_min2, e_max2, e_all, e_any, e_app, e_ext, e_rec, e_isnk, e_isbk, e_isik, e_issk, e_istk, e_isrk, e_tn, e_tb, e_ti, e_tt, e_tf, e_tr, e_sit, e_sif, e_sir, e_part, e_augA, e_augS, e_nn, e_nnb, e_nni, e_nns, e_nnt, e_nnf, e_nnr, e_tp, e_acons, e_anil]
    refine (roll (n + 6) r _ b S1 hd1 (by omega) (by omega) (log_b h1 h2)).then ?_
    rintro v S3 ⟨x, rfl, x0, x1, hd3, g3⟩
    try simp -implicitDefEqProofs -dsimp only [Wp_ok, Wp_no, Wp_er, Wp_bind, Wp_some, Wp_none, Wp_guard, Wp_iteB, runDef, dSeq2, dVar, dCon, dNil, dCons, dStar, dTup, dLst, dDct0, dBin, dNeg, dTru, dIf, dNotT, dBl, dBool, dAnd, dOr, dCmp, dCmp2, dIdx, dNoPart, dPart, dSlc, dRev, dCall, dBlt, dMet, dIsi, aNm, aSub, dItSeq, dItRng, dItRng2, dItEnu, dItZip, dItEnz, dNo, sExp, sAsg, setAll, sPar, sAug, sRet, sSeq, sNil, sCnt, sFor, wipeE, new, mtTy, tyHas, List.map_cons, List.map_nil, List.length_cons, List.length_nil, List.length_map, Nat.zero_add, Nat.add_zero, Nat.reduceAdd, Nat.reduceSub, Nat.reduceMul, Nat.reduceLeDiff, Nat.reduceEqDiff, List.replicate_succ, List.replicate_zero, List.cons_append, List.nil_append, List.append_nil, List.getElem?_cons_zero, List.getElem?_cons_succ, List.getElem?_nil, List.set_cons_zero, List.set_cons_succ, if_true, if_false, ite_true, ite_false, Bool.false_eq_true, Bool.not_true, Bool.not_false, Option.map_some, Option.map_none, reduceCtorEq, beq_self_eq_true, Nat.reduceBEq, Bool.or_true, Bool.or_false, Bool.true_or, Bool.false_or, Bool.and_true, Bool.and_false, Bool.true_and, Bool.false_and, reduceIte, decide_true, decide_false, lenLim, true_and, e_addi, e_adds, e_addt, e_addl, e_subi, e_muli, e_mult, e_mull, e_fdiv, e_mod, e_pow, e_neg, e_eq, e_ne, e_lti, e_ltt, e_lei, e_gti, e_gei, e_isn0, e_isb, e_isnn, e_isnb, e_in, e_nin, e_ixt, e_ixf, e_ixr, e_sqt, e_sqf, e_sqr, e_slt, e_slr, e_rvt, e_rvr, e_lnt, e_lnf, e_lns, e_lnr, e_len, e_tuple, e_list, e_inti, e_intb, e_abs, e_divmod, e_min2, e_max2, e_all, e_any, e_app, e_ext, e_rec, e_isnk, e_isbk, e_isik, e_issk, e_istk, e_isrk, e_tn, e_tb, e_ti, e_tt, e_tf, e_tr, e_sit, e_sif, e_sir, e_part, e_augA, e_augS, e_nn, e_nnb, e_nni, e_nns, e_nnt, e_nnf, e_nnr, e_tp, e_acons, e_anil]
    refine ⟨by rw [hl]; omega, by omega, ds ++ [x], by simp, by simp [hl], ?_, hd3.le (by omega), g1.trans hr g3⟩
    intro d hd
    rcases List.mem_append.mp hd with h | h
    · exact hr2 d h
    · rw [List.mem_singleton.mp h]; exact ⟨x0, by omega⟩
  · rintro acc S1 ⟨_, ds, rfl, hl, hrg, hd1, g1⟩
    have h8 : ok8 b ds := ⟨hl, hrg⟩
    have hd1' : Dc r (m + 8) (S1 ++ [O.lst (ds.map .int)]) := (hd1.le (by rw [show rng8.length = 8 from rfl]; omega)).app _
    have g1' : Gs r S (S1 ++ [O.lst (ds.map .int)]) := g1.trans hr (Gs.app hd1 _)
    simp -implicitDefEqProofs -dsimp only [Wp_ok, Wp_no, Wp_er, Wp_bind, Wp_some, Wp_none, Wp_guard, Wp_iteB, runDef, dSeq2, dVar, dCon, dNil, dCons, dStar, dTup, dLst, dDct0, dBin, dNeg, dTru, dIf, dNotT, dBl, dBool, dAnd, dOr, dCmp, dCmp2, dIdx, dNoPart, dPart, dSlc, dRev, dCall, dBlt, dMet, dIsi, aNm, aSub, dItSeq, dItRng, dItRng2, dItEnu, dItZip, dItEnz, dNo, sExp, sAsg, setAll, sPar, sAug, sRet, sSeq, sNil, sCnt, sFor, wipeE, new, mtTy, tyHas, List.map_cons, List.map_nil, List.length_cons, List.length_nil, List.length_map, Nat.zero_add, Nat.add_zero, Nat.reduceAdd, Nat.reduceSub, Nat.reduceMul, Nat.reduceLeDiff, Nat.reduceEqDiff, List.replicate_succ, List.replicate_zero, List.cons_append, List.nil_append, List.append_nil, List.getElem?_cons_zero, List.getElem?_cons_succ, List.getElem?_nil, List.set_cons_zero, List.set_cons_succ, if_true, if_false, ite_true, ite_false, Bool.false_eq_true, Bool.not_true, Bool.not_false, Option.map_some, Option.map_none, reduceCtorEq, beq_self_eq_true, Nat.reduceBEq, Bool.or_true, Bool.or_false, Bool.true_or, Bool.false_or, Bool.and_true, Bool.and_false, Bool.true_and, Bool.false_and, reduceIte, decide_true, decide_false, lenLim, true_and, e_addi, e_adds, e_addt, e_addl, e_subi, e_muli, e_mult, e_mull, e_fdiv, e_mod, e_pow, e_neg, e_eq, e_ne, e_lti, e_ltt, e_lei, e_gti, e_gei, e_isn0, e_isb, e_isnn, e_isnb, e_in, e_nin, e_ixt, e_ixf, e_ixr, e_sqt, e_sqf, e_sqr, e_slt, e_slr, e_rvt, e_rvr, e_lnt, e_lnf, e_lns, e_lnr, e_len, e_tuple, e_list, e_inti, e_intb, e_abs, e_divmod, e_min2, e_max2, e_all, e_any, e_app, e_ext, e_rec, e_isnk, e_isbk, e_isik, e_issk, e_istk, e_isrk, e_tn, e_tb, e_ti, e_tt, e_tf, e_tr, e_sit, e_sif, e_sir, e_part, e_augA, e_augS, e_nn, e_nnb, e_nni, e_nns, e_nnt, e_nnf, e_nnr, e_tp, e_acons, e_anil, at_last]
    generalize S1 ++ [O.lst (ds.map .int)] = S2 at hd1' g1'
    refine (roll (n + 6) r _ 8 S2 hd1' (by omega) (by omega) small8).then ?_
    rintro v S3 ⟨i, rfl, i0, i1, hd3, g3⟩
    try simp -implicitDefEqProofs -dsimp only [Wp_ok, Wp_no, Wp_er, Wp_bind, Wp_some, Wp_none, Wp_guard, Wp_iteB, runDef, dSeq2, dVar, dCon, dNil, dCons, dStar, dTup, dLst, dDct0, dBin, dNeg, dTru, dIf, dNotT, dBl, dBool, dAnd, dOr, dCmp, dCmp2, dIdx, dNoPart, dPart, dSlc, dRev, dCall, dBlt, dMet, dIsi, aNm, aSub, dItSeq, dItRng, dItRng2, dItEnu, dItZip, dItEnz, dNo, sExp, sAsg, setAll, sPar, sAug, sRet, sSeq, sNil, sCnt, sFor, wipeE, new, mtTy, tyHas, List.map_cons, List.map_nil, List.length_cons, List.length_nil, List.length_map, Nat.zero_add, Nat.add_zero, Nat.reduceAdd, Nat.reduceSub, Nat.reduceMul, Nat.reduceLeDiff, Nat.reduceEqDiff, List.replicate_succ, List.replicate_zero, List.cons_append, List.nil_append, List.append_nil, List.getElem?_cons_zero, List.getElem?_cons_succ, List.getElem?_nil, List.set_cons_zero, List.set_cons_succ, if_true, if_false, ite_true, ite_false, Bool.false_eq_true, Bool.not_true, Bool.not_false, Option.map_some, Option.map_none, reduceCtorEq, beq_self_eq_true, Nat.reduceBEq, Bool.or_true, Bool.or_false, Bool.true_or, Bool.false_or, Bool.and_true, Bool.and_false, Bool.true_and, Bool.false_and, reduceIte, decide_true, decide_false, lenLim, true_and, e_addi, e_adds, e_addt, e_addl, e_subi, e_muli, e_mult, e_mull, e_fdiv, e_mod, e_pow, e_neg, e_eq, e_ne, e_lti, e_ltt, e_lei, e_gti, e_gei, e_isn0, e_isb, e_isnn, e_isnb, e_in, e_nin, e_ixt, e_ixf, e_ixr, e_sqt, e_sqf, e_sqr, e_slt, e_slr, e_rvt, e_rvr, e_lnt, e_lnf, e_lns, e_lnr, e_len, e_tuple, e_list, e_inti, e_intb, e_abs, e_divmod, e_min2, e_max2, e_all, e_any, e_app, e_ext, e_rec, e_isnk, e_isbk, e_isik, e_issk, e_istk, e_isrk, e_tn, e_tb, e_ti, e_tt, e_tf, e_tr, e_sit, e_sif, e_sir, e_part, e_augA, e_augS, e_nn, e_nnb, e_nni, e_nns, e_nnt, e_nnf, e_nnr, e_tp, e_acons, e_anil, at_last]
    refine ⟨by omega, ⟨by omega, by omega, by show 1 * 8 ≤ 16777216; omega⟩, ?_⟩
    have hS4 : ∃ S4, S4 = S3 ++ [O.lst (List.map W.int ds)] ++ [O.dct []] ++ [O.lst [W.non]] ++ [O.lst (rep (Int.toNat 8) [W.non])] := ⟨_, rfl⟩
    obtain ⟨S4, e4⟩ := hS4
    have k1 : ∀ m, (kindW (S4 ++ m) (.ref S3.length)).isSome = true := fun m => by
      rw [e4]
      simp only [List.append_assoc, List.cons_append]
      show (match (S3 ++ _ :: _)[S3.length]? with
        | some (O.lst _) => some 5
        | some (O.dct _) => some 6
        | _ => none).isSome = true
      rw [at_mid]
      rfl
    have k2 : ∀ m, (kindW (S4 ++ m) (.ref (S3 ++ [O.lst (List.map W.int ds)]).length)).isSome = true := fun m => by
      rw [e4, List.append_assoc, List.append_assoc, List.append_assoc]
      show (match ((S3 ++ [O.lst (List.map W.int ds)]) ++ _ :: _)[(S3 ++ [O.lst (List.map W.int ds)]).length]? with
        | some (O.lst _) => some 5
        | some (O.dct _) => some 6
        | _ => none).isSome = true
      rw [at_mid]
      rfl
    rw [← e4]
    have hd4 : Dc r (m + 100) S4 := by
      rw [e4]
      simp only [List.append_assoc]
      exact (hd3.le (by omega)).app _
    have g4 : Gs r S S4 := by
      refine g1'.trans hr (g3.trans hd1'.lt ?_)
      rw [e4]
      simp only [List.append_assoc]
      exact .app hd3 _
    clear e4
    have hln : ds.length = 8 := hl
    simp -implicitDefEqProofs -dsimp only [Wp_ok, Wp_no, Wp_er, Wp_bind, Wp_some, Wp_none, Wp_guard, Wp_iteB, runDef, dSeq2, dVar, dCon, dNil, dCons, dStar, dTup, dLst, dDct0, dBin, dNeg, dTru, dIf, dNotT, dBl, dBool, dAnd, dOr, dCmp, dCmp2, dIdx, dNoPart, dPart, dSlc, dRev, dCall, dBlt, dMet, dIsi, aNm, aSub, dItSeq, dItRng, dItRng2, dItEnu, dItZip, dItEnz, dNo, sExp, sAsg, setAll, sPar, sAug, sRet, sSeq, sNil, sCnt, sFor, wipeE, new, mtTy, tyHas, List.map_cons, List.map_nil, List.length_cons, List.length_nil, List.length_map, Nat.zero_add, Nat.add_zero, Nat.reduceAdd, Nat.reduceSub, Nat.reduceMul, Nat.reduceLeDiff, Nat.reduceEqDiff, List.replicate_succ, List.replicate_zero, List.cons_append, List.nil_append, List.append_nil, List.getElem?_cons_zero, List.getElem?_cons_succ, List.getElem?_nil, List.set_cons_zero, List.set_cons_succ, if_true, if_false, ite_true, ite_false, Bool.false_eq_true, Bool.not_true, Bool.not_false, Option.map_some, Option.map_none, reduceCtorEq, beq_self_eq_true, Nat.reduceBEq, Bool.or_true, Bool.or_false, Bool.true_or, Bool.false_or, Bool.and_true, Bool.and_false, Bool.true_and, Bool.false_and, reduceIte, decide_true, decide_false, lenLim, true_and, e_addi, e_adds, e_addt, e_addl, e_subi, e_muli, e_mult, e_mull, e_fdiv, e_mod, e_pow, e_neg, e_eq, e_ne, e_lti, e_ltt, e_lei, e_gti, e_gei, e_isn0, e_isb, e_isnn, e_isnb, e_in, e_nin, e_ixt, e_ixf, e_ixr, e_sqt, e_sqf, e_sqr, e_slt, e_slr, e_rvt, e_rvr, e_lnt, e_lnf, e_lns, e_lnr, e_len, e_tuple, e_list, e_inti, e_intb, e_abs, e_divmod, e_min2, e_max2, e_all, e_any, e_app, e_ext, e_rec, e_isnk, e_isbk, e_isik, e_issk, e_istk, e_isrk, e_tn, e_tb, e_ti, e_tt, e_tf, e_tr, e_sit, e_sif, e_sir, e_part, e_augA, e_augS, e_nn, e_nnb, e_nni, e_nns, e_nnt, e_nnf, e_nnr, e_tp, e_acons, e_anil, f25_ok (n + 6) b ds _ h1 h2 h8]
    have hodd : ∀ odd : W, (∀ m, (kindW (S4 ++ m) odd).isSome = true) → cntB 0 (b - 1) odd = false → bad S4 b (.tup (cutW (List.map W.int ds) none (some i) ++ [odd] ++ cutW (List.map W.int ds) (some (i + 1)) none)) := fun odd hk hc => by
      rw [cut_lo _ _ i0 (by simp [hln]; omega), cut_hi _ _ (by omega) (by simp [hln]; omega)]
      refine bad_entry (w := odd) ?_ ?_ (by simp) hc
      · simp [hln]
        omega
      · intro w hw m
        rcases List.mem_append.mp hw with h | h
        · rcases List.mem_append.mp h with h | h
          · obtain ⟨d, _, rfl⟩ := List.mem_map.mp (List.mem_of_mem_take h)
            rfl
          · rw [List.mem_singleton.mp h]; exact hk m
        · obtain ⟨d, _, rfl⟩ := List.mem_map.mp (List.mem_of_mem_drop h)
          rfl
    have hclen : (cutW (List.map W.int ds) none (some i)).length ≤ 8 ∧ (cutW (List.map W.int ds) (some (i + 1)) none).length ≤ 8 := by
      rw [cut_lo _ _ i0 (by simp [hln]; omega), cut_hi _ _ (by omega) (by simp [hln]; omega)]
      simp [hln]
      omega
    refine Wp_for (fun k env S' => k ≤ 7 ∧ (∃ near, S' = S4 ++ [.lst near] ∧ near.length ≤ 10 + k ∧ ∀ w ∈ near, bad S4 b w) ∧ ∃ x6 x7, env = [some (.ref r), some (.int b), some (.tup (ds.map .int)), none, some (.int i), some (.ref S4.length), x6, x7]) ⟨by omega, ⟨_, rfl, by simp, ?_⟩, none, none, rfl⟩ (fun _ _ _ _ _ => rfl) ?_ ?_
    · intro w hw
      simp only [List.mem_cons, List.not_mem_nil, or_false] at hw
      rcases hw with rfl | rfl | rfl | rfl | rfl | rfl | rfl | rfl | rfl | rfl
      · exact bad_non k1 rfl
      · refine bad_len ?_
        rw [cut_lo _ _ (by omega) (by simp [hln])]
        simp [hln]
      · exact bad_len (by simp [hln])
      · exact bad_non (fun _ => rfl) rfl
      · exact bad_len (by simp)
      · exact bad_non (fun _ => rfl) rfl
      · exact bad_non (fun _ => rfl) rfl
      · exact bad_non k2 rfl
      · refine bad_entry (w := .non) rfl ?_ (by simp [rep]) rfl
        intro w hw m
        have : w = .non := by
          simp [rep] at hw
          exact hw
        rw [this]
        rfl
      · exact bad_non (fun _ => rfl) rfl
    · rintro k w env S' hw ⟨hk, ⟨near, rfl, hnl, hb⟩, x6, x7, rfl⟩
      have hk7 : k < 7 := (List.getElem?_eq_some_iff.mp hw).1
      have hwb : bad S4 b (.tup (cutW (List.map W.int ds) none (some i) ++ [w] ++ cutW (List.map W.int ds) (some (i + 1)) none)) := by
        have hm := List.mem_of_getElem? hw
        simp only [List.mem_cons, List.not_mem_nil, or_false] at hm
        rcases hm with rfl | rfl | rfl | rfl | rfl | rfl | rfl
        · exact hodd _ (fun _ => rfl) (by simp [cntB]; omega)
        · exact hodd _ (fun _ => rfl) (by simp [cntB])
        · exact hodd _ (fun _ => rfl) rfl
        · exact hodd _ (fun _ => rfl) rfl
        · exact hodd _ (fun _ => rfl) rfl
        · exact hodd _ (fun _ => rfl) rfl
        · exact hodd _ (fun _ => rfl) (by simp [cntB]; omega)
      simp -implicitDefEqProofs -dsimp only [Wp_ok, Wp_no, Wp_er, Wp_bind, Wp_some, Wp_none, Wp_guard, Wp_iteB, runDef, dSeq2, dVar, dCon, dNil, dCons, dStar, dTup, dLst, dDct0, dBin, dNeg, dTru, dIf, dNotT, dBl, dBool, dAnd, dOr, dCmp, dCmp2, dIdx, dNoPart, dPart, dSlc, dRev, dCall, dBlt, dMet, dIsi, aNm, aSub, dItSeq, dItRng, dItRng2, dItEnu, dItZip, dItEnz, dNo, sExp, sAsg, setAll, sPar, sAug, sRet, sSeq, sNil, sCnt, sFor, wipeE, new, mtTy, tyHas, List.map_cons, List.map_nil, List.length_cons, List.length_nil, List.length_map, Nat.zero_add, Nat.add_zero, Nat.reduceAdd, Nat.reduceSub, Nat.reduceMul, Nat.reduceLeDiff, Nat.reduceEqDiff, List.replicate_succ, List.replicate_zero, List.cons_append, List.nil_append, List.append_nil, List.getElem?_cons_zero, List.getElem?_cons_succ, List.getElem?_nil, List.set_cons_zero, List.set_cons_succ, if_true, if_false, ite_true, ite_false, Bool.false_eq_true, Bool.not_true, Bool.not_false, Option.map_some, Option.map_none, reduceCtorEq, beq_self_eq_true, Nat.reduceBEq, Bool.or_true, Bool.or_false, Bool.true_or, Bool.false_or, Bool.and_true, Bool.and_false, Bool.true_and, Bool.false_and, reduceIte, decide_true, decide_false, lenLim, true_and, e_addi, e_adds, e_addt, e_addl, e_subi, e_muli, e_mult, e_mull, e_fdiv, e_mod, e_pow, e_neg, e_eq, e_ne, e_lti, e_ltt, e_lei, e_gti, e_gei, e_isn0, e_isb, e_isnn, e_isnb, e_in, e_nin, e_ixt, e_ixf, e_ixr, e_sqt, e_sqf, e_sqr, e_slt, e_slr, e_rvt, e_rvr, e_lnt, e_lnf, e_lns, e_lnr, e_len, e_tuple, e_list, e_inti, e_intb, e_abs, e_divmod, e_min2, e_max2, e_all, e_any, e_app, e_ext, e_rec, e_isnk, e_isbk, e_isik, e_issk, e_istk, e_isrk, e_tn, e_tb, e_ti, e_tt, e_tf, e_tr, e_sit, e_sif, e_sir, e_part, e_augA, e_augS, e_nn, e_nnb, e_nni, e_nns, e_nnt, e_nnf, e_nnr, e_tp, e_acons, e_anil, at_last, set_last]
      refine ⟨by omega, by rw [List.length_append, List.length_singleton]; omega, by omega, by omega, ⟨_, rfl, by rw [List.length_append, List.length_singleton]; omega, ?_⟩, some w, x7, rfl⟩
      intro w' hw'
      rcases List.mem_append.mp hw' with h | h
      · exact hb w' h
      · rw [List.mem_singleton.mp h]; exact hwb
    · rintro env S' ⟨hk, ⟨near, rfl, hnl, hb⟩, x6, x7, rfl⟩
      simp -implicitDefEqProofs -dsimp only [Wp_ok, Wp_no, Wp_er, Wp_bind, Wp_some, Wp_none, Wp_guard, Wp_iteB, runDef, dSeq2, dVar, dCon, dNil, dCons, dStar, dTup, dLst, dDct0, dBin, dNeg, dTru, dIf, dNotT, dBl, dBool, dAnd, dOr, dCmp, dCmp2, dIdx, dNoPart, dPart, dSlc, dRev, dCall, dBlt, dMet, dIsi, aNm, aSub, dItSeq, dItRng, dItRng2, dItEnu, dItZip, dItEnz, dNo, sExp, sAsg, setAll, sPar, sAug, sRet, sSeq, sNil, sCnt, sFor, wipeE, new, mtTy, tyHas, List.map_cons, List.map_nil, List.length_cons, List.length_nil, List.length_map, Nat.zero_add, Nat.add_zero, Nat.reduceAdd, Nat.reduceSub, Nat.reduceMul, Nat.reduceLeDiff, Nat.reduceEqDiff, List.replicate_succ, List.replicate_zero, List.cons_append, List.nil_append, List.append_nil, List.getElem?_cons_zero, List.getElem?_cons_succ, List.getElem?_nil, List.set_cons_zero, List.set_cons_succ, if_true, if_false, ite_true, ite_false, Bool.false_eq_true, Bool.not_true, Bool.not_false, Option.map_some, Option.map_none, reduceCtorEq, beq_self_eq_true, Nat.reduceBEq, Bool.or_true, Bool.or_false, Bool.true_or, Bool.false_or, Bool.and_true, Bool.and_false, Bool.true_and, Bool.false_and, reduceIte, decide_true, decide_false, lenLim, true_and, e_addi, e_adds, e_addt, e_addl, e_subi, e_muli, e_mult, e_mull, e_fdiv, e_mod, e_pow, e_neg, e_eq, e_ne, e_lti, e_ltt, e_lei, e_gti, e_gei, e_isn0, e_isb, e_isnn, e_isnb, e_in, e_nin, e_ixt, e_ixf, e_ixr, e_sqt, e_sqf, e_sqr, e_slt, e_slr, e_rvt, e_rvr, e_lnt, e_lnf, e_lns, e_lnr, e_len, e_tuple, e_list, e_inti, e_intb, e_abs, e_divmod, e_min2, e_max2, e_all, e_any, e_app, e_ext, e_rec, e_isnk, e_isbk, e_isik, e_issk, e_istk, e_isrk, e_tn, e_tb, e_ti, e_tt, e_tf, e_tr, e_sit, e_sif, e_sir, e_part, e_augA, e_augS, e_nn, e_nnb, e_nni, e_nns, e_nnt, e_nnf, e_nnr, e_tp, e_acons, e_anil, at_last, dLc, Wp_noErr_eq]
      refine Wp_lc (fun i acc S' => acc = [] ∧ ∃ m, S' = S4 ++ [.lst near] ++ m) ⟨rfl, [], by simp⟩ (fun _ _ S' _ ⟨_, m, e⟩ => ?_) ?_ ?_
      · subst e
        refine seqI_chk0 (I := ⟨[(S4.length, near)], near⟩) (w := .ref S4.length) ?_
        show (match (S4 ++ [O.lst near] ++ m)[S4.length]? with
          | some (O.lst ws) => some (⟨[(S4.length, ws)], ws⟩ : Its)
          | _ => none) = _
        rw [List.append_assoc, List.cons_append, at_mid]
      · rintro k w acc S' hw ⟨rfl, m', rfl⟩
        have hwm := List.mem_of_getElem? hw
        simp -implicitDefEqProofs -dsimp only [Wp_ok, Wp_no, Wp_er, Wp_bind, Wp_some, Wp_none, Wp_guard, Wp_iteB, runDef, dSeq2, dVar, dCon, dNil, dCons, dStar, dTup, dLst, dDct0, dBin, dNeg, dTru, dIf, dNotT, dBl, dBool, dAnd, dOr, dCmp, dCmp2, dIdx, dNoPart, dPart, dSlc, dRev, dCall, dBlt, dMet, dIsi, aNm, aSub, dItSeq, dItRng, dItRng2, dItEnu, dItZip, dItEnz, dNo, sExp, sAsg, setAll, sPar, sAug, sRet, sSeq, sNil, sCnt, sFor, wipeE, new, mtTy, tyHas, List.map_cons, List.map_nil, List.length_cons, List.length_nil, List.length_map, Nat.zero_add, Nat.add_zero, Nat.reduceAdd, Nat.reduceSub, Nat.reduceMul, Nat.reduceLeDiff, Nat.reduceEqDiff, List.replicate_succ, List.replicate_zero, List.cons_append, List.nil_append, List.append_nil, List.getElem?_cons_zero, List.getElem?_cons_succ, List.getElem?_nil, List.set_cons_zero, List.set_cons_succ, if_true, if_false, ite_true, ite_false, Bool.false_eq_true, Bool.not_true, Bool.not_false, Option.map_some, Option.map_none, reduceCtorEq, beq_self_eq_true, Nat.reduceBEq, Bool.or_true, Bool.or_false, Bool.true_or, Bool.false_or, Bool.and_true, Bool.and_false, Bool.true_and, Bool.false_and, reduceIte, decide_true, decide_false, lenLim, true_and, e_addi, e_adds, e_addt, e_addl, e_subi, e_muli, e_mult, e_mull, e_fdiv, e_mod, e_pow, e_neg, e_eq, e_ne, e_lti, e_ltt, e_lei, e_gti, e_gei, e_isn0, e_isb, e_isnn, e_isnb, e_in, e_nin, e_ixt, e_ixf, e_ixr, e_sqt, e_sqf, e_sqr, e_slt, e_slr, e_rvt, e_rvr, e_lnt, e_lnf, e_lns, e_lnr, e_len, e_tuple, e_list, e_inti, e_intb, e_abs, e_divmod, e_min2, e_max2, e_all, e_any, e_app, e_ext, e_rec, e_isnk, e_isbk, e_isik, e_issk, e_istk, e_isrk, e_tn, e_tb, e_ti, e_tt, e_tf, e_tr, e_sit, e_sif, e_sir, e_part, e_augA, e_augS, e_nn, e_nnb, e_nni, e_nns, e_nnt, e_nnf, e_nnr, e_tp, e_acons, e_anil]
        have hgr := f8_gr (n + 2) b w (S4 ++ [.lst near] ++ m') false h1 h2 (by
          have := hb w hwm (n + 2) ([.lst near] ++ m')
          rw [← List.append_assoc] at this
          exact this)
        refine hgr.wp fun m2 => ?_
        simp -implicitDefEqProofs -dsimp only [Wp_ok, Wp_no, Wp_er, Wp_bind, Wp_some, Wp_none, Wp_guard, Wp_iteB, runDef, dSeq2, dVar, dCon, dNil, dCons, dStar, dTup, dLst, dDct0, dBin, dNeg, dTru, dIf, dNotT, dBl, dBool, dAnd, dOr, dCmp, dCmp2, dIdx, dNoPart, dPart, dSlc, dRev, dCall, dBlt, dMet, dIsi, aNm, aSub, dItSeq, dItRng, dItRng2, dItEnu, dItZip, dItEnz, dNo, sExp, sAsg, setAll, sPar, sAug, sRet, sSeq, sNil, sCnt, sFor, wipeE, new, mtTy, tyHas, List.map_cons, List.map_nil, List.length_cons, List.length_nil, List.length_map, Nat.zero_add, Nat.add_zero, Nat.reduceAdd, Nat.reduceSub, Nat.reduceMul, Nat.reduceLeDiff, Nat.reduceEqDiff, List.replicate_succ, List.replicate_zero, List.cons_append, List.nil_append, List.append_nil, List.getElem?_cons_zero, List.getElem?_cons_succ, List.getElem?_nil, List.set_cons_zero, List.set_cons_succ, if_true, if_false, ite_true, ite_false, Bool.false_eq_true, Bool.not_true, Bool.not_false, Option.map_some, Option.map_none, reduceCtorEq, beq_self_eq_true, Nat.reduceBEq, Bool.or_true, Bool.or_false, Bool.true_or, Bool.false_or, Bool.and_true, Bool.and_false, Bool.true_and, Bool.false_and, reduceIte, decide_true, decide_false, lenLim, true_and, e_addi, e_adds, e_addt, e_addl, e_subi, e_muli, e_mult, e_mull, e_fdiv, e_mod, e_pow, e_neg, e_eq, e_ne, e_lti, e_ltt, e_lei, e_gti, e_gei, e_isn0, e_isb, e_isnn, e_isnb, e_in, e_nin, e_ixt, e_ixf, e_ixr, e_sqt, e_sqf, e_sqr, e_slt, e_slr, e_rvt, e_rvr, e_lnt, e_lnf, e_lns, e_lnr, e_len, e_tuple, e_list, e_inti, e_intb, e_abs, e_divmod, e_min2, e_max2, e_all, e_any, e_app, e_ext, e_rec, e_isnk, e_isbk, e_isik, e_issk, e_istk, e_isrk, e_tn, e_tb, e_ti, e_tt, e_tf, e_tr, e_sit, e_sif, e_sir, e_part, e_augA, e_augS, e_nn, e_nnb, e_nni, e_nns, e_nnt, e_nnf, e_nnr, e_tp, e_acons, e_anil]
        exact ⟨m' ++ m2, by simp only [List.append_assoc]⟩
      · rintro acc S' ⟨rfl, m', rfl⟩
        try simp -implicitDefEqProofs -dsimp only [Wp_ok, Wp_no, Wp_er, Wp_bind, Wp_some, Wp_none, Wp_guard, Wp_iteB, runDef, dSeq2, dVar, dCon, dNil, dCons, dStar, dTup, dLst, dDct0, dBin, dNeg, dTru, dIf, dNotT, dBl, dBool, dAnd, dOr, dCmp, dCmp2, dIdx, dNoPart, dPart, dSlc, dRev, dCall, dBlt, dMet, dIsi, aNm, aSub, dItSeq, dItRng, dItRng2, dItEnu, dItZip, dItEnz, dNo, sExp, sAsg, setAll, sPar, sAug, sRet, sSeq, sNil, sCnt, sFor, wipeE, new, mtTy, tyHas, List.map_cons, List.map_nil, List.length_cons, List.length_nil, List.length_map, Nat.zero_add, Nat.add_zero, Nat.reduceAdd, Nat.reduceSub, Nat.reduceMul, Nat.reduceLeDiff, Nat.reduceEqDiff, List.replicate_succ, List.replicate_zero, List.cons_append, List.nil_append, List.append_nil, List.getElem?_cons_zero, List.getElem?_cons_succ, List.getElem?_nil, List.set_cons_zero, List.set_cons_succ, if_true, if_false, ite_true, ite_false, Bool.false_eq_true, Bool.not_true, Bool.not_false, Option.map_some, Option.map_none, reduceCtorEq, beq_self_eq_true, Nat.reduceBEq, Bool.or_true, Bool.or_false, Bool.true_or, Bool.false_or, Bool.and_true, Bool.and_false, Bool.true_and, Bool.false_and, reduceIte, decide_true, decide_false, lenLim, true_and, e_addi, e_adds, e_addt, e_addl, e_subi, e_muli, e_mult, e_mull, e_fdiv, e_mod, e_pow, e_neg, e_eq, e_ne, e_lti, e_ltt, e_lei, e_gti, e_gei, e_isn0, e_isb, e_isnn, e_isnb, e_in, e_nin, e_ixt, e_ixf, e_ixr, e_sqt, e_sqf, e_sqr, e_slt, e_slr, e_rvt, e_rvr, e_lnt, e_lnf, e_lns, e_lnr, e_len, e_tuple, e_list, e_inti, e_intb, e_abs, e_divmod, e_min2, e_max2, e_all, e_any, e_app, e_ext, e_rec, e_isnk, e_isbk, e_isik, e_issk, e_istk, e_isrk, e_tn, e_tb, e_ti, e_tt, e_tf, e_tr, e_sit, e_sif, e_sir, e_part, e_augA, e_augS, e_nn, e_nnb, e_nni, e_nns, e_nnt, e_nnf, e_nnr, e_tp, e_acons, e_anil]
        rw [eqW_nil (S := S4 ++ [O.lst near] ++ m' ++ [O.lst []] ++ [O.lst []]) (p := (S4 ++ [O.lst near] ++ m').length) (q := (S4 ++ [O.lst near] ++ m' ++ [O.lst []]).length) (by rw [List.append_assoc (S4 ++ [O.lst near] ++ m')]; exact at_mid _ _ _) (at_last _ _)]
        simp -implicitDefEqProofs -dsimp only [Wp_ok, Wp_no, Wp_er, Wp_bind, Wp_some, Wp_none, Wp_guard, Wp_iteB, runDef, dSeq2, dVar, dCon, dNil, dCons, dStar, dTup, dLst, dDct0, dBin, dNeg, dTru, dIf, dNotT, dBl, dBool, dAnd, dOr, dCmp, dCmp2, dIdx, dNoPart, dPart, dSlc, dRev, dCall, dBlt, dMet, dIsi, aNm, aSub, dItSeq, dItRng, dItRng2, dItEnu, dItZip, dItEnz, dNo, sExp, sAsg, setAll, sPar, sAug, sRet, sSeq, sNil, sCnt, sFor, wipeE, new, mtTy, tyHas, List.map_cons, List.map_nil, List.length_cons, List.length_nil, List.length_map, Nat.zero_add, Nat.add_zero, Nat.reduceAdd, Nat.reduceSub, Nat.reduceMul, Nat.reduceLeDiff, Nat.reduceEqDiff, List.replicate_succ, List.replicate_zero, List.cons_append, List.nil_append, List.append_nil, List.getElem?_cons_zero, List.getElem?_cons_succ, List.getElem?_nil, List.set_cons_zero, List.set_cons_succ, if_true, if_false, ite_true, ite_false, Bool.false_eq_true, Bool.not_true, Bool.not_false, Option.map_some, Option.map_none, reduceCtorEq, beq_self_eq_true, Nat.reduceBEq, Bool.or_true, Bool.or_false, Bool.true_or, Bool.false_or, Bool.and_true, Bool.and_false, Bool.true_and, Bool.false_and, reduceIte, decide_true, decide_false, lenLim, true_and, e_addi, e_adds, e_addt, e_addl, e_subi, e_muli, e_mult, e_mull, e_fdiv, e_mod, e_pow, e_neg, e_eq, e_ne, e_lti, e_ltt, e_lei, e_gti, e_gei, e_isn0, e_isb, e_isnn, e_isnb, e_in, e_nin, e_ixt, e_ixf, e_ixr, e_sqt, e_sqf, e_sqr, e_slt, e_slr, e_rvt, e_rvr, e_lnt, e_lnf, e_lns, e_lnr, e_len, e_tuple, e_list, e_inti, e_intb, e_abs, e_divmod, e_min2, e_max2, e_all, e_any, e_app, e_ext, e_rec, e_isnk, e_isbk, e_isik, e_issk, e_istk, e_isrk, e_tn, e_tb, e_ti, e_tt, e_tf, e_tr, e_sit, e_sif, e_sir, e_part, e_augA, e_augS, e_nn, e_nnb, e_nni, e_nns, e_nnt, e_nnf, e_nnr, e_tp, e_acons, e_anil]
        refine ⟨?_, ?_⟩
        · simp only [List.append_assoc]
          exact hd4.app _
        · refine g4.trans hr ?_
          simp only [List.append_assoc]
          exact .app hd4 _
end L59
set_option autoImplicit false
set_option Elab.async false
set_option linter.all false
set_option maxRecDepth 100000
set_option maxHeartbeats 4000000
namespace L59
open PySem Pv
def tupI (as : List Int) : W := .tup (as.map .int)
theorem eqW_tups (S : Sto) (L : List (List Int)) : eqW S (.tup (L.map tupI)) (.tup (L.map tupI)) = some true := by
  let dat : List Int → PyData := fun as => .tuple (as.map PyData.int)
  have h1 : ∀ n (as : List Int), dpAll (dpW (n + 1) S) (as.map .int) = some (as.map PyData.int) := by
    intro n as
    induction as with
    | nil => rfl
    | cons a r ih => rw [List.map_cons, dpAll, ih]; rfl
  have h1' : ∀ n (as : List Int), dpW (n + 2) S (tupI as) = some (dat as) := fun n as => by
    show (dpAll (dpW (n + 1) S) (as.map .int)).map PyData.tuple = _
    rw [h1 n as]
    rfl
  have h2' : ∀ n (L : List (List Int)), dpAll (dpW (n + 2) S) (L.map tupI) = some (L.map dat) := by
    intro n L
    induction L with
    | nil => rfl
    | cons a r ih => rw [List.map_cons, dpAll, ih, h1' n a]; rfl
  have h2 : dpW 66 S (.tup (L.map tupI)) = some (.tuple (L.map dat)) := by
    show (dpAll (dpW 65 S) (L.map tupI)).map PyData.tuple = _
    rw [h2' 63 L]
    rfl
  have a1 : ∀ as : List Int, PyData.canLayAll0 (as.map PyData.int) = true := by
    intro as
    induction as with
    | nil => rfl
    | cons a r ih => rw [List.map_cons, PyData.canLayAll0, ih]; rfl
  have b1 : ∀ as : List Int, PyData.depthAll (as.map PyData.int) = 0 := by
    intro as
    induction as with
    | nil => rfl
    | cons a r ih => rw [List.map_cons, PyData.depthAll, ih]; rfl
  have a2 : ∀ L : List (List Int), PyData.canLayAll0 (L.map dat) = true := by
    intro L
    induction L with
    | nil => rfl
    | cons a r ih => rw [List.map_cons, PyData.canLayAll0, ih, show PyData.canLay0 (dat a) = PyData.canLayAll0 (a.map PyData.int) from rfl, a1]; rfl
  have b2 : ∀ L : List (List Int), PyData.depthAll (L.map dat) ≤ 1 := by
    intro L
    induction L with
    | nil => exact Nat.zero_le _
    | cons a r ih =>
      rw [List.map_cons, PyData.depthAll, show PyData.depth (dat a) = PyData.depthAll (a.map PyData.int) + 1 from rfl, b1]
      omega
  have e1 : ∀ as : List Int, PyData.eqvAll (as.map PyData.int) (as.map PyData.int) = true := by
    intro as
    induction as with
    | nil => rfl
    | cons a r ih =>
      rw [List.map_cons, PyData.eqvAll, ih, PyData.eqv]
      simp
  have e2 : ∀ L : List (List Int), PyData.eqvAll (L.map dat) (L.map dat) = true := by
    intro L
    induction L with
    | nil => rfl
    | cons a r ih =>
      rw [List.map_cons, PyData.eqvAll, ih, show PyData.eqv (dat a) (dat a) = PyData.eqvAll (a.map PyData.int) (a.map PyData.int) from rfl, e1]
      rfl
  have h3 : SeqAt.shaped (.tuple (L.map dat)) = true := by
    unfold SeqAt.shaped
    rw [show PyData.canLay0 (.tuple (L.map dat)) = PyData.canLayAll0 (L.map dat) from rfl, a2 L]
    show decide (PyData.depthAll (L.map dat) + 1 ≤ 64) = true
    have := b2 L
    exact decide_eq_true (by omega)
  unfold eqW
  rw [h2]
  dsimp only
  rw [h3]
  show some (PyData.eqvAll (L.map dat) (L.map dat)) = _
  rw [e2]
theorem pgs_form (b : Int) (cs : List Int) : pgs b cs = (cs.map (digs b 8)).map tupI := by
  unfold pgs
  rw [List.map_map]
  rfl
theorem dif_form (i : Nat) (as bs : List Int) : ∃ L : List (List Int), dif i as bs = L.map tupI := by
  unfold dif
  have : ∀ ws : List W, (∀ w ∈ ws, ∃ j : Nat, j < 8 ∧ w = .int (j : Nat)) → ∃ L : List (List Int), ws.map (fun w => W.tup [.int i, w]) = L.map tupI := by
    intro ws
    induction ws with
    | nil => exact fun _ => ⟨[], rfl⟩
    | cons w r ih =>
      intro h
      obtain ⟨L, e⟩ := ih fun w hw => h w (by simp [hw])
      obtain ⟨j, _, rfl⟩ := h w (by simp)
      exact ⟨[(i : Int), (j : Int)] :: L, by rw [List.map_cons, e]; rfl⟩
  exact this _ fun w hw => in_rng8 (List.mem_filter.mp hw).1
theorem dnn_form (b : Int) (cs ds : List Int) : ∀ k, ∃ L : List (List Int), dnn b cs ds k = L.map tupI
  | 0 => ⟨[], rfl⟩
  | k + 1 => by
    obtain ⟨L, e⟩ := dnn_form b cs ds k
    obtain ⟨L2, e2⟩ := dif_form k (digs b 8 (cs.getD k 0)) (digs b 8 (ds.getD k 0))
    exact ⟨L ++ L2, by rw [dnn, e, e2, List.map_append]⟩
theorem rngK {k : Int} (h0 : 0 ≤ k) (h1 : k ≤ 1000) : rngI (.int 0) (.int k) = some ⟨[], rngW 0 1 k.toNat⟩ := by
  unfold rngI
  dsimp only
  have a : okB 0 = true := by decide
  have b : okB k = true := by unfold okB; simp; omega
  rw [a, b, Int.sub_zero]
  rfl
theorem Gs.set_new {r q : Nat} {S S' : Sto} {o : O} (g : Gs r S S') (h : S.length ≤ q) : Gs r S (S'.set q o) := by
  obtain ⟨o1, m, rfl⟩ := g
  exact ⟨o1, m.set (q - (S.set r o1).length) o, by rw [List.set_append_right _ _ (by rw [List.length_set]; exact h)]⟩
theorem Dc.set_ne {r q : Nat} {m : Int} {S : Sto} {o : O} (h : Dc r m S) (hq : q ≠ r) : Dc r m (S.set q o) := by
  obtain ⟨a, b, c, h, x⟩ := h
  exact ⟨a, b, c, by rw [List.getElem?_set_ne hq]; exact h, x⟩
theorem get_app {S : Sto} {j : Nat} {x : O} (h : S[j]? = some x) (m : Sto) : (S ++ m)[j]? = some x := by
  rw [List.getElem?_append_left (List.getElem?_eq_some_iff.mp h).1]
  exact h
theorem get_lt {S : Sto} {j : Nat} {x : O} (h : S[j]? = some x) : j < S.length := (List.getElem?_eq_some_iff.mp h).1
theorem atC {cs : List Int} {i : Int} (h0 : 0 ≤ i) (h : i < cs.length) : L2.atI (cs.map W.int) i = some (.int (cs.getD i.toNat 0)) := by
  refine at_ok h0 ?_
  have hl : i.toNat < cs.length := by omega
  rw [List.getElem?_map, List.getElem?_eq_getElem hl]
  simp [List.getD, List.getElem?_eq_getElem hl]
theorem mem_getD {cs : List Int} {i : Nat} (h : i < cs.length) : cs.getD i 0 ∈ cs := by
  rw [show cs.getD i 0 = cs[i] by simp [List.getD, List.getElem?_eq_getElem h]]
  exact List.getElem_mem h
theorem ixN_ok {n : Nat} {i : Int} (h0 : 0 ≤ i) (h : i < n) : L2.ixN n i = some i.toNat := by
  unfold L2.ixN
  rw [if_pos h0, if_pos h]
theorem pow8' {b : Int} (h1 : 2 ≤ b) (h2 : b ≤ 1000) : 1 ≤ b ^ 8 ∧ (b ^ 8).natAbs.log2 < 9000 ∧ (b.natAbs.log2 + 1) * Int.toNat 8 ≤ 1000000 := by
  have p := pow8 h1 h2 (k := 8) (by omega)
  refine ⟨p.1, log_b' (by omega) (by omega), ?_⟩
  have : b.natAbs.log2 < 10 := log_lt (by omega) (by omega)
  show (b.natAbs.log2 + 1) * 8 ≤ 1000000
  omega
end L59
set_option autoImplicit false
set_option Elab.async false
set_option linter.all false
set_option maxRecDepth 100000
set_option maxHeartbeats 4000000
namespace L59
open PySem Pv
theorem small {k : Int} (h : 0 < k) (h2 : k ≤ 100000) : k.natAbs.log2 < 9000 := Nat.lt_trans (log_lt (k := 20) (by omega) (by omega)) (by omega)
theorem iteQ {α : Type} {c : Prop} [Decidable c] {r : R α} {Q : α → Sto → Prop} {a0 : α} {S0 : Sto} (Good : α → Sto → Prop) (h1 : c → Wp r Good E0) (h2 : ¬ c → Good a0 S0) (h : ∀ a S', Good a S' → Q a S') : if c then Wp r Q E0 else Q a0 S0 := by
  split
  · rename_i hc; exact (h1 hc).then h
  · rename_i hc; exact h _ _ (h2 hc)
theorem f28_ok (n r : Nat) (m b : Int) (S : Sto) (hd : Dc r m S) (hm : m + 100 ≤ 1000000) (h1 : 2 ≤ b) (h2 : b ≤ 1000) :
    Wp (callF Dd (n + 8) 28 [.ref r, .int b] S) (fun v S' => v = .bl true ∧ Dc r (m + 100) S' ∧ Gs r S S') E0 := by
  have hr := hd.lt
  obtain ⟨p1, pl, pg⟩ := pow8' h1 h2
  have pg' : ((0 : Int) ≤ 8 ∧ (b.natAbs.log2 + 1) * Int.toNat 8 ≤ 1000000) := ⟨by omega, pg⟩
  rw [u28]
  simp -implicitDefEqProofs -dsimp only [Wp_ok, Wp_no, Wp_er, Wp_bind, Wp_some, Wp_none, Wp_guard, Wp_iteB, runDef, dSeq2, dVar, dCon, dNil, dCons, dStar, dTup, dLst, dDct0, dBin, dNeg, dTru, dIf, dNotT, dBl, dBool, dAnd, dOr, dCmp, dCmp2, dIdx, dNoPart, dPart, dSlc, dRev, dCall, dBlt, dMet, dIsi, aNm, aSub, dItSeq, dItRng, dItRng2, dItEnu, dItZip, dItEnz, dNo, sExp, sAsg, setAll, sPar, sAug, sRet, sSeq, sNil, sCnt, sFor, wipeE, new, mtTy, tyHas, List.map_cons, List.map_nil, List.length_cons, List.length_nil, List.length_map, Nat.zero_add, Nat.add_zero, Nat.reduceAdd, Nat.reduceSub, Nat.reduceMul, Nat.reduceLeDiff, Nat.reduceEqDiff, List.replicate_succ, List.replicate_zero, List.cons_append, List.nil_append, List.append_nil, List.getElem?_cons_zero, List.getElem?_cons_succ, List.getElem?_nil, List.set_cons_zero, List.set_cons_succ, if_true, if_false, ite_true, ite_false, Bool.false_eq_true, Bool.not_true, Bool.not_false, Option.map_some, Option.map_none, reduceCtorEq, beq_self_eq_true, Nat.reduceBEq, Bool.or_true, Bool.or_false, Bool.true_or, Bool.false_or, Bool.and_true, Bool.and_false, Bool.true_and, Bool.false_and, reduceIte, decide_true, decide_false, lenLim, true_and, e_addi, e_adds, e_addt, e_addl, e_subi, e_muli, e_mult, e_mull, e_fdiv, e_mod, e_pow, e_neg, e_eq, e_ne, e_lti, e_ltt, e_lei, e_gti, e_gei, e_isn0, e_isb, e_isnn, e_isnb, e_in, e_nin, e_ixt, e_ixf, e_ixr, e_sqt, e_sqf, e_sqr, e_slt, e_slr, e_rvt, e_rvr, e_lnt, e_lnf, e_lns, e_lnr, e_len, e_tuple, e_list, e_inti, e_intb, e_abs, e_divmod, e_min2, e_max2, e_all, e_any, e_app, e_ext, e_rec, e_isnk, e_isbk, e_isik, e_issk, e_istk, e_isrk, e_tn, e_tb, e_ti, e_tt, e_tf, e_tr, e_sit, e_sif, e_sir, e_part, e_augA, e_augS, e_nn, e_nnb, e_nni, e_nns, e_nnt, e_nnf, e_nnr, e_tp, e_acons, e_anil]
  refine (roll (n + 6) r m 5 S hd (by omega) (by omega) (small (by omega) (by omega))).then ?_
  rintro v S1 ⟨k, rfl, k0, k5, hd1, g1⟩
  try simp -implicitDefEqProofs -dsimp only [Wp_ok, Wp_no, Wp_er, Wp_bind, Wp_some, Wp_none, Wp_guard, Wp_iteB, runDef, dSeq2, dVar, dCon, dNil, dCons, dStar, dTup, dLst, dDct0, dBin, dNeg, dTru, dIf, dNotT, dBl, dBool, dAnd, dOr, dCmp, dCmp2, dIdx, dNoPart, dPart, dSlc, dRev, dCall, dBlt, dMet, dIsi, aNm, aSub, dItSeq, dItRng, dItRng2, dItEnu, dItZip, dItEnz, dNo, sExp, sAsg, setAll, sPar, sAug, sRet, sSeq, sNil, sCnt, sFor, wipeE, new, mtTy, tyHas, List.map_cons, List.map_nil, List.length_cons, List.length_nil, List.length_map, Nat.zero_add, Nat.add_zero, Nat.reduceAdd, Nat.reduceSub, Nat.reduceMul, Nat.reduceLeDiff, Nat.reduceEqDiff, List.replicate_succ, List.replicate_zero, List.cons_append, List.nil_append, List.append_nil, List.getElem?_cons_zero, List.getElem?_cons_succ, List.getElem?_nil, List.set_cons_zero, List.set_cons_succ, if_true, if_false, ite_true, ite_false, Bool.false_eq_true, Bool.not_true, Bool.not_false, Option.map_some, Option.map_none, reduceCtorEq, beq_self_eq_true, Nat.reduceBEq, Bool.or_true, Bool.or_false, Bool.true_or, Bool.false_or, Bool.and_true, Bool.and_false, Bool.true_and, Bool.false_and, reduceIte, decide_true, decide_false, lenLim, true_and, e_addi, e_adds, e_addt, e_addl, e_subi, e_muli, e_mult, e_mull, e_fdiv, e_mod, e_pow, e_neg, e_eq, e_ne, e_lti, e_ltt, e_lei, e_gti, e_gei, e_isn0, e_isb, e_isnn, e_isnb, e_in, e_nin, e_ixt, e_ixf, e_ixr, e_sqt, e_sqf, e_sqr, e_slt, e_slr, e_rvt, e_rvr, e_lnt, e_lnf, e_lns, e_lnr, e_len, e_tuple, e_list, e_inti, e_intb, e_abs, e_divmod, e_min2, e_max2, e_all, e_any, e_app, e_ext, e_rec, e_isnk, e_isbk, e_isik, e_issk, e_istk, e_isrk, e_tn, e_tb, e_ti, e_tt, e_tf, e_tr, e_sit, e_sif, e_sir, e_part, e_augA, e_augS, e_nn, e_nnb, e_nni, e_nns, e_nnt, e_nnf, e_nnr, e_tp, e_acons, e_anil]
  have hkn : (rngW 0 1 k.toNat).length = k.toNat := rngW_len 1 k.toNat 0
  simp -implicitDefEqProofs -dsimp only [Wp_ok, Wp_no, Wp_er, Wp_bind, Wp_some, Wp_none, Wp_guard, Wp_iteB, runDef, dSeq2, dVar, dCon, dNil, dCons, dStar, dTup, dLst, dDct0, dBin, dNeg, dTru, dIf, dNotT, dBl, dBool, dAnd, dOr, dCmp, dCmp2, dIdx, dNoPart, dPart, dSlc, dRev, dCall, dBlt, dMet, dIsi, aNm, aSub, dItSeq, dItRng, dItRng2, dItEnu, dItZip, dItEnz, dNo, sExp, sAsg, setAll, sPar, sAug, sRet, sSeq, sNil, sCnt, sFor, wipeE, new, mtTy, tyHas, List.map_cons, List.map_nil, List.length_cons, List.length_nil, List.length_map, Nat.zero_add, Nat.add_zero, Nat.reduceAdd, Nat.reduceSub, Nat.reduceMul, Nat.reduceLeDiff, Nat.reduceEqDiff, List.replicate_succ, List.replicate_zero, List.cons_append, List.nil_append, List.append_nil, List.getElem?_cons_zero, List.getElem?_cons_succ, List.getElem?_nil, List.set_cons_zero, List.set_cons_succ, if_true, if_false, ite_true, ite_false, Bool.false_eq_true, Bool.not_true, Bool.not_false, Option.map_some, Option.map_none, reduceCtorEq, beq_self_eq_true, Nat.reduceBEq, Bool.or_true, Bool.or_false, Bool.true_or, Bool.false_or, Bool.and_true, Bool.and_false, Bool.true_and, Bool.false_and, reduceIte, decide_true, decide_false, lenLim, true_and, e_addi, e_adds, e_addt, e_addl, e_subi, e_muli, e_mult, e_mull, e_fdiv, e_mod, e_pow, e_neg, e_eq, e_ne, e_lti, e_ltt, e_lei, e_gti, e_gei, e_isn0, e_isb, e_isnn, e_isnb, e_in, e_nin, e_ixt, e_ixf, e_ixr, e_sqt, e_sqf, e_sqr, e_slt, e_slr, e_rvt, e_rvr, e_lnt, e_lnf, e_lns, e_lnr, e_len, e_tuple, e_list, e_inti, e_intb, e_abs, e_divmod, e_min2, e_max2, e_all, e_any, e_app, e_ext, e_rec, e_isnk, e_isbk, e_isik, e_issk, e_istk, e_isrk, e_tn, e_tb, e_ti, e_tt, e_tf, e_tr, e_sit, e_sif, e_sir, e_part, e_augA, e_augS, e_nn, e_nnb, e_nni, e_nns, e_nnt, e_nnf, e_nnr, e_tp, e_acons, e_anil, dLc, Wp_noErr_eq, rngK k0 (show k ≤ 1000 by omega)]
  refine Wp_lc (fun i acc S' => i ≤ k.toNat ∧ ∃ cs : List Int, acc = cs.map .int ∧ cs.length = i ∧ (∀ c ∈ cs, 0 ≤ c ∧ c < b ^ 8) ∧ Dc r (m + 1 + i) S' ∧ Gs r S S') ⟨by omega, [], rfl, rfl, by simp, hd1.le (by omega), g1⟩ (fun _ _ _ _ _ => rfl) ?_ ?_
  · rintro i w acc S2 hw ⟨hi, cs, rfl, hl, hr2, hd2, g2⟩
    have hik : i < k.toNat := by
      have := (List.getElem?_eq_some_iff.mp hw).1
      rwa [hkn] at this
    simp -implicitDefEqProofs -dsimp only [Wp_ok, Wp_no, Wp_er, Wp_bind, Wp_some, Wp_none, Wp_guard, Wp_iteB, runDef, dSeq2, dVar, dCon, dNil, dCons, dStar, dTup, dLst, dDct0, dBin, dNeg, dTru, dIf, dNotT, dBl, dBool, dAnd, dOr, dCmp, dCmp2, dIdx, dNoPart, dPart, dSlc, dRev, dCall, dBlt, dMet, dIsi, aNm, aSub, dItSeq, dItRng, dItRng2, dItEnu, dItZip, dItEnz, dNo, sExp, sAsg, setAll, sPar, sAug, sRet, sSeq, sNil, sCnt, sFor, wipeE, new, mtTy, tyHas, List.map_cons, List.map_nil, List.length_cons, List.length_nil, List.length_map, Nat.zero_add, Nat.add_zero, Nat.reduceAdd, Nat.reduceSub, Nat.reduceMul, Nat.reduceLeDiff, Nat.reduceEqDiff, List.replicate_succ, List.replicate_zero, List.cons_append, List.nil_append, List.append_nil, List.getElem?_cons_zero, List.getElem?_cons_succ, List.getElem?_nil, List.set_cons_zero, List.set_cons_succ, if_true, if_false, ite_true, ite_false, Bool.false_eq_true, Bool.not_true, Bool.not_false, Option.map_some, Option.map_none, reduceCtorEq, beq_self_eq_true, Nat.reduceBEq, Bool.or_true, Bool.or_false, Bool.true_or, Bool.false_or, Bool.and_true, Bool.and_false, Bool.true_and, Bool.false_and, reduceIte, decide_true, decide_false, lenLim, true_and, e_addi, e_adds, e_addt, e_addl, e_subi, e_muli, e_mult, e_mull, e_fdiv, e_mod, e_pow, e_neg, e_eq, e_ne, e_lti, e_ltt, e_lei, e_gti, e_gei, e_isn0, e_isb, e_isnn, e_isnb, e_in, e_nin, e_ixt, e_ixf, e_ixr, e_sqt, e_sqf, e_sqr, e_slt, e_slr, e_rvt, e_rvr, e_lnt, e_lnf, e_lns, e_lnr, e_len, e_tuple, e_list, e_inti, e_intb, e_abs, e_divmod, e_min2, e_max2, e_all, e_any, e_app, e_ext, e_rec, e_isnk, e_isbk, e_isik, e_issk, e_istk, e_isrk, e_tn, e_tb, e_ti, e_tt, e_tf, e_tr, e_sit, e_sif, e_sir, e_part, e_augA, e_augS, e_nn, e_nnb, e_nni, e_nns, e_nnt, e_nnf, e_nnr, e_tp, e_acons, e_anil, pg']
    refine (roll (n + 6) r _ (b ^ 8) S2 hd2 (by omega) (by omega) pl).then ?_
    rintro v S3 ⟨x, rfl, x0, x1, hd3, g3⟩
    try simp -implicitDefEqProofs -dsimp only [Wp_ok, Wp_no, Wp_er, Wp_bind, Wp_some, Wp_none, Wp_guard, Wp_iteB, runDef, dSeq2, dVar, dCon, dNil, dCons, dStar, dTup, dLst, dDct0, dBin, dNeg, dTru, dIf, dNotT, dBl, dBool, dAnd, dOr, dCmp, dCmp2, dIdx, dNoPart, dPart, dSlc, dRev, dCall, dBlt, dMet, dIsi, aNm, aSub, dItSeq, dItRng, dItRng2, dItEnu, dItZip, dItEnz, dNo, sExp, sAsg, setAll, sPar, sAug, sRet, sSeq, sNil, sCnt, sFor, wipeE, new, mtTy, tyHas, List.map_cons, List.map_nil, List.length_cons, List.length_nil, List.length_map, Nat.zero_add, Nat.add_zero, Nat.reduceAdd, Nat.reduceSub, Nat.reduceMul, Nat.reduceLeDiff, Nat.reduceEqDiff, List.replicate_succ, List.replicate_zero, List.cons_append, List.nil_append, List.append_nil, List.getElem?_cons_zero, List.getElem?_cons_succ, List.getElem?_nil, List.set_cons_zero, List.set_cons_succ, if_true, if_false, ite_true, ite_false, Bool.false_eq_true, Bool.not_true, Bool.not_false, Option.map_some, Option.map_none, reduceCtorEq, beq_self_eq_true, Nat.reduceBEq, Bool.or_true, Bool.or_false, Bool.true_or, Bool.false_or, Bool.and_true, Bool.and_false, Bool.true_and, Bool.false_and, reduceIte, decide_true, decide_false, lenLim, true_and, e_addi, e_adds, e_addt, e_addl, e_subi, e_muli, e_mult, e_mull, e_fdiv, e_mod, e_pow, e_neg, e_eq, e_ne, e_lti, e_ltt, e_lei, e_gti, e_gei, e_isn0, e_isb, e_isnn, e_isnb, e_in, e_nin, e_ixt, e_ixf, e_ixr, e_sqt, e_sqf, e_sqr, e_slt, e_slr, e_rvt, e_rvr, e_lnt, e_lnf, e_lns, e_lnr, e_len, e_tuple, e_list, e_inti, e_intb, e_abs, e_divmod, e_min2, e_max2, e_all, e_any, e_app, e_ext, e_rec, e_isnk, e_isbk, e_isik, e_issk, e_istk, e_isrk, e_tn, e_tb, e_ti, e_tt, e_tf, e_tr, e_sit, e_sif, e_sir, e_part, e_augA, e_augS, e_nn, e_nnb, e_nni, e_nns, e_nnt, e_nnf, e_nnr, e_tp, e_acons, e_anil]
    refine ⟨by rw [hl]; omega, by omega, cs ++ [x], by simp, by simp [hl], ?_, hd3.le (by omega), g2.trans hr g3⟩
    intro d hd
    rcases List.mem_append.mp hd with h | h
    · exact hr2 d h
    · rw [List.mem_singleton.mp h]; exact ⟨x0, x1⟩
  · rintro acc S2 ⟨_, cs, rfl, hl, hrg, hd2, g2⟩
    rw [hkn] at hl hd2
    have hq1l : S.length ≤ S2.length := by
      obtain ⟨o, m', e⟩ := g2
      rw [e, List.length_append, List.length_set]
      omega
    have hr2 := hd2.lt
    simp -implicitDefEqProofs -dsimp only [Wp_ok, Wp_no, Wp_er, Wp_bind, Wp_some, Wp_none, Wp_guard, Wp_iteB, runDef, dSeq2, dVar, dCon, dNil, dCons, dStar, dTup, dLst, dDct0, dBin, dNeg, dTru, dIf, dNotT, dBl, dBool, dAnd, dOr, dCmp, dCmp2, dIdx, dNoPart, dPart, dSlc, dRev, dCall, dBlt, dMet, dIsi, aNm, aSub, dItSeq, dItRng, dItRng2, dItEnu, dItZip, dItEnz, dNo, sExp, sAsg, setAll, sPar, sAug, sRet, sSeq, sNil, sCnt, sFor, wipeE, new, mtTy, tyHas, List.map_cons, List.map_nil, List.length_cons, List.length_nil, List.length_map, Nat.zero_add, Nat.add_zero, Nat.reduceAdd, Nat.reduceSub, Nat.reduceMul, Nat.reduceLeDiff, Nat.reduceEqDiff, List.replicate_succ, List.replicate_zero, List.cons_append, List.nil_append, List.append_nil, List.getElem?_cons_zero, List.getElem?_cons_succ, List.getElem?_nil, List.set_cons_zero, List.set_cons_succ, if_true, if_false, ite_true, ite_false, Bool.false_eq_true, Bool.not_true, Bool.not_false, Option.map_some, Option.map_none, reduceCtorEq, beq_self_eq_true, Nat.reduceBEq, Bool.or_true, Bool.or_false, Bool.true_or, Bool.false_or, Bool.and_true, Bool.and_false, Bool.true_and, Bool.false_and, reduceIte, decide_true, decide_false, lenLim, true_and, e_addi, e_adds, e_addt, e_addl, e_subi, e_muli, e_mult, e_mull, e_fdiv, e_mod, e_pow, e_neg, e_eq, e_ne, e_lti, e_ltt, e_lei, e_gti, e_gei, e_isn0, e_isb, e_isnn, e_isnb, e_in, e_nin, e_ixt, e_ixf, e_ixr, e_sqt, e_sqf, e_sqr, e_slt, e_slr, e_rvt, e_rvr, e_lnt, e_lnf, e_lns, e_lnr, e_len, e_tuple, e_list, e_inti, e_intb, e_abs, e_divmod, e_min2, e_max2, e_all, e_any, e_app, e_ext, e_rec, e_isnk, e_isbk, e_isik, e_issk, e_istk, e_isrk, e_tn, e_tb, e_ti, e_tt, e_tf, e_tr, e_sit, e_sif, e_sir, e_part, e_augA, e_augS, e_nn, e_nnb, e_nni, e_nns, e_nnt, e_nnf, e_nnr, e_tp, e_acons, e_anil, at_last]
    have hd3 : Dc r (m + 6) (S2 ++ [O.lst (cs.map W.int)] ++ [O.lst (cs.map W.int)]) := ((hd2.le (by omega)).app _).app _
    have g3 : Gs r S (S2 ++ [O.lst (cs.map W.int)] ++ [O.lst (cs.map W.int)]) := by
      rw [List.append_assoc]
      exact g2.trans hr (.app hd2 _)
    refine iteQ (a0 := W.int 0) (fun (a : W) S' => ∃ t : Int, a = W.int t ∧ 0 ≤ t ∧ t ≤ 3 ∧ (0 < t → 0 < k) ∧ Dc r (m + 7) S' ∧ Gs r (S2 ++ [O.lst (cs.map W.int)] ++ [O.lst (cs.map W.int)]) S') (fun hk => ?_) (fun hk => ?_) ?_
    · refine (roll (n + 6) r _ 3 _ hd3 (by omega) (by omega) (small (by omega) (by omega))).then ?_
      rintro v S4 ⟨t, rfl, t0, t1, hd4, g4⟩
      try simp -implicitDefEqProofs -dsimp only [Wp_ok, Wp_no, Wp_er, Wp_bind, Wp_some, Wp_none, Wp_guard, Wp_iteB, runDef, dSeq2, dVar, dCon, dNil, dCons, dStar, dTup, dLst, dDct0, dBin, dNeg, dTru, dIf, dNotT, dBl, dBool, dAnd, dOr, dCmp, dCmp2, dIdx, dNoPart, dPart, dSlc, dRev, dCall, dBlt, dMet, dIsi, aNm, aSub, dItSeq, dItRng, dItRng2, dItEnu, dItZip, dItEnz, dNo, sExp, sAsg, setAll, sPar, sAug, sRet, sSeq, sNil, sCnt, sFor, wipeE, new, mtTy, tyHas, List.map_cons, List.map_nil, List.length_cons, List.length_nil, List.length_map, Nat.zero_add, Nat.add_zero, Nat.reduceAdd, Nat.reduceSub, Nat.reduceMul, Nat.reduceLeDiff, Nat.reduceEqDiff, List.replicate_succ, List.replicate_zero, List.cons_append, List.nil_append, List.append_nil, List.getElem?_cons_zero, List.getElem?_cons_succ, List.getElem?_nil, List.set_cons_zero, List.set_cons_succ, if_true, if_false, ite_true, ite_false, Bool.false_eq_true, Bool.not_true, Bool.not_false, Option.map_some, Option.map_none, reduceCtorEq, beq_self_eq_true, Nat.reduceBEq, Bool.or_true, Bool.or_false, Bool.true_or, Bool.false_or, Bool.and_true, Bool.and_false, Bool.true_and, Bool.false_and, reduceIte, decide_true, decide_false, lenLim, true_and, e_addi, e_adds, e_addt, e_addl, e_subi, e_muli, e_mult, e_mull, e_fdiv, e_mod, e_pow, e_neg, e_eq, e_ne, e_lti, e_ltt, e_lei, e_gti, e_gei, e_isn0, e_isb, e_isnn, e_isnb, e_in, e_nin, e_ixt, e_ixf, e_ixr, e_sqt, e_sqf, e_sqr, e_slt, e_slr, e_rvt, e_rvr, e_lnt, e_lnf, e_lns, e_lnr, e_len, e_tuple, e_list, e_inti, e_intb, e_abs, e_divmod, e_min2, e_max2, e_all, e_any, e_app, e_ext, e_rec, e_isnk, e_isbk, e_isik, e_issk, e_istk, e_isrk, e_tn, e_tb, e_ti, e_tt, e_tf, e_tr, e_sit, e_sif, e_sir, e_part, e_augA, e_augS, e_nn, e_nnb, e_nni, e_nns, e_nnt, e_nnf, e_nnr, e_tp, e_acons, e_anil]
      exact ⟨t, rfl, t0, by omega, fun _ => of_decide_eq_true hk, hd4.le (by omega), g4⟩
    · exact ⟨0, rfl, by omega, by omega, fun h => by omega, hd3.le (by omega), by have := Gs.app hd3 []; rwa [List.append_nil] at this⟩
    · rintro a S4 ⟨t, rfl, t0, t3, htk, hd4, g4⟩
      have hr3 := hd3.lt
      obtain ⟨q1, eq1⟩ : ∃ q1, q1 = S2.length := ⟨_, rfl⟩
      obtain ⟨q2, eq2⟩ : ∃ q2, q2 = (S2 ++ [O.lst (cs.map W.int)]).length := ⟨_, rfl⟩
      have hq1 : S4[q1]? = some (.lst (cs.map W.int)) := by
        refine g4.get (by omega) ?_
        rw [eq1, List.append_assoc]
        exact at_mid _ _ _
      have hq2 : S4[q2]? = some (.lst (cs.map W.int)) := by
        refine g4.get (by rw [eq2, List.length_append]; omega) ?_
        rw [eq2]
        exact at_last _ _
      have hq2l : S.length ≤ q2 ∧ q1 ≠ q2 ∧ q1 ≠ r ∧ q2 ≠ r := by
        rw [eq2, List.length_append, List.length_singleton]
        omega
      rw [← eq1, ← eq2]
      have g4' := g3.trans hr g4
      have htn : (rngW 0 1 t.toNat).length = t.toNat := rngW_len 1 t.toNat 0
      simp -implicitDefEqProofs -dsimp only [Wp_ok, Wp_no, Wp_er, Wp_bind, Wp_some, Wp_none, Wp_guard, Wp_iteB, runDef, dSeq2, dVar, dCon, dNil, dCons, dStar, dTup, dLst, dDct0, dBin, dNeg, dTru, dIf, dNotT, dBl, dBool, dAnd, dOr, dCmp, dCmp2, dIdx, dNoPart, dPart, dSlc, dRev, dCall, dBlt, dMet, dIsi, aNm, aSub, dItSeq, dItRng, dItRng2, dItEnu, dItZip, dItEnz, dNo, sExp, sAsg, setAll, sPar, sAug, sRet, sSeq, sNil, sCnt, sFor, wipeE, new, mtTy, tyHas, List.map_cons, List.map_nil, List.length_cons, List.length_nil, List.length_map, Nat.zero_add, Nat.add_zero, Nat.reduceAdd, Nat.reduceSub, Nat.reduceMul, Nat.reduceLeDiff, Nat.reduceEqDiff, List.replicate_succ, List.replicate_zero, List.cons_append, List.nil_append, List.append_nil, List.getElem?_cons_zero, List.getElem?_cons_succ, List.getElem?_nil, List.set_cons_zero, List.set_cons_succ, if_true, if_false, ite_true, ite_false, Bool.false_eq_true, Bool.not_true, Bool.not_false, Option.map_some, Option.map_none, reduceCtorEq, beq_self_eq_true, Nat.reduceBEq, Bool.or_true, Bool.or_false, Bool.true_or, Bool.false_or, Bool.and_true, Bool.and_false, Bool.true_and, Bool.false_and, reduceIte, decide_true, decide_false, lenLim, true_and, e_addi, e_adds, e_addt, e_addl, e_subi, e_muli, e_mult, e_mull, e_fdiv, e_mod, e_pow, e_neg, e_eq, e_ne, e_lti, e_ltt, e_lei, e_gti, e_gei, e_isn0, e_isb, e_isnn, e_isnb, e_in, e_nin, e_ixt, e_ixf, e_ixr, e_sqt, e_sqf, e_sqr, e_slt, e_slr, e_rvt, e_rvr, e_lnt, e_lnf, e_lns, e_lnr, e_len, e_tuple, e_list, e_inti, e_intb, e_abs, e_divmod, e_min2, e_max2, e_all, e_any, e_app, e_ext, e_rec, e_isnk, e_isbk, e_isik, e_issk, e_istk, e_isrk, e_tn, e_tb, e_ti, e_tt, e_tf, e_tr, e_sit, e_sif, e_sir, e_part, e_augA, e_augS, e_nn, e_nnb, e_nni, e_nns, e_nnt, e_nnf, e_nnr, e_tp, e_acons, e_anil, rngK t0 (show t ≤ 1000 by omega)]
      refine Wp_for (fun i env S' => i ≤ t.toNat ∧ (∃ ds : List Int, S'[q2]? = some (.lst (ds.map .int)) ∧ ds.length = k.toNat ∧ (∀ c ∈ ds, 0 ≤ c ∧ c < b ^ 8)) ∧ S'[q1]? = some (.lst (cs.map .int)) ∧ Dc r (m + 7 + 3 * i) S' ∧ Gs r S S' ∧ ∃ x4 x6 x7 x8, env = [some (.ref r), some (.int b), some (.int k), some (.ref q1), x4, some (.ref q2), x6, x7, x8, none, none, none, none, none, none])
        ⟨by omega, ⟨cs, hq2, hl, hrg⟩, hq1, hd4.le (by omega), g4', none, none, none, none, rfl⟩ (fun _ _ _ _ _ => rfl) ?_ ?_
      · rintro i w env S5 hw ⟨hi, ⟨ds, hds, hdl, hdr⟩, hc5, hd5, g5, x4, x6, x7, x8, rfl⟩
        have hit : i < t.toNat := by
          have := (List.getElem?_eq_some_iff.mp hw).1
          rwa [htn] at this
        have hkp : 0 < k := htk (by omega)
        simp -implicitDefEqProofs -dsimp only [Wp_ok, Wp_no, Wp_er, Wp_bind, Wp_some, Wp_none, Wp_guard, Wp_iteB, runDef, dSeq2, dVar, dCon, dNil, dCons, dStar, dTup, dLst, dDct0, dBin, dNeg, dTru, dIf, dNotT, dBl, dBool, dAnd, dOr, dCmp, dCmp2, dIdx, dNoPart, dPart, dSlc, dRev, dCall, dBlt, dMet, dIsi, aNm, aSub, dItSeq, dItRng, dItRng2, dItEnu, dItZip, dItEnz, dNo, sExp, sAsg, setAll, sPar, sAug, sRet, sSeq, sNil, sCnt, sFor, wipeE, new, mtTy, tyHas, List.map_cons, List.map_nil, List.length_cons, List.length_nil, List.length_map, Nat.zero_add, Nat.add_zero, Nat.reduceAdd, Nat.reduceSub, Nat.reduceMul, Nat.reduceLeDiff, Nat.reduceEqDiff, List.replicate_succ, List.replicate_zero, List.cons_append, List.nil_append, List.append_nil, List.getElem?_cons_zero, List.getElem?_cons_succ, List.getElem?_nil, List.set_cons_zero, List.set_cons_succ, if_true, if_false, ite_true, ite_false, Bool.false_eq_true, Bool.not_true, Bool.not_false, Option.map_some, Option.map_none, reduceCtorEq, beq_self_eq_true, Nat.reduceBEq, Bool.or_true, Bool.or_false, Bool.true_or, Bool.false_or, Bool.and_true, Bool.and_false, Bool.true_and, Bool.false_and, reduceIte, decide_true, decide_false, lenLim, true_and, e_addi, e_adds, e_addt, e_addl, e_subi, e_muli, e_mult, e_mull, e_fdiv, e_mod, e_pow, e_neg, e_eq, e_ne, e_lti, e_ltt, e_lei, e_gti, e_gei, e_isn0, e_isb, e_isnn, e_isnb, e_in, e_nin, e_ixt, e_ixf, e_ixr, e_sqt, e_sqf, e_sqr, e_slt, e_slr, e_rvt, e_rvr, e_lnt, e_lnf, e_lns, e_lnr, e_len, e_tuple, e_list, e_inti, e_intb, e_abs, e_divmod, e_min2, e_max2, e_all, e_any, e_app, e_ext, e_rec, e_isnk, e_isbk, e_isik, e_issk, e_istk, e_isrk, e_tn, e_tb, e_ti, e_tt, e_tf, e_tr, e_sit, e_sif, e_sir, e_part, e_augA, e_augS, e_nn, e_nnb, e_nni, e_nns, e_nnt, e_nnf, e_nnr, e_tp, e_acons, e_anil]
        refine (roll (n + 6) r _ k S5 hd5 (by omega) hkp (small hkp (by omega))).then ?_
        rintro v S6 ⟨pl', rfl, a0, a1, hd6, g6⟩
        try simp -implicitDefEqProofs -dsimp only [Wp_ok, Wp_no, Wp_er, Wp_bind, Wp_some, Wp_none, Wp_guard, Wp_iteB, runDef, dSeq2, dVar, dCon, dNil, dCons, dStar, dTup, dLst, dDct0, dBin, dNeg, dTru, dIf, dNotT, dBl, dBool, dAnd, dOr, dCmp, dCmp2, dIdx, dNoPart, dPart, dSlc, dRev, dCall, dBlt, dMet, dIsi, aNm, aSub, dItSeq, dItRng, dItRng2, dItEnu, dItZip, dItEnz, dNo, sExp, sAsg, setAll, sPar, sAug, sRet, sSeq, sNil, sCnt, sFor, wipeE, new, mtTy, tyHas, List.map_cons, List.map_nil, List.length_cons, List.length_nil, List.length_map, Nat.zero_add, Nat.add_zero, Nat.reduceAdd, Nat.reduceSub, Nat.reduceMul, Nat.reduceLeDiff, Nat.reduceEqDiff, List.replicate_succ, List.replicate_zero, List.cons_append, List.nil_append, List.append_nil, List.getElem?_cons_zero, List.getElem?_cons_succ, List.getElem?_nil, List.set_cons_zero, List.set_cons_succ, if_true, if_false, ite_true, ite_false, Bool.false_eq_true, Bool.not_true, Bool.not_false, Option.map_some, Option.map_none, reduceCtorEq, beq_self_eq_true, Nat.reduceBEq, Bool.or_true, Bool.or_false, Bool.true_or, Bool.false_or, Bool.and_true, Bool.and_false, Bool.true_and, Bool.false_and, reduceIte, decide_true, decide_false, lenLim, true_and, e_addi, e_adds, e_addt, e_addl, e_subi, e_muli, e_mult, e_mull, e_fdiv, e_mod, e_pow, e_neg, e_eq, e_ne, e_lti, e_ltt, e_lei, e_gti, e_gei, e_isn0, e_isb, e_isnn, e_isnb, e_in, e_nin, e_ixt, e_ixf, e_ixr, e_sqt, e_sqf, e_sqr, e_slt, e_slr, e_rvt, e_rvr, e_lnt, e_lnf, e_lns, e_lnr, e_len, e_tuple, e_list, e_inti, e_intb, e_abs, e_divmod, e_min2, e_max2, e_all, e_any, e_app, e_ext, e_rec, e_isnk, e_isbk, e_isik, e_issk, e_istk, e_isrk, e_tn, e_tb, e_ti, e_tt, e_tf, e_tr, e_sit, e_sif, e_sir, e_part, e_augA, e_augS, e_nn, e_nnb, e_nni, e_nns, e_nnt, e_nnf, e_nnr, e_tp, e_acons, e_anil]
        refine (roll (n + 6) r _ 8 S6 hd6 (by omega) (by omega) small8).then ?_
        rintro v S7 ⟨ix, rfl, b0, b1, hd7, g7⟩
        try simp -implicitDefEqProofs -dsimp only [Wp_ok, Wp_no, Wp_er, Wp_bind, Wp_some, Wp_none, Wp_guard, Wp_iteB, runDef, dSeq2, dVar, dCon, dNil, dCons, dStar, dTup, dLst, dDct0, dBin, dNeg, dTru, dIf, dNotT, dBl, dBool, dAnd, dOr, dCmp, dCmp2, dIdx, dNoPart, dPart, dSlc, dRev, dCall, dBlt, dMet, dIsi, aNm, aSub, dItSeq, dItRng, dItRng2, dItEnu, dItZip, dItEnz, dNo, sExp, sAsg, setAll, sPar, sAug, sRet, sSeq, sNil, sCnt, sFor, wipeE, new, mtTy, tyHas, List.map_cons, List.map_nil, List.length_cons, List.length_nil, List.length_map, Nat.zero_add, Nat.add_zero, Nat.reduceAdd, Nat.reduceSub, Nat.reduceMul, Nat.reduceLeDiff, Nat.reduceEqDiff, List.replicate_succ, List.replicate_zero, List.cons_append, List.nil_append, List.append_nil, List.getElem?_cons_zero, List.getElem?_cons_succ, List.getElem?_nil, List.set_cons_zero, List.set_cons_succ, if_true, if_false, ite_true, ite_false, Bool.false_eq_true, Bool.not_true, Bool.not_false, Option.map_some, Option.map_none, reduceCtorEq, beq_self_eq_true, Nat.reduceBEq, Bool.or_true, Bool.or_false, Bool.true_or, Bool.false_or, Bool.and_true, Bool.and_false, Bool.true_and, Bool.false_and, reduceIte, decide_true, decide_false, lenLim, true_and, e_addi, e_adds, e_addt, e_addl, e_subi, e_muli, e_mult, e_mull, e_fdiv, e_mod, e_pow, e_neg, e_eq, e_ne, e_lti, e_ltt, e_lei, e_gti, e_gei, e_isn0, e_isb, e_isnn, e_isnb, e_in, e_nin, e_ixt, e_ixf, e_ixr, e_sqt, e_sqf, e_sqr, e_slt, e_slr, e_rvt, e_rvr, e_lnt, e_lnf, e_lns, e_lnr, e_len, e_tuple, e_list, e_inti, e_intb, e_abs, e_divmod, e_min2, e_max2, e_all, e_any, e_app, e_ext, e_rec, e_isnk, e_isbk, e_isik, e_issk, e_istk, e_isrk, e_tn, e_tb, e_ti, e_tt, e_tf, e_tr, e_sit, e_sif, e_sir, e_part, e_augA, e_augS, e_nn, e_nnb, e_nni, e_nns, e_nnt, e_nnf, e_nnr, e_tp, e_acons, e_anil]
        have hds7 : S7[q2]? = some (.lst (ds.map W.int)) := g7.get hq2l.2.2.2 (g6.get hq2l.2.2.2 hds)
        have hc7 : S7[q1]? = some (.lst (cs.map W.int)) := g7.get hq2l.2.2.1 (g6.get hq2l.2.2.1 hc5)
        simp -implicitDefEqProofs -dsimp only [Wp_ok, Wp_no, Wp_er, Wp_bind, Wp_some, Wp_none, Wp_guard, Wp_iteB, runDef, dSeq2, dVar, dCon, dNil, dCons, dStar, dTup, dLst, dDct0, dBin, dNeg, dTru, dIf, dNotT, dBl, dBool, dAnd, dOr, dCmp, dCmp2, dIdx, dNoPart, dPart, dSlc, dRev, dCall, dBlt, dMet, dIsi, aNm, aSub, dItSeq, dItRng, dItRng2, dItEnu, dItZip, dItEnz, dNo, sExp, sAsg, setAll, sPar, sAug, sRet, sSeq, sNil, sCnt, sFor, wipeE, new, mtTy, tyHas, List.map_cons, List.map_nil, List.length_cons, List.length_nil, List.length_map, Nat.zero_add, Nat.add_zero, Nat.reduceAdd, Nat.reduceSub, Nat.reduceMul, Nat.reduceLeDiff, Nat.reduceEqDiff, List.replicate_succ, List.replicate_zero, List.cons_append, List.nil_append, List.append_nil, List.getElem?_cons_zero, List.getElem?_cons_succ, List.getElem?_nil, List.set_cons_zero, List.set_cons_succ, if_true, if_false, ite_true, ite_false, Bool.false_eq_true, Bool.not_true, Bool.not_false, Option.map_some, Option.map_none, reduceCtorEq, beq_self_eq_true, Nat.reduceBEq, Bool.or_true, Bool.or_false, Bool.true_or, Bool.false_or, Bool.and_true, Bool.and_false, Bool.true_and, Bool.false_and, reduceIte, decide_true, decide_false, lenLim, true_and, e_addi, e_adds, e_addt, e_addl, e_subi, e_muli, e_mult, e_mull, e_fdiv, e_mod, e_pow, e_neg, e_eq, e_ne, e_lti, e_ltt, e_lei, e_gti, e_gei, e_isn0, e_isb, e_isnn, e_isnb, e_in, e_nin, e_ixt, e_ixf, e_ixr, e_sqt, e_sqf, e_sqr, e_slt, e_slr, e_rvt, e_rvr, e_lnt, e_lnf, e_lns, e_lnr, e_len, e_tuple, e_list, e_inti, e_intb, e_abs, e_divmod, e_min2, e_max2, e_all, e_any, e_app, e_ext, e_rec, e_isnk, e_isbk, e_isik, e_issk, e_istk, e_isrk, e_tn, e_tb, e_ti, e_tt, e_tf, e_tr, e_sit, e_sif, e_sir, e_part, e_augA, e_augS, e_nn, e_nnb, e_nni, e_nns, e_nnt, e_nnf, e_nnr, e_tp, e_acons, e_anil, hds7, atC a0 (show pl' < ds.length by omega), f24_ok (n + 6) b _ _ h1 h2]
        have hdg := digs_ok8 (b := b) (by omega) (ds.getD pl'.toNat 0)
        generalize digs b 8 (ds.getD pl'.toNat 0) = pg at hdg ⊢
        refine (roll (n + 6) r _ b _ (hd7.app _) (by omega) (by omega) (log_b h1 h2)).then ?_
        rintro v S8 ⟨x, rfl, x0, x1, hd8, g8⟩
        try simp -implicitDefEqProofs -dsimp only [Wp_ok, Wp_no, Wp_er, Wp_bind, Wp_some, Wp_none, Wp_guard, Wp_iteB, runDef, dSeq2, dVar, dCon, dNil, dCons, dStar, dTup, dLst, dDct0, dBin, dNeg, dTru, dIf, dNotT, dBl, dBool, dAnd, dOr, dCmp, dCmp2, dIdx, dNoPart, dPart, dSlc, dRev, dCall, dBlt, dMet, dIsi, aNm, aSub, dItSeq, dItRng, dItRng2, dItEnu, dItZip, dItEnz, dNo, sExp, sAsg, setAll, sPar, sAug, sRet, sSeq, sNil, sCnt, sFor, wipeE, new, mtTy, tyHas, List.map_cons, List.map_nil, List.length_cons, List.length_nil, List.length_map, Nat.zero_add, Nat.add_zero, Nat.reduceAdd, Nat.reduceSub, Nat.reduceMul, Nat.reduceLeDiff, Nat.reduceEqDiff, List.replicate_succ, List.replicate_zero, List.cons_append, List.nil_append, List.append_nil, List.getElem?_cons_zero, List.getElem?_cons_succ, List.getElem?_nil, List.set_cons_zero, List.set_cons_succ, if_true, if_false, ite_true, ite_false, Bool.false_eq_true, Bool.not_true, Bool.not_false, Option.map_some, Option.map_none, reduceCtorEq, beq_self_eq_true, Nat.reduceBEq, Bool.or_true, Bool.or_false, Bool.true_or, Bool.false_or, Bool.and_true, Bool.and_false, Bool.true_and, Bool.false_and, reduceIte, decide_true, decide_false, lenLim, true_and, e_addi, e_adds, e_addt, e_addl, e_subi, e_muli, e_mult, e_mull, e_fdiv, e_mod, e_pow, e_neg, e_eq, e_ne, e_lti, e_ltt, e_lei, e_gti, e_gei, e_isn0, e_isb, e_isnn, e_isnb, e_in, e_nin, e_ixt, e_ixf, e_ixr, e_sqt, e_sqf, e_sqr, e_slt, e_slr, e_rvt, e_rvr, e_lnt, e_lnf, e_lns, e_lnr, e_len, e_tuple, e_list, e_inti, e_intb, e_abs, e_divmod, e_min2, e_max2, e_all, e_any, e_app, e_ext, e_rec, e_isnk, e_isbk, e_isik, e_issk, e_istk, e_isrk, e_tn, e_tb, e_ti, e_tt, e_tf, e_tr, e_sit, e_sif, e_sir, e_part, e_augA, e_augS, e_nn, e_nnb, e_nni, e_nns, e_nnt, e_nnf, e_nnr, e_tp, e_acons, e_anil]
        have g78 : Gs r S7 S8 := (Gs.app hd7 _).trans hd7.lt g8
        have hcat : cutW (pg.map W.int) none (some ix) ++ [W.int x] ++ cutW (pg.map W.int) (some (ix + 1)) none = (pg.set ix.toNat x).map .int := by
          rw [List.append_assoc]
          exact cut_set pg ix x b0 (by have := hdg.1; omega)
        have hcl := congrArg List.length hcat
        rw [List.length_append, List.length_append, List.length_singleton, List.length_map, List.length_set, hdg.1] at hcl
        have h9 := set_ok8 (i := ix.toNat) hdg x0 x1
        obtain ⟨w0, w1⟩ := hor8 h1 h9
        refine ⟨by omega, by rw [List.length_append, List.length_singleton]; omega, ?_⟩
        rw [hcat, f25_ok (n + 6) b _ _ h1 h2 h9]
        have hds8 := g78.get hq2l.2.2.2 hds7
        have hc8 := g78.get hq2l.2.2.1 hc7
        simp -implicitDefEqProofs -dsimp only [Wp_ok, Wp_no, Wp_er, Wp_bind, Wp_some, Wp_none, Wp_guard, Wp_iteB, runDef, dSeq2, dVar, dCon, dNil, dCons, dStar, dTup, dLst, dDct0, dBin, dNeg, dTru, dIf, dNotT, dBl, dBool, dAnd, dOr, dCmp, dCmp2, dIdx, dNoPart, dPart, dSlc, dRev, dCall, dBlt, dMet, dIsi, aNm, aSub, dItSeq, dItRng, dItRng2, dItEnu, dItZip, dItEnz, dNo, sExp, sAsg, setAll, sPar, sAug, sRet, sSeq, sNil, sCnt, sFor, wipeE, new, mtTy, tyHas, List.map_cons, List.map_nil, List.length_cons, List.length_nil, List.length_map, Nat.zero_add, Nat.add_zero, Nat.reduceAdd, Nat.reduceSub, Nat.reduceMul, Nat.reduceLeDiff, Nat.reduceEqDiff, List.replicate_succ, List.replicate_zero, List.cons_append, List.nil_append, List.append_nil, List.getElem?_cons_zero, List.getElem?_cons_succ, List.getElem?_nil, List.set_cons_zero, List.set_cons_succ, if_true, if_false, ite_true, ite_false, Bool.false_eq_true, Bool.not_true, Bool.not_false, Option.map_some, Option.map_none, reduceCtorEq, beq_self_eq_true, Nat.reduceBEq, Bool.or_true, Bool.or_false, Bool.true_or, Bool.false_or, Bool.and_true, Bool.and_false, Bool.true_and, Bool.false_and, reduceIte, decide_true, decide_false, lenLim, true_and, e_addi, e_adds, e_addt, e_addl, e_subi, e_muli, e_mult, e_mull, e_fdiv, e_mod, e_pow, e_neg, e_eq, e_ne, e_lti, e_ltt, e_lei, e_gti, e_gei, e_isn0, e_isb, e_isnn, e_isnb, e_in, e_nin, e_ixt, e_ixf, e_ixr, e_sqt, e_sqf, e_sqr, e_slt, e_slr, e_rvt, e_rvr, e_lnt, e_lnf, e_lns, e_lnr, e_len, e_tuple, e_list, e_inti, e_intb, e_abs, e_divmod, e_min2, e_max2, e_all, e_any, e_app, e_ext, e_rec, e_isnk, e_isbk, e_isik, e_issk, e_istk, e_isrk, e_tn, e_tb, e_ti, e_tt, e_tf, e_tr, e_sit, e_sif, e_sir, e_part, e_augA, e_augS, e_nn, e_nnb, e_nni, e_nns, e_nnt, e_nnf, e_nnr, e_tp, e_acons, e_anil, hds8, ixN_ok a0 (show pl' < (ds.length : Nat) by omega)]
        have hl5 := hd5.lt
        refine ⟨by omega, ⟨ds.set pl'.toNat (hor b (pg.set ix.toNat x)), ?_, by rw [List.length_set]; exact hdl, ?_⟩, ?_, (hd8.set_ne hq2l.2.2.2).le (by omega), (g5.trans hr (g6.trans hl5 (g7.trans hd6.lt g78))).set_new hq2l.1, _, _, _, _, rfl⟩
        · rw [set_get hds8, List.map_set]
        · intro c hc
          rcases List.mem_or_eq_of_mem_set hc with q | q
          · exact hdr c q
          · rw [q]; exact ⟨w0, w1⟩
        · rw [List.getElem?_set_ne (Ne.symm hq2l.2.1)]
          exact hc8
      · rintro env S5 ⟨hi, ⟨ds, hds, hdl, hdr⟩, hc5, hd5, g5, x4, x6, x7, x8, rfl⟩
        rw [htn] at hd5
        have hl5 := hd5.lt
        simp -implicitDefEqProofs -dsimp only [Wp_ok, Wp_no, Wp_er, Wp_bind, Wp_some, Wp_none, Wp_guard, Wp_iteB, runDef, dSeq2, dVar, dCon, dNil, dCons, dStar, dTup, dLst, dDct0, dBin, dNeg, dTru, dIf, dNotT, dBl, dBool, dAnd, dOr, dCmp, dCmp2, dIdx, dNoPart, dPart, dSlc, dRev, dCall, dBlt, dMet, dIsi, aNm, aSub, dItSeq, dItRng, dItRng2, dItEnu, dItZip, dItEnz, dNo, sExp, sAsg, setAll, sPar, sAug, sRet, sSeq, sNil, sCnt, sFor, wipeE, new, mtTy, tyHas, List.map_cons, List.map_nil, List.length_cons, List.length_nil, List.length_map, Nat.zero_add, Nat.add_zero, Nat.reduceAdd, Nat.reduceSub, Nat.reduceMul, Nat.reduceLeDiff, Nat.reduceEqDiff, List.replicate_succ, List.replicate_zero, List.cons_append, List.nil_append, List.append_nil, List.getElem?_cons_zero, List.getElem?_cons_succ, List.getElem?_nil, List.set_cons_zero, List.set_cons_succ, if_true, if_false, ite_true, ite_false, Bool.false_eq_true, Bool.not_true, Bool.not_false, Option.map_some, Option.map_none, reduceCtorEq, beq_self_eq_true, Nat.reduceBEq, Bool.or_true, Bool.or_false, Bool.true_or, Bool.false_or, Bool.and_true, Bool.and_false, Bool.true_and, Bool.false_and, reduceIte, decide_true, decide_false, lenLim, true_and, e_addi, e_adds, e_addt, e_addl, e_subi, e_muli, e_mult, e_mull, e_fdiv, e_mod, e_pow, e_neg, e_eq, e_ne, e_lti, e_ltt, e_lei, e_gti, e_gei, e_isn0, e_isb, e_isnn, e_isnb, e_in, e_nin, e_ixt, e_ixf, e_ixr, e_sqt, e_sqf, e_sqr, e_slt, e_slr, e_rvt, e_rvr, e_lnt, e_lnf, e_lns, e_lnr, e_len, e_tuple, e_list, e_inti, e_intb, e_abs, e_divmod, e_min2, e_max2, e_all, e_any, e_app, e_ext, e_rec, e_isnk, e_isbk, e_isik, e_issk, e_istk, e_isrk, e_tn, e_tb, e_ti, e_tt, e_tf, e_tr, e_sit, e_sif, e_sir, e_part, e_augA, e_augS, e_nn, e_nnb, e_nni, e_nns, e_nnt, e_nnf, e_nnr, e_tp, e_acons, e_anil, hc5, dLc, Wp_noErr_eq]
        have hcc : okC b cs := ⟨by omega, hrg⟩
        have hcd : okC b ds := ⟨by omega, hdr⟩
        have pgE : ∀ (cs : List Int) (env : En) (q : Nat) (S' : Sto), cs.length ≤ 100 → S'[q]? = some (.lst (cs.map .int)) → env[1]? = some (some (.int b)) → 11 ≤ env.length → ∃ m, lcLoop [(q, cs.map .int)] (aNm 10) (dBool true) (dCall 24 (dCons (dVar 1) (dCons (dVar 10) dNil))) (callF Dd (n + 7)) env (cs.map .int) [] S' = .ok (pgs b cs) (S' ++ m) := by
          intro cs env q S' hlen hq he hel
          obtain ⟨m, e⟩ := lc_grow (cl := callF Dd (n + 7)) (env := env) (j := 10) (e := dCall 24 (dCons (dVar 1) (dCons (dVar 10) dNil))) (f := fun w => match w with
            | .int c => .tup ((digs b 8 c).map .int)
            | _ => .non) (chk := [(q, cs.map .int)]) (cs.map .int) [] S' (seqI_chk0 (I := ⟨[(q, cs.map .int)], cs.map .int⟩) (w := .ref q) (by
              show (match S'[q]? with
                | some (O.lst ws) => some (⟨[(q, ws)], ws⟩ : Its)
                | _ => none) = _
              rw [hq])) (by rw [List.length_map, lenLim]; show 0 + cs.length ≤ _; omega) (fun w hw S2 _ => by
              obtain ⟨c, _, rfl⟩ := List.mem_map.mp hw
              have e1 : (env.set 10 (some (W.int c)))[1]? = some (some (.int b)) := by rw [List.getElem?_set_ne (by omega)]; exact he
              have e10 : (env.set 10 (some (W.int c)))[10]? = some (some (.int c)) := List.getElem?_set_self (by omega)
              have : Gr (dCall 24 (dCons (dVar 1) (dCons (dVar 10) dNil)) (callF Dd (n + 7)) (env.set 10 (some (W.int c))) S2) S2 (.tup ((digs b 8 c).map .int)) := by
                apply Gr.of
                simp -implicitDefEqProofs -dsimp only [Wp_ok, Wp_no, Wp_er, Wp_bind, Wp_some, Wp_none, Wp_guard, Wp_iteB, runDef, dSeq2, dVar, dCon, dNil, dCons, dStar, dTup, dLst, dDct0, dBin, dNeg, dTru, dIf, dNotT, dBl, dBool, dAnd, dOr, dCmp, dCmp2, dIdx, dNoPart, dPart, dSlc, dRev, dCall, dBlt, dMet, dIsi, aNm, aSub, dItSeq, dItRng, dItRng2, dItEnu, dItZip, dItEnz, dNo, sExp, sAsg, setAll, sPar, sAug, sRet, sSeq, sNil, sCnt, sFor, wipeE, new, mtTy, tyHas, List.map_cons, List.map_nil, List.length_cons, List.length_nil, List.length_map, Nat.zero_add, Nat.add_zero, Nat.reduceAdd, Nat.reduceSub, Nat.reduceMul, Nat.reduceLeDiff, Nat.reduceEqDiff, List.replicate_succ, List.replicate_zero, List.cons_append, List.nil_append, List.append_nil, List.getElem?_cons_zero, List.getElem?_cons_succ, List.getElem?_nil, List.set_cons_zero, List.set_cons_succ, if_true, if_false, ite_true, ite_false, Bool.false_eq_true, Bool.not_true, Bool.not_false, Option.map_some, Option.map_none, reduceCtorEq, beq_self_eq_true, Nat.reduceBEq, Bool.or_true, Bool.or_false, Bool.true_or, Bool.false_or, Bool.and_true, Bool.and_false, Bool.true_and, Bool.false_and, reduceIte, decide_true, decide_false, lenLim, true_and, e_addi, e_adds, e_addt, e_addl, e_subi, e_muli, e_mult, e_mull, e_fdiv, e_mod, e_pow, e_neg, e_eq, e_ne, e_lti, e_ltt, e_lei, e_gti, e_gei, e_isn0, e_isb, e_isnn, e_isnb, e_in, e_nin, e_ixt, e_ixf, e_ixr, e_sqt, e_sqf, e_sqr, e_slt, e_slr, e_rvt, e_rvr, e_lnt, e_lnf, e_lns, e_lnr, e_len, e_tuple, e_list, e_inti, e_intb, e_abs, e_divmod, e_min2, e_max2, e_all, e_any, e_app, e_ext, e_rec, e_isnk, e_isbk, e_isik, e_issk, e_istk, e_isrk, e_tn, e_tb, e_ti, e_tt, e_tf, e_tr, e_sit, e_sif, e_sir, e_part, e_augA, e_augS, e_nn, e_nnb, e_nni, e_nns, e_nnt, e_nnf, e_nnr, e_tp, e_acons, e_anil, e1, e10, f24_ok (n + 6) b c _ h1 h2]
                exact ⟨_, rfl⟩
              exact this)
          refine ⟨m, ?_⟩
          rw [e, List.nil_append, List.map_map]
          rfl
        obtain ⟨m1, e1⟩ := pgE cs [some (.ref r), some (.int b), some (.int k), some (.ref q1), x4, some (.ref q2), x6, x7, x8, none, none, none, none, none, none] q1 S5 hcc.1 hc5 rfl (by simp)
        refine Wp.of_eq e1 ?_
        have hdsA : (S5 ++ m1 ++ [O.lst (pgs b cs)])[q2]? = some (.lst (ds.map .int)) := get_app (get_app hds _) _
        obtain ⟨q3, eq3⟩ : ∃ q3, q3 = (S5 ++ m1).length := ⟨_, rfl⟩
        simp -implicitDefEqProofs -dsimp only [Wp_ok, Wp_no, Wp_er, Wp_bind, Wp_some, Wp_none, Wp_guard, Wp_iteB, runDef, dSeq2, dVar, dCon, dNil, dCons, dStar, dTup, dLst, dDct0, dBin, dNeg, dTru, dIf, dNotT, dBl, dBool, dAnd, dOr, dCmp, dCmp2, dIdx, dNoPart, dPart, dSlc, dRev, dCall, dBlt, dMet, dIsi, aNm, aSub, dItSeq, dItRng, dItRng2, dItEnu, dItZip, dItEnz, dNo, sExp, sAsg, setAll, sPar, sAug, sRet, sSeq, sNil, sCnt, sFor, wipeE, new, mtTy, tyHas, List.map_cons, List.map_nil, List.length_cons, List.length_nil, List.length_map, Nat.zero_add, Nat.add_zero, Nat.reduceAdd, Nat.reduceSub, Nat.reduceMul, Nat.reduceLeDiff, Nat.reduceEqDiff, List.replicate_succ, List.replicate_zero, List.cons_append, List.nil_append, List.append_nil, List.getElem?_cons_zero, List.getElem?_cons_succ, List.getElem?_nil, List.set_cons_zero, List.set_cons_succ, if_true, if_false, ite_true, ite_false, Bool.false_eq_true, Bool.not_true, Bool.not_false, Option.map_some, Option.map_none, reduceCtorEq, beq_self_eq_true, Nat.reduceBEq, Bool.or_true, Bool.or_false, Bool.true_or, Bool.false_or, Bool.and_true, Bool.and_false, Bool.true_and, Bool.false_and, reduceIte, decide_true, decide_false, lenLim, true_and, e_addi, e_adds, e_addt, e_addl, e_subi, e_muli, e_mult, e_mull, e_fdiv, e_mod, e_pow, e_neg, e_eq, e_ne, e_lti, e_ltt, e_lei, e_gti, e_gei, e_isn0, e_isb, e_isnn, e_isnb, e_in, e_nin, e_ixt, e_ixf, e_ixr, e_sqt, e_sqf, e_sqr, e_slt, e_slr, e_rvt, e_rvr, e_lnt, e_lnf, e_lns, e_lnr, e_len, e_tuple, e_list, e_inti, e_intb, e_abs, e_divmod, e_min2, e_max2, e_all, e_any, e_app, e_ext, e_rec, e_isnk, e_isbk, e_isik, e_issk, e_istk, e_isrk, e_tn, e_tb, e_ti, e_tt, e_tf, e_tr, e_sit, e_sif, e_sir, e_part, e_augA, e_augS, e_nn, e_nnb, e_nni, e_nns, e_nnt, e_nnf, e_nnr, e_tp, e_acons, e_anil, dLc, Wp_noErr_eq, hdsA, ← eq3]
        obtain ⟨m2, e2⟩ := pgE ds [some (.ref r), some (.int b), some (.int k), some (.ref q1), x4, some (.ref q2), x6, x7, x8, some (.ref q3), none, none, none, none, none] q2 (S5 ++ m1 ++ [O.lst (pgs b cs)]) hcd.1 hdsA rfl (by simp)
        refine Wp.of_eq e2 ?_
        have hq3A : (S5 ++ m1 ++ [O.lst (pgs b cs)])[q3]? = some (.lst (pgs b cs)) := by rw [eq3]; exact at_last _ _
        obtain ⟨q4, eq4⟩ : ∃ q4, q4 = (S5 ++ m1 ++ [O.lst (pgs b cs)] ++ m2).length := ⟨_, rfl⟩
        have hq4A : (S5 ++ m1 ++ [O.lst (pgs b cs)] ++ m2 ++ [O.lst (pgs b ds)])[q4]? = some (.lst (pgs b ds)) := by rw [eq4]; exact at_last _ _
        simp -implicitDefEqProofs -dsimp only [Wp_ok, Wp_no, Wp_er, Wp_bind, Wp_some, Wp_none, Wp_guard, Wp_iteB, runDef, dSeq2, dVar, dCon, dNil, dCons, dStar, dTup, dLst, dDct0, dBin, dNeg, dTru, dIf, dNotT, dBl, dBool, dAnd, dOr, dCmp, dCmp2, dIdx, dNoPart, dPart, dSlc, dRev, dCall, dBlt, dMet, dIsi, aNm, aSub, dItSeq, dItRng, dItRng2, dItEnu, dItZip, dItEnz, dNo, sExp, sAsg, setAll, sPar, sAug, sRet, sSeq, sNil, sCnt, sFor, wipeE, new, mtTy, tyHas, List.map_cons, List.map_nil, List.length_cons, List.length_nil, List.length_map, Nat.zero_add, Nat.add_zero, Nat.reduceAdd, Nat.reduceSub, Nat.reduceMul, Nat.reduceLeDiff, Nat.reduceEqDiff, List.replicate_succ, List.replicate_zero, List.cons_append, List.nil_append, List.append_nil, List.getElem?_cons_zero, List.getElem?_cons_succ, List.getElem?_nil, List.set_cons_zero, List.set_cons_succ, if_true, if_false, ite_true, ite_false, Bool.false_eq_true, Bool.not_true, Bool.not_false, Option.map_some, Option.map_none, reduceCtorEq, beq_self_eq_true, Nat.reduceBEq, Bool.or_true, Bool.or_false, Bool.true_or, Bool.false_or, Bool.and_true, Bool.and_false, Bool.true_and, Bool.false_and, reduceIte, decide_true, decide_false, lenLim, true_and, e_addi, e_adds, e_addt, e_addl, e_subi, e_muli, e_mult, e_mull, e_fdiv, e_mod, e_pow, e_neg, e_eq, e_ne, e_lti, e_ltt, e_lei, e_gti, e_gei, e_isn0, e_isb, e_isnn, e_isnb, e_in, e_nin, e_ixt, e_ixf, e_ixr, e_sqt, e_sqf, e_sqr, e_slt, e_slr, e_rvt, e_rvr, e_lnt, e_lnf, e_lns, e_lnr, e_len, e_tuple, e_list, e_inti, e_intb, e_abs, e_divmod, e_min2, e_max2, e_all, e_any, e_app, e_ext, e_rec, e_isnk, e_isbk, e_isik, e_issk, e_istk, e_isrk, e_tn, e_tb, e_ti, e_tt, e_tf, e_tr, e_sit, e_sif, e_sir, e_part, e_augA, e_augS, e_nn, e_nnb, e_nni, e_nns, e_nnt, e_nnf, e_nnr, e_tp, e_acons, e_anil, ← eq4, rngK k0 (show k ≤ 1000 by omega)]
        obtain ⟨S9, eS9⟩ : ∃ S9, S9 = S5 ++ m1 ++ [O.lst (pgs b cs)] ++ m2 ++ [O.lst (pgs b ds)] ++ [O.lst []] := ⟨_, rfl⟩
        have h93 : S9[q3]? = some (.lst (pgs b cs)) := by rw [eS9]; exact get_app (get_app (get_app hq3A _) _) _
        have h94 : S9[q4]? = some (.lst (pgs b ds)) := by rw [eS9]; exact get_app hq4A _
        have h91 : S9[q1]? = some (.lst (cs.map .int)) := by rw [eS9]; exact get_app (get_app (get_app (get_app (get_app hc5 _) _) _) _) _
        have h92 : S9[q2]? = some (.lst (ds.map .int)) := by rw [eS9]; exact get_app (get_app (get_app hdsA _) _) _
        have hd9 : Dc r (m + 20) S9 := by rw [eS9]; exact (((((hd5.le (by omega)).app _).app _).app _).app _).app _
        have g9 : Gs r S S9 := by
          refine g5.trans hr ?_
          rw [eS9]
          simp only [List.append_assoc]
          exact .app hd5 _
        have h95 : S9[(S5 ++ m1 ++ [O.lst (pgs b cs)] ++ m2 ++ [O.lst (pgs b ds)]).length]? = some (.lst []) := by rw [eS9]; exact at_last _ _
        rw [← eS9]
        generalize (S5 ++ m1 ++ [O.lst (pgs b cs)] ++ m2 ++ [O.lst (pgs b ds)]).length = q5 at h95 ⊢
        clear eS9 hq4A hq3A hdsA e1 e2 eq3 eq4
        refine Wp_for (fun i env S' => i ≤ k.toNat ∧ (∃ q5 : Nat, S'[q5]? = some (.lst (dnn b cs ds i)) ∧ (∃ x6 x7, env = [some (.ref r), some (.int b), some (.int k), some (.ref q1), x4, some (.ref q2), x6, x7, x8, some (.ref q3), none, some (.ref q4), some (.ref q5), none, none])) ∧ ∃ m', S' = S9 ++ m')
          ⟨by omega, ⟨q5, h95, x6, x7, rfl⟩, [], by simp⟩ (fun _ _ _ _ _ => rfl) ?_ ?_
        · rintro i w env S' hw ⟨hi, ⟨q5, hq5, y6, y7, rfl⟩, m', rfl⟩
          have hik : i < k.toNat := by
            have := (List.getElem?_eq_some_iff.mp hw).1
            rwa [hkn] at this
          have ew : w = .int (i : Nat) := by
            rw [rngW_get 1 k.toNat 0 i hik] at hw
            have := (Option.some.inj hw).symm
            rw [this]
            congr 1
            omega
          subst ew
          have a3 := get_app h93 m'
          have a4 := get_app h94 m'
          have b3 : L2.atI (pgs b cs) (i : Nat) = some (.tup ((digs b 8 (cs.getD i 0)).map .int)) := at_ok (by omega) (by
            unfold pgs
            rw [Int.toNat_natCast, List.getElem?_map, List.getElem?_eq_getElem (show i < cs.length by omega)]
            simp [List.getD, show i < cs.length by omega])
          have b4 : L2.atI (pgs b ds) (i : Nat) = some (.tup ((digs b 8 (ds.getD i 0)).map .int)) := at_ok (by omega) (by
            unfold pgs
            rw [Int.toNat_natCast, List.getElem?_map, List.getElem?_eq_getElem (show i < ds.length by omega)]
            simp [List.getD, show i < ds.length by omega])
          have hA := digs_len b 8 (cs.getD i 0)
          have hB := digs_len b 8 (ds.getD i 0)
          have hdl2 := dnn_len b cs ds i
          simp -implicitDefEqProofs -dsimp only [Wp_ok, Wp_no, Wp_er, Wp_bind, Wp_some, Wp_none, Wp_guard, Wp_iteB, runDef, dSeq2, dVar, dCon, dNil, dCons, dStar, dTup, dLst, dDct0, dBin, dNeg, dTru, dIf, dNotT, dBl, dBool, dAnd, dOr, dCmp, dCmp2, dIdx, dNoPart, dPart, dSlc, dRev, dCall, dBlt, dMet, dIsi, aNm, aSub, dItSeq, dItRng, dItRng2, dItEnu, dItZip, dItEnz, dNo, sExp, sAsg, setAll, sPar, sAug, sRet, sSeq, sNil, sCnt, sFor, wipeE, new, mtTy, tyHas, List.map_cons, List.map_nil, List.length_cons, List.length_nil, List.length_map, Nat.zero_add, Nat.add_zero, Nat.reduceAdd, Nat.reduceSub, Nat.reduceMul, Nat.reduceLeDiff, Nat.reduceEqDiff, List.replicate_succ, List.replicate_zero, List.cons_append, List.nil_append, List.append_nil, List.getElem?_cons_zero, List.getElem?_cons_succ, List.getElem?_nil, List.set_cons_zero, List.set_cons_succ, if_true, if_false, ite_true, ite_false, Bool.false_eq_true, Bool.not_true, Bool.not_false, Option.map_some, Option.map_none, reduceCtorEq, beq_self_eq_true, Nat.reduceBEq, Bool.or_true, Bool.or_false, Bool.true_or, Bool.false_or, Bool.and_true, Bool.and_false, Bool.true_and, Bool.false_and, reduceIte, decide_true, decide_false, lenLim, true_and, e_addi, e_adds, e_addt, e_addl, e_subi, e_muli, e_mult, e_mull, e_fdiv, e_mod, e_pow, e_neg, e_eq, e_ne, e_lti, e_ltt, e_lei, e_gti, e_gei, e_isn0, e_isb, e_isnn, e_isnb, e_in, e_nin, e_ixt, e_ixf, e_ixr, e_sqt, e_sqf, e_sqr, e_slt, e_slr, e_rvt, e_rvr, e_lnt, e_lnf, e_lns, e_lnr, e_len, e_tuple, e_list, e_inti, e_intb, e_abs, e_divmod, e_min2, e_max2, e_all, e_any, e_app, e_ext, e_rec, e_isnk, e_isbk, e_isik, e_issk, e_istk, e_isrk, e_tn, e_tb, e_ti, e_tt, e_tf, e_tr, e_sit, e_sif, e_sir, e_part, e_augA, e_augS, e_nn, e_nnb, e_nni, e_nns, e_nnt, e_nnf, e_nnr, e_tp, e_acons, e_anil, dLc, Wp_noErr_eq, rng8_eq]
          generalize hA' : digs b 8 (cs.getD i 0) = as at hA b3
          generalize hB' : digs b 8 (ds.getD i 0) = bs at hB b4
          refine Wp.of_eq (lc_filt (p := pd as bs) (f := fun w => .tup [.int i, w]) rfl rng8 [] (by decide) ?_) ?_
          · rintro w hw
            obtain ⟨j, hj, rfl⟩ := in_rng8 hw
            constructor
            · apply eq_ofB
              simp -implicitDefEqProofs -dsimp only [Wp_ok, Wp_no, Wp_er, Wp_bind, Wp_some, Wp_none, Wp_guard, Wp_iteB, runDef, dSeq2, dVar, dCon, dNil, dCons, dStar, dTup, dLst, dDct0, dBin, dNeg, dTru, dIf, dNotT, dBl, dBool, dAnd, dOr, dCmp, dCmp2, dIdx, dNoPart, dPart, dSlc, dRev, dCall, dBlt, dMet, dIsi, aNm, aSub, dItSeq, dItRng, dItRng2, dItEnu, dItZip, dItEnz, dNo, sExp, sAsg, setAll, sPar, sAug, sRet, sSeq, sNil, sCnt, sFor, wipeE, new, mtTy, tyHas, List.map_cons, List.map_nil, List.length_cons, List.length_nil, List.length_map, Nat.zero_add, Nat.add_zero, Nat.reduceAdd, Nat.reduceSub, Nat.reduceMul, Nat.reduceLeDiff, Nat.reduceEqDiff, List.replicate_succ, List.replicate_zero, List.cons_append, List.nil_append, List.append_nil, List.getElem?_cons_zero, List.getElem?_cons_succ, List.getElem?_nil, List.set_cons_zero, List.set_cons_succ, if_true, if_false, ite_true, ite_false, Bool.false_eq_true, Bool.not_true, Bool.not_false, Option.map_some, Option.map_none, reduceCtorEq, beq_self_eq_true, Nat.reduceBEq, Bool.or_true, Bool.or_false, Bool.true_or, Bool.false_or, Bool.and_true, Bool.and_false, Bool.true_and, Bool.false_and, reduceIte, decide_true, decide_false, lenLim, true_and, e_addi, e_adds, e_addt, e_addl, e_subi, e_muli, e_mult, e_mull, e_fdiv, e_mod, e_pow, e_neg, e_eq, e_ne, e_lti, e_ltt, e_lei, e_gti, e_gei, e_isn0, e_isb, e_isnn, e_isnb, e_in, e_nin, e_ixt, e_ixf, e_ixr, e_sqt, e_sqf, e_sqr, e_slt, e_slr, e_rvt, e_rvr, e_lnt, e_lnf, e_lns, e_lnr, e_len, e_tuple, e_list, e_inti, e_intb, e_abs, e_divmod, e_min2, e_max2, e_all, e_any, e_app, e_ext, e_rec, e_isnk, e_isbk, e_isik, e_issk, e_istk, e_isrk, e_tn, e_tb, e_ti, e_tt, e_tf, e_tr, e_sit, e_sif, e_sir, e_part, e_augA, e_augS, e_nn, e_nnb, e_nni, e_nns, e_nnt, e_nnf, e_nnr, e_tp, e_acons, e_anil, a3, a4, b3, b4, at8 hA hj, at8 hB hj, eqW_int]
              simp [pd]
            · apply eq_ofB
              simp -implicitDefEqProofs -dsimp only [Wp_ok, Wp_no, Wp_er, Wp_bind, Wp_some, Wp_none, Wp_guard, Wp_iteB, runDef, dSeq2, dVar, dCon, dNil, dCons, dStar, dTup, dLst, dDct0, dBin, dNeg, dTru, dIf, dNotT, dBl, dBool, dAnd, dOr, dCmp, dCmp2, dIdx, dNoPart, dPart, dSlc, dRev, dCall, dBlt, dMet, dIsi, aNm, aSub, dItSeq, dItRng, dItRng2, dItEnu, dItZip, dItEnz, dNo, sExp, sAsg, setAll, sPar, sAug, sRet, sSeq, sNil, sCnt, sFor, wipeE, new, mtTy, tyHas, List.map_cons, List.map_nil, List.length_cons, List.length_nil, List.length_map, Nat.zero_add, Nat.add_zero, Nat.reduceAdd, Nat.reduceSub, Nat.reduceMul, Nat.reduceLeDiff, Nat.reduceEqDiff, List.replicate_succ, List.replicate_zero, List.cons_append, List.nil_append, List.append_nil, List.getElem?_cons_zero, List.getElem?_cons_succ, List.getElem?_nil, List.set_cons_zero, List.set_cons_succ, if_true, if_false, ite_true, ite_false, Bool.false_eq_true, Bool.not_true, Bool.not_false, Option.map_some, Option.map_none, reduceCtorEq, beq_self_eq_true, Nat.reduceBEq, Bool.or_true, Bool.or_false, Bool.true_or, Bool.false_or, Bool.and_true, Bool.and_false, Bool.true_and, Bool.false_and, reduceIte, decide_true, decide_false, lenLim, true_and, e_addi, e_adds, e_addt, e_addl, e_subi, e_muli, e_mult, e_mull, e_fdiv, e_mod, e_pow, e_neg, e_eq, e_ne, e_lti, e_ltt, e_lei, e_gti, e_gei, e_isn0, e_isb, e_isnn, e_isnb, e_in, e_nin, e_ixt, e_ixf, e_ixr, e_sqt, e_sqf, e_sqr, e_slt, e_slr, e_rvt, e_rvr, e_lnt, e_lnf, e_lns, e_lnr, e_len, e_tuple, e_list, e_inti, e_intb, e_abs, e_divmod, e_min2, e_max2, e_all, e_any, e_app, e_ext, e_rec, e_isnk, e_isbk, e_isik, e_issk, e_istk, e_isrk, e_tn, e_tb, e_ti, e_tt, e_tf, e_tr, e_sit, e_sif, e_sir, e_part, e_augA, e_augS, e_nn, e_nnb, e_nni, e_nns, e_nnt, e_nnf, e_nnr, e_tp, e_acons, e_anil]
              try simp
          · have g3 : (dnn b cs ds i).length + (dif i as bs).length ≤ 16777216 := by
              have := dif_len i as bs
              omega
            have hq5' : (S9 ++ m' ++ [O.lst (dif i as bs)])[q5]? = some (.lst (dnn b cs ds i)) := get_app hq5 _
            rw [show [] ++ (rng8.filter (pd as bs)).map (fun w => W.tup [W.int (i : Nat), w]) = dif i as bs from rfl]
            simp -implicitDefEqProofs -dsimp only [Wp_ok, Wp_no, Wp_er, Wp_bind, Wp_some, Wp_none, Wp_guard, Wp_iteB, runDef, dSeq2, dVar, dCon, dNil, dCons, dStar, dTup, dLst, dDct0, dBin, dNeg, dTru, dIf, dNotT, dBl, dBool, dAnd, dOr, dCmp, dCmp2, dIdx, dNoPart, dPart, dSlc, dRev, dCall, dBlt, dMet, dIsi, aNm, aSub, dItSeq, dItRng, dItRng2, dItEnu, dItZip, dItEnz, dNo, sExp, sAsg, setAll, sPar, sAug, sRet, sSeq, sNil, sCnt, sFor, wipeE, new, mtTy, tyHas, List.map_cons, List.map_nil, List.length_cons, List.length_nil, List.length_map, Nat.zero_add, Nat.add_zero, Nat.reduceAdd, Nat.reduceSub, Nat.reduceMul, Nat.reduceLeDiff, Nat.reduceEqDiff, List.replicate_succ, List.replicate_zero, List.cons_append, List.nil_append, List.append_nil, List.getElem?_cons_zero, List.getElem?_cons_succ, List.getElem?_nil, List.set_cons_zero, List.set_cons_succ, if_true, if_false, ite_true, ite_false, Bool.false_eq_true, Bool.not_true, Bool.not_false, Option.map_some, Option.map_none, reduceCtorEq, beq_self_eq_true, Nat.reduceBEq, Bool.or_true, Bool.or_false, Bool.true_or, Bool.false_or, Bool.and_true, Bool.and_false, Bool.true_and, Bool.false_and, reduceIte, decide_true, decide_false, lenLim, true_and, e_addi, e_adds, e_addt, e_addl, e_subi, e_muli, e_mult, e_mull, e_fdiv, e_mod, e_pow, e_neg, e_eq, e_ne, e_lti, e_ltt, e_lei, e_gti, e_gei, e_isn0, e_isb, e_isnn, e_isnb, e_in, e_nin, e_ixt, e_ixf, e_ixr, e_sqt, e_sqf, e_sqr, e_slt, e_slr, e_rvt, e_rvr, e_lnt, e_lnf, e_lns, e_lnr, e_len, e_tuple, e_list, e_inti, e_intb, e_abs, e_divmod, e_min2, e_max2, e_all, e_any, e_app, e_ext, e_rec, e_isnk, e_isbk, e_isik, e_issk, e_istk, e_isrk, e_tn, e_tb, e_ti, e_tt, e_tf, e_tr, e_sit, e_sif, e_sir, e_part, e_augA, e_augS, e_nn, e_nnb, e_nni, e_nns, e_nnt, e_nnf, e_nnr, e_tp, e_acons, e_anil, at_last, hq5', g3]
            refine ⟨by omega, ⟨(S9 ++ m' ++ [O.lst (dif i as bs)]).length, ?_, _, _, rfl⟩, m' ++ [O.lst (dif i as bs)] ++ [O.lst (dnn b cs ds i ++ dif i as bs)], ?_⟩
            · rw [show dnn b cs ds (i + 1) = dnn b cs ds i ++ dif i as bs by rw [dnn, hA', hB']]
              exact at_last _ _
            · simp only [List.append_assoc]
        · rintro env S' ⟨hi, ⟨q5, hq5, y6, y7, rfl⟩, m', rfl⟩
          rw [hkn] at hq5
          have c1 := get_app h91 m'
          have c3 := get_app h93 m'
          simp -implicitDefEqProofs -dsimp only [Wp_ok, Wp_no, Wp_er, Wp_bind, Wp_some, Wp_none, Wp_guard, Wp_iteB, runDef, dSeq2, dVar, dCon, dNil, dCons, dStar, dTup, dLst, dDct0, dBin, dNeg, dTru, dIf, dNotT, dBl, dBool, dAnd, dOr, dCmp, dCmp2, dIdx, dNoPart, dPart, dSlc, dRev, dCall, dBlt, dMet, dIsi, aNm, aSub, dItSeq, dItRng, dItRng2, dItEnu, dItZip, dItEnz, dNo, sExp, sAsg, setAll, sPar, sAug, sRet, sSeq, sNil, sCnt, sFor, wipeE, new, mtTy, tyHas, List.map_cons, List.map_nil, List.length_cons, List.length_nil, List.length_map, Nat.zero_add, Nat.add_zero, Nat.reduceAdd, Nat.reduceSub, Nat.reduceMul, Nat.reduceLeDiff, Nat.reduceEqDiff, List.replicate_succ, List.replicate_zero, List.cons_append, List.nil_append, List.append_nil, List.getElem?_cons_zero, List.getElem?_cons_succ, List.getElem?_nil, List.set_cons_zero, List.set_cons_succ, if_true, if_false, ite_true, ite_false, Bool.false_eq_true, Bool.not_true, Bool.not_false, Option.map_some, Option.map_none, reduceCtorEq, beq_self_eq_true, Nat.reduceBEq, Bool.or_true, Bool.or_false, Bool.true_or, Bool.false_or, Bool.and_true, Bool.and_false, Bool.true_and, Bool.false_and, reduceIte, decide_true, decide_false, lenLim, true_and, e_addi, e_adds, e_addt, e_addl, e_subi, e_muli, e_mult, e_mull, e_fdiv, e_mod, e_pow, e_neg, e_eq, e_ne, e_lti, e_ltt, e_lei, e_gti, e_gei, e_isn0, e_isb, e_isnn, e_isnb, e_in, e_nin, e_ixt, e_ixf, e_ixr, e_sqt, e_sqf, e_sqr, e_slt, e_slr, e_rvt, e_rvr, e_lnt, e_lnf, e_lns, e_lnr, e_len, e_tuple, e_list, e_inti, e_intb, e_abs, e_divmod, e_min2, e_max2, e_all, e_any, e_app, e_ext, e_rec, e_isnk, e_isbk, e_isik, e_issk, e_istk, e_isrk, e_tn, e_tb, e_ti, e_tt, e_tf, e_tr, e_sit, e_sif, e_sir, e_part, e_augA, e_augS, e_nn, e_nnb, e_nni, e_nns, e_nnt, e_nnf, e_nnr, e_tp, e_acons, e_anil, c1]
          refine (f19_ok (n + 2) b cs _ h1 h2 hcc).wp fun m3 => ?_
          simp -implicitDefEqProofs -dsimp only [Wp_ok, Wp_no, Wp_er, Wp_bind, Wp_some, Wp_none, Wp_guard, Wp_iteB, runDef, dSeq2, dVar, dCon, dNil, dCons, dStar, dTup, dLst, dDct0, dBin, dNeg, dTru, dIf, dNotT, dBl, dBool, dAnd, dOr, dCmp, dCmp2, dIdx, dNoPart, dPart, dSlc, dRev, dCall, dBlt, dMet, dIsi, aNm, aSub, dItSeq, dItRng, dItRng2, dItEnu, dItZip, dItEnz, dNo, sExp, sAsg, setAll, sPar, sAug, sRet, sSeq, sNil, sCnt, sFor, wipeE, new, mtTy, tyHas, List.map_cons, List.map_nil, List.length_cons, List.length_nil, List.length_map, Nat.zero_add, Nat.add_zero, Nat.reduceAdd, Nat.reduceSub, Nat.reduceMul, Nat.reduceLeDiff, Nat.reduceEqDiff, List.replicate_succ, List.replicate_zero, List.cons_append, List.nil_append, List.append_nil, List.getElem?_cons_zero, List.getElem?_cons_succ, List.getElem?_nil, List.set_cons_zero, List.set_cons_succ, if_true, if_false, ite_true, ite_false, Bool.false_eq_true, Bool.not_true, Bool.not_false, Option.map_some, Option.map_none, reduceCtorEq, beq_self_eq_true, Nat.reduceBEq, Bool.or_true, Bool.or_false, Bool.true_or, Bool.false_or, Bool.and_true, Bool.and_false, Bool.true_and, Bool.false_and, reduceIte, decide_true, decide_false, lenLim, true_and, e_addi, e_adds, e_addt, e_addl, e_subi, e_muli, e_mult, e_mull, e_fdiv, e_mod, e_pow, e_neg, e_eq, e_ne, e_lti, e_ltt, e_lei, e_gti, e_gei, e_isn0, e_isb, e_isnn, e_isnb, e_in, e_nin, e_ixt, e_ixf, e_ixr, e_sqt, e_sqf, e_sqr, e_slt, e_slr, e_rvt, e_rvr, e_lnt, e_lnf, e_lns, e_lnr, e_len, e_tuple, e_list, e_inti, e_intb, e_abs, e_divmod, e_min2, e_max2, e_all, e_any, e_app, e_ext, e_rec, e_isnk, e_isbk, e_isik, e_issk, e_istk, e_isrk, e_tn, e_tb, e_ti, e_tt, e_tf, e_tr, e_sit, e_sif, e_sir, e_part, e_augA, e_augS, e_nn, e_nnb, e_nni, e_nns, e_nnt, e_nnf, e_nnr, e_tp, e_acons, e_anil, get_app c3 m3, pgs_form, eqW_tups]
          simp -implicitDefEqProofs -dsimp only [Wp_ok, Wp_no, Wp_er, Wp_bind, Wp_some, Wp_none, Wp_guard, Wp_iteB, runDef, dSeq2, dVar, dCon, dNil, dCons, dStar, dTup, dLst, dDct0, dBin, dNeg, dTru, dIf, dNotT, dBl, dBool, dAnd, dOr, dCmp, dCmp2, dIdx, dNoPart, dPart, dSlc, dRev, dCall, dBlt, dMet, dIsi, aNm, aSub, dItSeq, dItRng, dItRng2, dItEnu, dItZip, dItEnz, dNo, sExp, sAsg, setAll, sPar, sAug, sRet, sSeq, sNil, sCnt, sFor, wipeE, new, mtTy, tyHas, List.map_cons, List.map_nil, List.length_cons, List.length_nil, List.length_map, Nat.zero_add, Nat.add_zero, Nat.reduceAdd, Nat.reduceSub, Nat.reduceMul, Nat.reduceLeDiff, Nat.reduceEqDiff, List.replicate_succ, List.replicate_zero, List.cons_append, List.nil_append, List.append_nil, List.getElem?_cons_zero, List.getElem?_cons_succ, List.getElem?_nil, List.set_cons_zero, List.set_cons_succ, if_true, if_false, ite_true, ite_false, Bool.false_eq_true, Bool.not_true, Bool.not_false, Option.map_some, Option.map_none, reduceCtorEq, beq_self_eq_true, Nat.reduceBEq, Bool.or_true, Bool.or_false, Bool.true_or, Bool.false_or, Bool.and_true, Bool.and_false, Bool.true_and, Bool.false_and, reduceIte, decide_true, decide_false, lenLim, true_and, e_addi, e_adds, e_addt, e_addl, e_subi, e_muli, e_mult, e_mull, e_fdiv, e_mod, e_pow, e_neg, e_eq, e_ne, e_lti, e_ltt, e_lei, e_gti, e_gei, e_isn0, e_isb, e_isnn, e_isnb, e_in, e_nin, e_ixt, e_ixf, e_ixr, e_sqt, e_sqf, e_sqr, e_slt, e_slr, e_rvt, e_rvr, e_lnt, e_lnf, e_lns, e_lnr, e_len, e_tuple, e_list, e_inti, e_intb, e_abs, e_divmod, e_min2, e_max2, e_all, e_any, e_app, e_ext, e_rec, e_isnk, e_isbk, e_isik, e_issk, e_istk, e_isrk, e_tn, e_tb, e_ti, e_tt, e_tf, e_tr, e_sit, e_sif, e_sir, e_part, e_augA, e_augS, e_nn, e_nnb, e_nni, e_nns, e_nnt, e_nnf, e_nnr, e_tp, e_acons, e_anil, get_app c1 m3, get_app (get_app h92 m') m3]
          refine (f20_ok (n + 2) b cs ds _ h1 h2 hcc hcd (by omega)).wp fun m4 => ?_
          try simp -implicitDefEqProofs -dsimp only [Wp_ok, Wp_no, Wp_er, Wp_bind, Wp_some, Wp_none, Wp_guard, Wp_iteB, runDef, dSeq2, dVar, dCon, dNil, dCons, dStar, dTup, dLst, dDct0, dBin, dNeg, dTru, dIf, dNotT, dBl, dBool, dAnd, dOr, dCmp, dCmp2, dIdx, dNoPart, dPart, dSlc, dRev, dCall, dBlt, dMet, dIsi, aNm, aSub, dItSeq, dItRng, dItRng2, dItEnu, dItZip, dItEnz, dNo, sExp, sAsg, setAll, sPar, sAug, sRet, sSeq, sNil, sCnt, sFor, wipeE, new, mtTy, tyHas, List.map_cons, List.map_nil, List.length_cons, List.length_nil, List.length_map, Nat.zero_add, Nat.add_zero, Nat.reduceAdd, Nat.reduceSub, Nat.reduceMul, Nat.reduceLeDiff, Nat.reduceEqDiff, List.replicate_succ, List.replicate_zero, List.cons_append, List.nil_append, List.append_nil, List.getElem?_cons_zero, List.getElem?_cons_succ, List.getElem?_nil, List.set_cons_zero, List.set_cons_succ, if_true, if_false, ite_true, ite_false, Bool.false_eq_true, Bool.not_true, Bool.not_false, Option.map_some, Option.map_none, reduceCtorEq, beq_self_eq_true, Nat.reduceBEq, Bool.or_true, Bool.or_false, Bool.true_or, Bool.false_or, Bool.and_true, Bool.and_false, Bool.true_and, Bool.false_and, reduceIte, decide_true, decide_false, lenLim, true_and, e_addi, e_adds, e_addt, e_addl, e_subi, e_muli, e_mult, e_mull, e_fdiv, e_mod, e_pow, e_neg, e_eq, e_ne, e_lti, e_ltt, e_lei, e_gti, e_gei, e_isn0, e_isb, e_isnn, e_isnb, e_in, e_nin, e_ixt, e_ixf, e_ixr, e_sqt, e_sqf, e_sqr, e_slt, e_slr, e_rvt, e_rvr, e_lnt, e_lnf, e_lns, e_lnr, e_len, e_tuple, e_list, e_inti, e_intb, e_abs, e_divmod, e_min2, e_max2, e_all, e_any, e_app, e_ext, e_rec, e_isnk, e_isbk, e_isik, e_issk, e_istk, e_isrk, e_tn, e_tb, e_ti, e_tt, e_tf, e_tr, e_sit, e_sif, e_sir, e_part, e_augA, e_augS, e_nn, e_nnb, e_nni, e_nns, e_nnt, e_nnf, e_nnr, e_tp, e_acons, e_anil]
          obtain ⟨L, eL⟩ := dnn_form b cs ds k.toNat
          simp -implicitDefEqProofs -dsimp only [Wp_ok, Wp_no, Wp_er, Wp_bind, Wp_some, Wp_none, Wp_guard, Wp_iteB, runDef, dSeq2, dVar, dCon, dNil, dCons, dStar, dTup, dLst, dDct0, dBin, dNeg, dTru, dIf, dNotT, dBl, dBool, dAnd, dOr, dCmp, dCmp2, dIdx, dNoPart, dPart, dSlc, dRev, dCall, dBlt, dMet, dIsi, aNm, aSub, dItSeq, dItRng, dItRng2, dItEnu, dItZip, dItEnz, dNo, sExp, sAsg, setAll, sPar, sAug, sRet, sSeq, sNil, sCnt, sFor, wipeE, new, mtTy, tyHas, List.map_cons, List.map_nil, List.length_cons, List.length_nil, List.length_map, Nat.zero_add, Nat.add_zero, Nat.reduceAdd, Nat.reduceSub, Nat.reduceMul, Nat.reduceLeDiff, Nat.reduceEqDiff, List.replicate_succ, List.replicate_zero, List.cons_append, List.nil_append, List.append_nil, List.getElem?_cons_zero, List.getElem?_cons_succ, List.getElem?_nil, List.set_cons_zero, List.set_cons_succ, if_true, if_false, ite_true, ite_false, Bool.false_eq_true, Bool.not_true, Bool.not_false, Option.map_some, Option.map_none, reduceCtorEq, beq_self_eq_true, Nat.reduceBEq, Bool.or_true, Bool.or_false, Bool.true_or, Bool.false_or, Bool.and_true, Bool.and_false, Bool.true_and, Bool.false_and, reduceIte, decide_true, decide_false, lenLim, true_and, e_addi, e_adds, e_addt, e_addl, e_subi, e_muli, e_mult, e_mull, e_fdiv, e_mod, e_pow, e_neg, e_eq, e_ne, e_lti, e_ltt, e_lei, e_gti, e_gei, e_isn0, e_isb, e_isnn, e_isnb, e_in, e_nin, e_ixt, e_ixf, e_ixr, e_sqt, e_sqf, e_sqr, e_slt, e_slr, e_rvt, e_rvr, e_lnt, e_lnf, e_lns, e_lnr, e_len, e_tuple, e_list, e_inti, e_intb, e_abs, e_divmod, e_min2, e_max2, e_all, e_any, e_app, e_ext, e_rec, e_isnk, e_isbk, e_isik, e_issk, e_istk, e_isrk, e_tn, e_tb, e_ti, e_tt, e_tf, e_tr, e_sit, e_sif, e_sir, e_part, e_augA, e_augS, e_nn, e_nnb, e_nni, e_nns, e_nnt, e_nnf, e_nnr, e_tp, e_acons, e_anil, get_app (get_app hq5 m3) m4, hl, eL, eqW_tups]
          have hdE : Dc r (m + 20) (S9 ++ m' ++ m3 ++ m4) := ((hd9.app _).app _).app _
          have gE : Gs r S (S9 ++ m' ++ m3 ++ m4) := by
            refine g9.trans hr ?_
            simp only [List.append_assoc]
            exact .app hd9 _
          generalize S9 ++ m' ++ m3 ++ m4 = SE at hdE gE
          refine (roll (n + 6) r _ 200 SE hdE (by omega) (by omega) (small (by omega) (by omega))).then ?_
          rintro v SF ⟨u, rfl, u0, u1, hdF, gF⟩
          simp -implicitDefEqProofs -dsimp only [Wp_ok, Wp_no, Wp_er, Wp_bind, Wp_some, Wp_none, Wp_guard, Wp_iteB, runDef, dSeq2, dVar, dCon, dNil, dCons, dStar, dTup, dLst, dDct0, dBin, dNeg, dTru, dIf, dNotT, dBl, dBool, dAnd, dOr, dCmp, dCmp2, dIdx, dNoPart, dPart, dSlc, dRev, dCall, dBlt, dMet, dIsi, aNm, aSub, dItSeq, dItRng, dItRng2, dItEnu, dItZip, dItEnz, dNo, sExp, sAsg, setAll, sPar, sAug, sRet, sSeq, sNil, sCnt, sFor, wipeE, new, mtTy, tyHas, List.map_cons, List.map_nil, List.length_cons, List.length_nil, List.length_map, Nat.zero_add, Nat.add_zero, Nat.reduceAdd, Nat.reduceSub, Nat.reduceMul, Nat.reduceLeDiff, Nat.reduceEqDiff, List.replicate_succ, List.replicate_zero, List.cons_append, List.nil_append, List.append_nil, List.getElem?_cons_zero, List.getElem?_cons_succ, List.getElem?_nil, List.set_cons_zero, List.set_cons_succ, if_true, if_false, ite_true, ite_false, Bool.false_eq_true, Bool.not_true, Bool.not_false, Option.map_some, Option.map_none, reduceCtorEq, beq_self_eq_true, Nat.reduceBEq, Bool.or_true, Bool.or_false, Bool.true_or, Bool.false_or, Bool.and_true, Bool.and_false, Bool.true_and, Bool.false_and, reduceIte, decide_true, decide_false, lenLim, true_and, e_addi, e_adds, e_addt, e_addl, e_subi, e_muli, e_mult, e_mull, e_fdiv, e_mod, e_pow, e_neg, e_eq, e_ne, e_lti, e_ltt, e_lei, e_gti, e_gei, e_isn0, e_isb, e_isnn, e_isnb, e_in, e_nin, e_ixt, e_ixf, e_ixr, e_sqt, e_sqf, e_sqr, e_slt, e_slr, e_rvt, e_rvr, e_lnt, e_lnf, e_lns, e_lnr, e_len, e_tuple, e_list, e_inti, e_intb, e_abs, e_divmod, e_min2, e_max2, e_all, e_any, e_app, e_ext, e_rec, e_isnk, e_isbk, e_isik, e_issk, e_istk, e_isrk, e_tn, e_tb, e_ti, e_tt, e_tf, e_tr, e_sit, e_sif, e_sir, e_part, e_augA, e_augS, e_nn, e_nnb, e_nni, e_nns, e_nnt, e_nnf, e_nnr, e_tp, e_acons, e_anil]
          refine (roll (n + 6) r _ 20000 SF hdF (by omega) (by omega) (small (by omega) (by omega))).then ?_
          rintro v SG ⟨v, rfl, v0, v1, hdG, gG⟩
          simp -implicitDefEqProofs -dsimp only [Wp_ok, Wp_no, Wp_er, Wp_bind, Wp_some, Wp_none, Wp_guard, Wp_iteB, runDef, dSeq2, dVar, dCon, dNil, dCons, dStar, dTup, dLst, dDct0, dBin, dNeg, dTru, dIf, dNotT, dBl, dBool, dAnd, dOr, dCmp, dCmp2, dIdx, dNoPart, dPart, dSlc, dRev, dCall, dBlt, dMet, dIsi, aNm, aSub, dItSeq, dItRng, dItRng2, dItEnu, dItZip, dItEnz, dNo, sExp, sAsg, setAll, sPar, sAug, sRet, sSeq, sNil, sCnt, sFor, wipeE, new, mtTy, tyHas, List.map_cons, List.map_nil, List.length_cons, List.length_nil, List.length_map, Nat.zero_add, Nat.add_zero, Nat.reduceAdd, Nat.reduceSub, Nat.reduceMul, Nat.reduceLeDiff, Nat.reduceEqDiff, List.replicate_succ, List.replicate_zero, List.cons_append, List.nil_append, List.append_nil, List.getElem?_cons_zero, List.getElem?_cons_succ, List.getElem?_nil, List.set_cons_zero, List.set_cons_succ, if_true, if_false, ite_true, ite_false, Bool.false_eq_true, Bool.not_true, Bool.not_false, Option.map_some, Option.map_none, reduceCtorEq, beq_self_eq_true, Nat.reduceBEq, Bool.or_true, Bool.or_false, Bool.true_or, Bool.false_or, Bool.and_true, Bool.and_false, Bool.true_and, Bool.false_and, reduceIte, decide_true, decide_false, lenLim, true_and, e_addi, e_adds, e_addt, e_addl, e_subi, e_muli, e_mult, e_mull, e_fdiv, e_mod, e_pow, e_neg, e_eq, e_ne, e_lti, e_ltt, e_lei, e_gti, e_gei, e_isn0, e_isb, e_isnn, e_isnb, e_in, e_nin, e_ixt, e_ixf, e_ixr, e_sqt, e_sqf, e_sqr, e_slt, e_slr, e_rvt, e_rvr, e_lnt, e_lnf, e_lns, e_lnr, e_len, e_tuple, e_list, e_inti, e_intb, e_abs, e_divmod, e_min2, e_max2, e_all, e_any, e_app, e_ext, e_rec, e_isnk, e_isbk, e_isik, e_issk, e_istk, e_isrk, e_tn, e_tb, e_ti, e_tt, e_tf, e_tr, e_sit, e_sif, e_sir, e_part, e_augA, e_augS, e_nn, e_nnb, e_nni, e_nns, e_nnt, e_nnf, e_nnr, e_tp, e_acons, e_anil]
          refine (f17_ok (n + 1) b (1 + u) (1 + v) SG h1 h2 (by omega) (by omega) (by omega) (by omega)).wp fun m5 => ?_
          try simp -implicitDefEqProofs -dsimp only [Wp_ok, Wp_no, Wp_er, Wp_bind, Wp_some, Wp_none, Wp_guard, Wp_iteB, runDef, dSeq2, dVar, dCon, dNil, dCons, dStar, dTup, dLst, dDct0, dBin, dNeg, dTru, dIf, dNotT, dBl, dBool, dAnd, dOr, dCmp, dCmp2, dIdx, dNoPart, dPart, dSlc, dRev, dCall, dBlt, dMet, dIsi, aNm, aSub, dItSeq, dItRng, dItRng2, dItEnu, dItZip, dItEnz, dNo, sExp, sAsg, setAll, sPar, sAug, sRet, sSeq, sNil, sCnt, sFor, wipeE, new, mtTy, tyHas, List.map_cons, List.map_nil, List.length_cons, List.length_nil, List.length_map, Nat.zero_add, Nat.add_zero, Nat.reduceAdd, Nat.reduceSub, Nat.reduceMul, Nat.reduceLeDiff, Nat.reduceEqDiff, List.replicate_succ, List.replicate_zero, List.cons_append, List.nil_append, List.append_nil, List.getElem?_cons_zero, List.getElem?_cons_succ, List.getElem?_nil, List.set_cons_zero, List.set_cons_succ, if_true, if_false, ite_true, ite_false, Bool.false_eq_true, Bool.not_true, Bool.not_false, Option.map_some, Option.map_none, reduceCtorEq, beq_self_eq_true, Nat.reduceBEq, Bool.or_true, Bool.or_false, Bool.true_or, Bool.false_or, Bool.and_true, Bool.and_false, Bool.true_and, Bool.false_and, reduceIte, decide_true, decide_false, lenLim, true_and, e_addi, e_adds, e_addt, e_addl, e_subi, e_muli, e_mult, e_mull, e_fdiv, e_mod, e_pow, e_neg, e_eq, e_ne, e_lti, e_ltt, e_lei, e_gti, e_gei, e_isn0, e_isb, e_isnn, e_isnb, e_in, e_nin, e_ixt, e_ixf, e_ixr, e_sqt, e_sqf, e_sqr, e_slt, e_slr, e_rvt, e_rvr, e_lnt, e_lnf, e_lns, e_lnr, e_len, e_tuple, e_list, e_inti, e_intb, e_abs, e_divmod, e_min2, e_max2, e_all, e_any, e_app, e_ext, e_rec, e_isnk, e_isbk, e_isik, e_issk, e_istk, e_isrk, e_tn, e_tb, e_ti, e_tt, e_tf, e_tr, e_sit, e_sif, e_sir, e_part, e_augA, e_augS, e_nn, e_nnb, e_nni, e_nns, e_nnt, e_nnf, e_nnr, e_tp, e_acons, e_anil]
          have eQ : ∀ S, eqW S (.tup [.int (1 + u), .int (b ^ 8), .int (1 + v)]) (.tup [.int (1 + u), .int (b ^ 8), .int (1 + v)]) = some true := fun S => eqW_ints S [1 + u, b ^ 8, 1 + v]
          simp -implicitDefEqProofs -dsimp only [Wp_ok, Wp_no, Wp_er, Wp_bind, Wp_some, Wp_none, Wp_guard, Wp_iteB, runDef, dSeq2, dVar, dCon, dNil, dCons, dStar, dTup, dLst, dDct0, dBin, dNeg, dTru, dIf, dNotT, dBl, dBool, dAnd, dOr, dCmp, dCmp2, dIdx, dNoPart, dPart, dSlc, dRev, dCall, dBlt, dMet, dIsi, aNm, aSub, dItSeq, dItRng, dItRng2, dItEnu, dItZip, dItEnz, dNo, sExp, sAsg, setAll, sPar, sAug, sRet, sSeq, sNil, sCnt, sFor, wipeE, new, mtTy, tyHas, List.map_cons, List.map_nil, List.length_cons, List.length_nil, List.length_map, Nat.zero_add, Nat.add_zero, Nat.reduceAdd, Nat.reduceSub, Nat.reduceMul, Nat.reduceLeDiff, Nat.reduceEqDiff, List.replicate_succ, List.replicate_zero, List.cons_append, List.nil_append, List.append_nil, List.getElem?_cons_zero, List.getElem?_cons_succ, List.getElem?_nil, List.set_cons_zero, List.set_cons_succ, if_true, if_false, ite_true, ite_false, Bool.false_eq_true, Bool.not_true, Bool.not_false, Option.map_some, Option.map_none, reduceCtorEq, beq_self_eq_true, Nat.reduceBEq, Bool.or_true, Bool.or_false, Bool.true_or, Bool.false_or, Bool.and_true, Bool.and_false, Bool.true_and, Bool.false_and, reduceIte, decide_true, decide_false, lenLim, true_and, e_addi, e_adds, e_addt, e_addl, e_subi, e_muli, e_mult, e_mull, e_fdiv, e_mod, e_pow, e_neg, e_eq, e_ne, e_lti, e_ltt, e_lei, e_gti, e_gei, e_isn0, e_isb, e_isnn, e_isnb, e_in, e_nin, e_ixt, e_ixf, e_ixr, e_sqt, e_sqf, e_sqr, e_slt, e_slr, e_rvt, e_rvr, e_lnt, e_lnf, e_lns, e_lnr, e_len, e_tuple, e_list, e_inti, e_intb, e_abs, e_divmod, e_min2, e_max2, e_all, e_any, e_app, e_ext, e_rec, e_isnk, e_isbk, e_isik, e_issk, e_istk, e_isrk, e_tn, e_tb, e_ti, e_tt, e_tf, e_tr, e_sit, e_sif, e_sir, e_part, e_augA, e_augS, e_nn, e_nnb, e_nni, e_nns, e_nnt, e_nnf, e_nnr, e_tp, e_acons, e_anil, pg', show b ^ Int.toNat 8 = b ^ 8 from rfl, eQ]
          exact ⟨(hdG.le (by omega)).app _, gE.trans hr (gF.trans hdE.lt (gG.trans hdF.lt (.app hdG _)))⟩
end L59
set_option autoImplicit false
set_option Elab.async false
set_option linter.all false
set_option maxRecDepth 100000
set_option maxHeartbeats 4000000
namespace L59
open PySem Pv
theorem g10 : ((0 : Int) ≤ 47 ∧ ((10 : Int).natAbs.log2 + 1) * Int.toNat 47 ≤ 1000000) := by decide
theorem g1047 : ((0 : Int) ≤ 7 ∧ (((10 : Int) ^ Int.toNat 47).natAbs.log2 + 1) * Int.toNat 7 ≤ 1000000) := by decide
theorem g15 : ((0 : Int) ≤ 15 ∧ ((10 : Int).natAbs.log2 + 1) * Int.toNat 15 ≤ 1000000) := by decide
theorem f21_ok (n : Nat) (ns : List Int) (i : Nat) (S : Sto) (hi : i ≤ 5) : Wp (callF Dd (n + 1) 21 [.frl (ns.map .int), .int (i : Nat)] S) (fun v S' => v = .ref S.length ∧ ∃ a b : Int, 0 ≤ a ∧ S' = S ++ [.lst [.int a, .int b, .int 0]]) E0 := by
  rw [u21]
  simp -implicitDefEqProofs -dsimp only [Wp_ok, Wp_no, Wp_er, Wp_bind, Wp_some, Wp_none, Wp_guard, Wp_iteB, runDef, dSeq2, dVar, dCon, dNil, dCons, dStar, dTup, dLst, dDct0, dBin, dNeg, dTru, dIf, dNotT, dBl, dBool, dAnd, dOr, dCmp, dCmp2, dIdx, dNoPart, dPart, dSlc, dRev, dCall, dBlt, dMet, dIsi, aNm, aSub, dItSeq, dItRng, dItRng2, dItEnu, dItZip, dItEnz, dNo, sExp, sAsg, setAll, sPar, sAug, sRet, sSeq, sNil, sCnt, sFor, wipeE, new, mtTy, tyHas, List.map_cons, List.map_nil, List.length_cons, List.length_nil, List.length_map, Nat.zero_add, Nat.add_zero, Nat.reduceAdd, Nat.reduceSub, Nat.reduceMul, Nat.reduceLeDiff, Nat.reduceEqDiff, List.replicate_succ, List.replicate_zero, List.cons_append, List.nil_append, List.append_nil, List.getElem?_cons_zero, List.getElem?_cons_succ, List.getElem?_nil, List.set_cons_zero, List.set_cons_succ, if_true, if_false, ite_true, ite_false, Bool.false_eq_true, Bool.not_true, Bool.not_false, Option.map_some, Option.map_none, reduceCtorEq, beq_self_eq_true, Nat.reduceBEq, Bool.or_true, Bool.or_false, Bool.true_or, Bool.false_or, Bool.and_true, Bool.and_false, Bool.true_and, Bool.false_and, reduceIte, decide_true, decide_false, lenLim, true_and, e_addi, e_adds, e_addt, e_addl, e_subi, e_muli, e_mult, e_mull, e_fdiv, e_mod, e_pow, e_neg, e_eq, e_ne, e_lti, e_ltt, e_lei, e_gti, e_gei, e_isn0, e_isb, e_isnn, e_isnb, e_in, e_nin, e_ixt, e_ixf, e_ixr, e_sqt, e_sqf, e_sqr, e_slt, e_slr, e_rvt, e_rvr, e_lnt, e_lnf, e_lns, e_lnr, e_len, e_tuple, e_list, e_inti, e_intb, e_abs, e_divmod, e_min2, e_max2, e_all, e_any, e_app, e_ext, e_rec, e_isnk, e_isbk, e_isik, e_issk, e_istk, e_isrk, e_tn, e_tb, e_ti, e_tt, e_tf, e_tr, e_sit, e_sif, e_sir, e_part, e_augA, e_augS, e_nn, e_nnb, e_nni, e_nns, e_nnt, e_nnf, e_nnr, e_tp, e_acons, e_anil]
  have hP0 : (0 : Int) < (10 ^ Int.toNat 47) ^ Int.toNat 7 := Int.pow_pos (Int.pow_pos (by omega))
  have gP : (0 : Int) < 2305843009213693669 := by omega
  have tail : ∀ P c : Int, 0 < P → ((0 : Int) ≤ 47 ∧ ((Int.natAbs 10).log2 + 1) * Int.toNat 47 ≤ 1000000) ∧ ((0 : Int) ≤ 7 ∧ (((10 : Int) ^ Int.toNat 47).natAbs.log2 + 1) * Int.toNat 7 ≤ 1000000) ∧ (0 : Int) < P ∧ (0 : Int) < 2305843009213693669 ∧
      (c % P % 2305843009213693669).natAbs.log2 + (Int.natAbs 89).log2 < 1000000 ∧ (Int.natAbs 733).log2 + (i : Int).natAbs.log2 < 1000000 ∧ (∀ k : Bool, (Int.natAbs 43).log2 + (if k = true then (1 : Int) else 0).natAbs.log2 < 1000000) ∧ ((0 : Int) ≤ 15 ∧ ((Int.natAbs 10).log2 + 1) * Int.toNat 15 ≤ 1000000) := fun P c hP => by
    refine ⟨g10, g1047, hP, gP, ?_, ?_, ?_, g15⟩
    · have a1 := Int.emod_nonneg (c % P) (show (2305843009213693669 : Int) ≠ 0 by omega)
      have a2 := Int.emod_lt_of_pos (c % P) gP
      exact mul_ok (Nat.lt_of_le_of_lt (show _ ≤ 2305843009213693669 by omega) (by decide)) (by omega)
    · exact mul_ok (i := 733) (by omega) (by omega)
    · intro k
      cases k <;> exact mul_ok (i := 43) (by omega) (by decide)
  by_cases h : (i : Int) < ns.length
  · rw [if_pos (decide_eq_true h)]
    have hA : L2.atI (ns.map W.int) (i : Nat) = some (.int (ns.getD i 0)) := atC (cs := ns) (by omega) h
    simp -implicitDefEqProofs -dsimp only [Wp_ok, Wp_no, Wp_er, Wp_bind, Wp_some, Wp_none, Wp_guard, Wp_iteB, runDef, dSeq2, dVar, dCon, dNil, dCons, dStar, dTup, dLst, dDct0, dBin, dNeg, dTru, dIf, dNotT, dBl, dBool, dAnd, dOr, dCmp, dCmp2, dIdx, dNoPart, dPart, dSlc, dRev, dCall, dBlt, dMet, dIsi, aNm, aSub, dItSeq, dItRng, dItRng2, dItEnu, dItZip, dItEnz, dNo, sExp, sAsg, setAll, sPar, sAug, sRet, sSeq, sNil, sCnt, sFor, wipeE, new, mtTy, tyHas, List.map_cons, List.map_nil, List.length_cons, List.length_nil, List.length_map, Nat.zero_add, Nat.add_zero, Nat.reduceAdd, Nat.reduceSub, Nat.reduceMul, Nat.reduceLeDiff, Nat.reduceEqDiff, List.replicate_succ, List.replicate_zero, List.cons_append, List.nil_append, List.append_nil, List.getElem?_cons_zero, List.getElem?_cons_succ, List.getElem?_nil, List.set_cons_zero, List.set_cons_succ, if_true, if_false, ite_true, ite_false, Bool.false_eq_true, Bool.not_true, Bool.not_false, Option.map_some, Option.map_none, reduceCtorEq, beq_self_eq_true, Nat.reduceBEq, Bool.or_true, Bool.or_false, Bool.true_or, Bool.false_or, Bool.and_true, Bool.and_false, Bool.true_and, Bool.false_and, reduceIte, decide_true, decide_false, lenLim, true_and, e_addi, e_adds, e_addt, e_addl, e_subi, e_muli, e_mult, e_mull, e_fdiv, e_mod, e_pow, e_neg, e_eq, e_ne, e_lti, e_ltt, e_lei, e_gti, e_gei, e_isn0, e_isb, e_isnn, e_isnb, e_in, e_nin, e_ixt, e_ixf, e_ixr, e_sqt, e_sqf, e_sqr, e_slt, e_slr, e_rvt, e_rvr, e_lnt, e_lnf, e_lns, e_lnr, e_len, e_tuple, e_list, e_inti, e_intb, e_abs, e_divmod, e_min2, e_max2, e_all, e_any, e_app, e_ext, e_rec, e_isnk, e_isbk, e_isik, e_issk, e_istk, e_isrk, e_tn, e_tb, e_ti, e_tt, e_tf, e_tr, e_sit, e_sif, e_sir, e_part, e_augA, e_augS, e_nn, e_nnb, e_nni, e_nns, e_nnt, e_nnf, e_nnr, e_tp, e_acons, e_anil, hA]
    generalize hQ : ((10 : Int) ^ Int.toNat 47) ^ Int.toNat 7 = P at hP0 ⊢
    generalize (10 : Int) ^ Int.toNat 15 = Q
    generalize ns.getD i 0 = c
    obtain ⟨t1, t2, t3, t4, t5, t6, t7, t8⟩ := tail P (if c < 0 then -c else c) hP0
    first
      | refine ⟨t1, t2, t3, t4, t5, t6, t7 _, t8, _, _, ?_, rfl⟩
      | refine ⟨t1, t2, t3, t4, t5, t6, t7 _, t8, rfl, _, _, ?_, rfl⟩
    split <;> omega
  · rw [if_neg (by rw [decide_eq_false h]; exact Bool.false_ne_true)]
    try simp -implicitDefEqProofs -dsimp only [Wp_ok, Wp_no, Wp_er, Wp_bind, Wp_some, Wp_none, Wp_guard, Wp_iteB, runDef, dSeq2, dVar, dCon, dNil, dCons, dStar, dTup, dLst, dDct0, dBin, dNeg, dTru, dIf, dNotT, dBl, dBool, dAnd, dOr, dCmp, dCmp2, dIdx, dNoPart, dPart, dSlc, dRev, dCall, dBlt, dMet, dIsi, aNm, aSub, dItSeq, dItRng, dItRng2, dItEnu, dItZip, dItEnz, dNo, sExp, sAsg, setAll, sPar, sAug, sRet, sSeq, sNil, sCnt, sFor, wipeE, new, mtTy, tyHas, List.map_cons, List.map_nil, List.length_cons, List.length_nil, List.length_map, Nat.zero_add, Nat.add_zero, Nat.reduceAdd, Nat.reduceSub, Nat.reduceMul, Nat.reduceLeDiff, Nat.reduceEqDiff, List.replicate_succ, List.replicate_zero, List.cons_append, List.nil_append, List.append_nil, List.getElem?_cons_zero, List.getElem?_cons_succ, List.getElem?_nil, List.set_cons_zero, List.set_cons_succ, if_true, if_false, ite_true, ite_false, Bool.false_eq_true, Bool.not_true, Bool.not_false, Option.map_some, Option.map_none, reduceCtorEq, beq_self_eq_true, Nat.reduceBEq, Bool.or_true, Bool.or_false, Bool.true_or, Bool.false_or, Bool.and_true, Bool.and_false, Bool.true_and, Bool.false_and, reduceIte, decide_true, decide_false, lenLim, true_and, e_addi, e_adds, e_addt, e_addl, e_subi, e_muli, e_mult, e_mull, e_fdiv, e_mod, e_pow, e_neg, e_eq, e_ne, e_lti, e_ltt, e_lei, e_gti, e_gei, e_isn0, e_isb, e_isnn, e_isnb, e_in, e_nin, e_ixt, e_ixf, e_ixr, e_sqt, e_sqf, e_sqr, e_slt, e_slr, e_rvt, e_rvr, e_lnt, e_lnf, e_lns, e_lnr, e_len, e_tuple, e_list, e_inti, e_intb, e_abs, e_divmod, e_min2, e_max2, e_all, e_any, e_app, e_ext, e_rec, e_isnk, e_isbk, e_isik, e_issk, e_istk, e_isrk, e_tn, e_tb, e_ti, e_tt, e_tf, e_tr, e_sit, e_sif, e_sir, e_part, e_augA, e_augS, e_nn, e_nnb, e_nni, e_nns, e_nnt, e_nnf, e_nnr, e_tp, e_acons, e_anil]
    generalize hQ : ((10 : Int) ^ Int.toNat 47) ^ Int.toNat 7 = P at hP0 ⊢
    generalize (10 : Int) ^ Int.toNat 15 = Q
    generalize 173 * (i : Int) + 59 = c
    obtain ⟨t1, t2, t3, t4, t5, t6, t7, t8⟩ := tail P (if c < 0 then -c else c) hP0
    first
      | refine ⟨mul_ok (i := 173) (by omega) (by omega), t1, t2, t3, t4, t5, t6, t7 _, t8, _, _, ?_, rfl⟩
      | refine ⟨mul_ok (i := 173) (by omega) (by omega), t1, t2, t3, t4, t5, t6, t7 _, t8, rfl, _, _, ?_, rfl⟩
    split <;> omega
theorem rng4_eq : rngI (.int 0) (.int 4) = some ⟨[], [.int 0, .int 1, .int 2, .int 3]⟩ := rfl
theorem eq88 (S : Sto) : eqW S (.int 8) (.int 8) = some true := rfl
theorem law_ok (ns : List Int) (hn : ns.length ≤ 63) : ∃ S', callF Dd 100 29 [.frl (ns.map W.int)] [] = .ok (.bl true) S' := by
  suffices h : Wp (callF Dd (90 + 10) 29 [.frl (ns.map W.int)] []) (fun v _ => v = .bl true) E0 by
    obtain ⟨v, S', e, rfl⟩ := h.ok0
    exact ⟨S', e⟩
  rw [u29]
  simp -implicitDefEqProofs -dsimp only [Wp_ok, Wp_no, Wp_er, Wp_bind, Wp_some, Wp_none, Wp_guard, Wp_iteB, runDef, dSeq2, dVar, dCon, dNil, dCons, dStar, dTup, dLst, dDct0, dBin, dNeg, dTru, dIf, dNotT, dBl, dBool, dAnd, dOr, dCmp, dCmp2, dIdx, dNoPart, dPart, dSlc, dRev, dCall, dBlt, dMet, dIsi, aNm, aSub, dItSeq, dItRng, dItRng2, dItEnu, dItZip, dItEnz, dNo, sExp, sAsg, setAll, sPar, sAug, sRet, sSeq, sNil, sCnt, sFor, wipeE, new, mtTy, tyHas, List.map_cons, List.map_nil, List.length_cons, List.length_nil, List.length_map, Nat.zero_add, Nat.add_zero, Nat.reduceAdd, Nat.reduceSub, Nat.reduceMul, Nat.reduceLeDiff, Nat.reduceEqDiff, List.replicate_succ, List.replicate_zero, List.cons_append, List.nil_append, List.append_nil, List.getElem?_cons_zero, List.getElem?_cons_succ, List.getElem?_nil, List.set_cons_zero, List.set_cons_succ, if_true, if_false, ite_true, ite_false, Bool.false_eq_true, Bool.not_true, Bool.not_false, Option.map_some, Option.map_none, reduceCtorEq, beq_self_eq_true, Nat.reduceBEq, Bool.or_true, Bool.or_false, Bool.true_or, Bool.false_or, Bool.and_true, Bool.and_false, Bool.true_and, Bool.false_and, reduceIte, decide_true, decide_false, lenLim, true_and, e_addi, e_adds, e_addt, e_addl, e_subi, e_muli, e_mult, e_mull, e_fdiv, e_mod, e_pow, e_neg, e_eq, e_ne, e_lti, e_ltt, e_lei, e_gti, e_gei, e_isn0, e_isb, e_isnn, e_isnb, e_in, e_nin, e_ixt, e_ixf, e_ixr, e_sqt, e_sqf, e_sqr, e_slt, e_slr, e_rvt, e_rvr, e_lnt, e_lnf, e_lns, e_lnr, e_len, e_tuple, e_list, e_inti, e_intb, e_abs, e_divmod, e_min2, e_max2, e_all, e_any, e_app, e_ext, e_rec, e_isnk, e_isbk, e_isik, e_issk, e_istk, e_isrk, e_tn, e_tb, e_ti, e_tt, e_tf, e_tr, e_sit, e_sif, e_sir, e_part, e_augA, e_augS, e_nn, e_nnb, e_nni, e_nns, e_nnt, e_nnf, e_nnr, e_tp, e_acons, e_anil, eq88]
  generalize hk : (if (1 : Int) < _ then _ else (1 : Int)) = k
  have k1 : 1 ≤ k := by rw [← hk]; split <;> omega
  have k5 : k ≤ 5 := by
    rw [← hk]
    split
    · split <;> omega
    · omega
  clear hk
  have hkn : (rngW 0 1 k.toNat).length = k.toNat := rngW_len 1 k.toNat 0
  simp -implicitDefEqProofs -dsimp only [Wp_ok, Wp_no, Wp_er, Wp_bind, Wp_some, Wp_none, Wp_guard, Wp_iteB, runDef, dSeq2, dVar, dCon, dNil, dCons, dStar, dTup, dLst, dDct0, dBin, dNeg, dTru, dIf, dNotT, dBl, dBool, dAnd, dOr, dCmp, dCmp2, dIdx, dNoPart, dPart, dSlc, dRev, dCall, dBlt, dMet, dIsi, aNm, aSub, dItSeq, dItRng, dItRng2, dItEnu, dItZip, dItEnz, dNo, sExp, sAsg, setAll, sPar, sAug, sRet, sSeq, sNil, sCnt, sFor, wipeE, new, mtTy, tyHas, List.map_cons, List.map_nil, List.length_cons, List.length_nil, List.length_map, Nat.zero_add, Nat.add_zero, Nat.reduceAdd, Nat.reduceSub, Nat.reduceMul, Nat.reduceLeDiff, Nat.reduceEqDiff, List.replicate_succ, List.replicate_zero, List.cons_append, List.nil_append, List.append_nil, List.getElem?_cons_zero, List.getElem?_cons_succ, List.getElem?_nil, List.set_cons_zero, List.set_cons_succ, if_true, if_false, ite_true, ite_false, Bool.false_eq_true, Bool.not_true, Bool.not_false, Option.map_some, Option.map_none, reduceCtorEq, beq_self_eq_true, Nat.reduceBEq, Bool.or_true, Bool.or_false, Bool.true_or, Bool.false_or, Bool.and_true, Bool.and_false, Bool.true_and, Bool.false_and, reduceIte, decide_true, decide_false, lenLim, true_and, e_addi, e_adds, e_addt, e_addl, e_subi, e_muli, e_mult, e_mull, e_fdiv, e_mod, e_pow, e_neg, e_eq, e_ne, e_lti, e_ltt, e_lei, e_gti, e_gei, e_isn0, e_isb, e_isnn, e_isnb, e_in, e_nin, e_ixt, e_ixf, e_ixr, e_sqt, e_sqf, e_sqr, e_slt, e_slr, e_rvt, e_rvr, e_lnt, e_lnf, e_lns, e_lnr, e_len, e_tuple, e_list, e_inti, e_intb, e_abs, e_divmod, e_min2, e_max2, e_all, e_any, e_app, e_ext, e_rec, e_isnk, e_isbk, e_isik, e_issk, e_istk, e_isrk, e_tn, e_tb, e_ti, e_tt, e_tf, e_tr, e_sit, e_sif, e_sir, e_part, e_augA, e_augS, e_nn, e_nnb, e_nni, e_nns, e_nnt, e_nnf, e_nnr, e_tp, e_acons, e_anil, rngK (show 0 ≤ k by omega) (show k ≤ 1000 by omega)]
  refine Wp_for (fun i env S' => ∃ x1 x2 x3 x4, env = [some (.frl (ns.map .int)), x1, x2, x3, x4]) ⟨none, none, none, none, rfl⟩ (fun _ _ _ _ _ => rfl) ?_ ?_
  · rintro i w env S hw ⟨x1, x2, x3, x4, rfl⟩
    have hik : i < k.toNat := by
      have := (List.getElem?_eq_some_iff.mp hw).1
      rwa [hkn] at this
    have ew : w = .int (i : Nat) := by
      rw [rngW_get 1 k.toNat 0 i hik] at hw
      have := (Option.some.inj hw).symm
      rw [this]
      congr 1
      omega
    subst ew
    simp -implicitDefEqProofs -dsimp only [Wp_ok, Wp_no, Wp_er, Wp_bind, Wp_some, Wp_none, Wp_guard, Wp_iteB, runDef, dSeq2, dVar, dCon, dNil, dCons, dStar, dTup, dLst, dDct0, dBin, dNeg, dTru, dIf, dNotT, dBl, dBool, dAnd, dOr, dCmp, dCmp2, dIdx, dNoPart, dPart, dSlc, dRev, dCall, dBlt, dMet, dIsi, aNm, aSub, dItSeq, dItRng, dItRng2, dItEnu, dItZip, dItEnz, dNo, sExp, sAsg, setAll, sPar, sAug, sRet, sSeq, sNil, sCnt, sFor, wipeE, new, mtTy, tyHas, List.map_cons, List.map_nil, List.length_cons, List.length_nil, List.length_map, Nat.zero_add, Nat.add_zero, Nat.reduceAdd, Nat.reduceSub, Nat.reduceMul, Nat.reduceLeDiff, Nat.reduceEqDiff, List.replicate_succ, List.replicate_zero, List.cons_append, List.nil_append, List.append_nil, List.getElem?_cons_zero, List.getElem?_cons_succ, List.getElem?_nil, List.set_cons_zero, List.set_cons_succ, if_true, if_false, ite_true, ite_false, Bool.false_eq_true, Bool.not_true, Bool.not_false, Option.map_some, Option.map_none, reduceCtorEq, beq_self_eq_true, Nat.reduceBEq, Bool.or_true, Bool.or_false, Bool.true_or, Bool.false_or, Bool.and_true, Bool.and_false, Bool.true_and, Bool.false_and, reduceIte, decide_true, decide_false, lenLim, true_and, e_addi, e_adds, e_addt, e_addl, e_subi, e_muli, e_mult, e_mull, e_fdiv, e_mod, e_pow, e_neg, e_eq, e_ne, e_lti, e_ltt, e_lei, e_gti, e_gei, e_isn0, e_isb, e_isnn, e_isnb, e_in, e_nin, e_ixt, e_ixf, e_ixr, e_sqt, e_sqf, e_sqr, e_slt, e_slr, e_rvt, e_rvr, e_lnt, e_lnf, e_lns, e_lnr, e_len, e_tuple, e_list, e_inti, e_intb, e_abs, e_divmod, e_min2, e_max2, e_all, e_any, e_app, e_ext, e_rec, e_isnk, e_isbk, e_isik, e_issk, e_istk, e_isrk, e_tn, e_tb, e_ti, e_tt, e_tf, e_tr, e_sit, e_sif, e_sir, e_part, e_augA, e_augS, e_nn, e_nnb, e_nni, e_nns, e_nnt, e_nnf, e_nnr, e_tp, e_acons, e_anil]
    refine (f21_ok 98 ns i S (by omega)).then ?_
    rintro v S1 ⟨rfl, a, b, ha, rfl⟩
    simp -implicitDefEqProofs -dsimp only [Wp_ok, Wp_no, Wp_er, Wp_bind, Wp_some, Wp_none, Wp_guard, Wp_iteB, runDef, dSeq2, dVar, dCon, dNil, dCons, dStar, dTup, dLst, dDct0, dBin, dNeg, dTru, dIf, dNotT, dBl, dBool, dAnd, dOr, dCmp, dCmp2, dIdx, dNoPart, dPart, dSlc, dRev, dCall, dBlt, dMet, dIsi, aNm, aSub, dItSeq, dItRng, dItRng2, dItEnu, dItZip, dItEnz, dNo, sExp, sAsg, setAll, sPar, sAug, sRet, sSeq, sNil, sCnt, sFor, wipeE, new, mtTy, tyHas, List.map_cons, List.map_nil, List.length_cons, List.length_nil, List.length_map, Nat.zero_add, Nat.add_zero, Nat.reduceAdd, Nat.reduceSub, Nat.reduceMul, Nat.reduceLeDiff, Nat.reduceEqDiff, List.replicate_succ, List.replicate_zero, List.cons_append, List.nil_append, List.append_nil, List.getElem?_cons_zero, List.getElem?_cons_succ, List.getElem?_nil, List.set_cons_zero, List.set_cons_succ, if_true, if_false, ite_true, ite_false, Bool.false_eq_true, Bool.not_true, Bool.not_false, Option.map_some, Option.map_none, reduceCtorEq, beq_self_eq_true, Nat.reduceBEq, Bool.or_true, Bool.or_false, Bool.true_or, Bool.false_or, Bool.and_true, Bool.and_false, Bool.true_and, Bool.false_and, reduceIte, decide_true, decide_false, lenLim, true_and, e_addi, e_adds, e_addt, e_addl, e_subi, e_muli, e_mult, e_mull, e_fdiv, e_mod, e_pow, e_neg, e_eq, e_ne, e_lti, e_ltt, e_lei, e_gti, e_gei, e_isn0, e_isb, e_isnn, e_isnb, e_in, e_nin, e_ixt, e_ixf, e_ixr, e_sqt, e_sqf, e_sqr, e_slt, e_slr, e_rvt, e_rvr, e_lnt, e_lnf, e_lns, e_lnr, e_len, e_tuple, e_list, e_inti, e_intb, e_abs, e_divmod, e_min2, e_max2, e_all, e_any, e_app, e_ext, e_rec, e_isnk, e_isbk, e_isik, e_issk, e_istk, e_isrk, e_tn, e_tb, e_ti, e_tt, e_tf, e_tr, e_sit, e_sif, e_sir, e_part, e_augA, e_augS, e_nn, e_nnb, e_nni, e_nns, e_nnt, e_nnf, e_nnr, e_tp, e_acons, e_anil, rng4_eq]
    have hd0 : Dc S.length 0 (S ++ [.lst [.int a, .int b, .int 0]]) := ⟨a, b, 0, at_last _ _, ha, by omega, by omega⟩
    generalize S ++ [O.lst [.int a, .int b, .int 0]] = S1 at hd0
    generalize S.length = r at hd0
    refine Wp_for (fun j env S' => j ≤ 4 ∧ Dc r (301 * j) S' ∧ ∃ x1 x3 x4, env = [some (.frl (ns.map .int)), x1, some (.ref r), x3, x4]) ⟨by omega, hd0.le (by omega), _, _, _, rfl⟩ (fun _ _ _ _ _ => rfl) ?_ ?_
    · rintro j w env S2 hw ⟨hj, hd1, y1, y3, y4, rfl⟩
      have hj4 : j < 4 := (List.getElem?_eq_some_iff.mp hw).1
      simp -implicitDefEqProofs -dsimp only [Wp_ok, Wp_no, Wp_er, Wp_bind, Wp_some, Wp_none, Wp_guard, Wp_iteB, runDef, dSeq2, dVar, dCon, dNil, dCons, dStar, dTup, dLst, dDct0, dBin, dNeg, dTru, dIf, dNotT, dBl, dBool, dAnd, dOr, dCmp, dCmp2, dIdx, dNoPart, dPart, dSlc, dRev, dCall, dBlt, dMet, dIsi, aNm, aSub, dItSeq, dItRng, dItRng2, dItEnu, dItZip, dItEnz, dNo, sExp, sAsg, setAll, sPar, sAug, sRet, sSeq, sNil, sCnt, sFor, wipeE, new, mtTy, tyHas, List.map_cons, List.map_nil, List.length_cons, List.length_nil, List.length_map, Nat.zero_add, Nat.add_zero, Nat.reduceAdd, Nat.reduceSub, Nat.reduceMul, Nat.reduceLeDiff, Nat.reduceEqDiff, List.replicate_succ, List.replicate_zero, List.cons_append, List.nil_append, List.append_nil, List.getElem?_cons_zero, List.getElem?_cons_succ, List.getElem?_nil, List.set_cons_zero, List.set_cons_succ, if_true, if_false, ite_true, ite_false, Bool.false_eq_true, Bool.not_true, Bool.not_false, Option.map_some, Option.map_none, reduceCtorEq, beq_self_eq_true, Nat.reduceBEq, Bool.or_true, Bool.or_false, Bool.true_or, Bool.false_or, Bool.and_true, Bool.and_false, Bool.true_and, Bool.false_and, reduceIte, decide_true, decide_false, lenLim, true_and, e_addi, e_adds, e_addt, e_addl, e_subi, e_muli, e_mult, e_mull, e_fdiv, e_mod, e_pow, e_neg, e_eq, e_ne, e_lti, e_ltt, e_lei, e_gti, e_gei, e_isn0, e_isb, e_isnn, e_isnb, e_in, e_nin, e_ixt, e_ixf, e_ixr, e_sqt, e_sqf, e_sqr, e_slt, e_slr, e_rvt, e_rvr, e_lnt, e_lnf, e_lns, e_lnr, e_len, e_tuple, e_list, e_inti, e_intb, e_abs, e_divmod, e_min2, e_max2, e_all, e_any, e_app, e_ext, e_rec, e_isnk, e_isbk, e_isik, e_issk, e_istk, e_isrk, e_tn, e_tb, e_ti, e_tt, e_tf, e_tr, e_sit, e_sif, e_sir, e_part, e_augA, e_augS, e_nn, e_nnb, e_nni, e_nns, e_nnt, e_nnf, e_nnr, e_tp, e_acons, e_anil]
      have hq : (S2 ++ [O.lst [.int 2, .int 3, .int 8, .int 10, .int 16, .int 97, .int 999, .int 1000]])[S2.length]? = some (.lst [.int 2, .int 3, .int 8, .int 10, .int 16, .int 97, .int 999, .int 1000]) := at_last _ _
      refine (pick 97 r S2.length _ _ _ (hd1.app _) (by omega) hq (by have := hd1.lt; omega) (by simp) (by simp)).then ?_
      rintro v S3 ⟨hv, hd2, g2⟩
      try simp -implicitDefEqProofs -dsimp only [Wp_ok, Wp_no, Wp_er, Wp_bind, Wp_some, Wp_none, Wp_guard, Wp_iteB, runDef, dSeq2, dVar, dCon, dNil, dCons, dStar, dTup, dLst, dDct0, dBin, dNeg, dTru, dIf, dNotT, dBl, dBool, dAnd, dOr, dCmp, dCmp2, dIdx, dNoPart, dPart, dSlc, dRev, dCall, dBlt, dMet, dIsi, aNm, aSub, dItSeq, dItRng, dItRng2, dItEnu, dItZip, dItEnz, dNo, sExp, sAsg, setAll, sPar, sAug, sRet, sSeq, sNil, sCnt, sFor, wipeE, new, mtTy, tyHas, List.map_cons, List.map_nil, List.length_cons, List.length_nil, List.length_map, Nat.zero_add, Nat.add_zero, Nat.reduceAdd, Nat.reduceSub, Nat.reduceMul, Nat.reduceLeDiff, Nat.reduceEqDiff, List.replicate_succ, List.replicate_zero, List.cons_append, List.nil_append, List.append_nil, List.getElem?_cons_zero, List.getElem?_cons_succ, List.getElem?_nil, List.set_cons_zero, List.set_cons_succ, if_true, if_false, ite_true, ite_false, Bool.false_eq_true, Bool.not_true, Bool.not_false, Option.map_some, Option.map_none, reduceCtorEq, beq_self_eq_true, Nat.reduceBEq, Bool.or_true, Bool.or_false, Bool.true_or, Bool.false_or, Bool.and_true, Bool.and_false, Bool.true_and, Bool.false_and, reduceIte, decide_true, decide_false, lenLim, true_and, e_addi, e_adds, e_addt, e_addl, e_subi, e_muli, e_mult, e_mull, e_fdiv, e_mod, e_pow, e_neg, e_eq, e_ne, e_lti, e_ltt, e_lei, e_gti, e_gei, e_isn0, e_isb, e_isnn, e_isnb, e_in, e_nin, e_ixt, e_ixf, e_ixr, e_sqt, e_sqf, e_sqr, e_slt, e_slr, e_rvt, e_rvr, e_lnt, e_lnf, e_lns, e_lnr, e_len, e_tuple, e_list, e_inti, e_intb, e_abs, e_divmod, e_min2, e_max2, e_all, e_any, e_app, e_ext, e_rec, e_isnk, e_isbk, e_isik, e_issk, e_istk, e_isrk, e_tn, e_tb, e_ti, e_tt, e_tf, e_tr, e_sit, e_sif, e_sir, e_part, e_augA, e_augS, e_nn, e_nnb, e_nni, e_nns, e_nnt, e_nnf, e_nnr, e_tp, e_acons, e_anil]
      have key : ∃ t : Int, v = .int t ∧ 2 ≤ t ∧ t ≤ 1000 := by
        simp only [List.mem_cons, List.not_mem_nil, or_false] at hv
        rcases hv with rfl | rfl | rfl | rfl | rfl | rfl | rfl | rfl <;> exact ⟨_, rfl, by omega, by omega⟩
      obtain ⟨t, rfl, t1, t2⟩ := key
      try simp -implicitDefEqProofs -dsimp only [Wp_ok, Wp_no, Wp_er, Wp_bind, Wp_some, Wp_none, Wp_guard, Wp_iteB, runDef, dSeq2, dVar, dCon, dNil, dCons, dStar, dTup, dLst, dDct0, dBin, dNeg, dTru, dIf, dNotT, dBl, dBool, dAnd, dOr, dCmp, dCmp2, dIdx, dNoPart, dPart, dSlc, dRev, dCall, dBlt, dMet, dIsi, aNm, aSub, dItSeq, dItRng, dItRng2, dItEnu, dItZip, dItEnz, dNo, sExp, sAsg, setAll, sPar, sAug, sRet, sSeq, sNil, sCnt, sFor, wipeE, new, mtTy, tyHas, List.map_cons, List.map_nil, List.length_cons, List.length_nil, List.length_map, Nat.zero_add, Nat.add_zero, Nat.reduceAdd, Nat.reduceSub, Nat.reduceMul, Nat.reduceLeDiff, Nat.reduceEqDiff, List.replicate_succ, List.replicate_zero, List.cons_append, List.nil_append, List.append_nil, List.getElem?_cons_zero, List.getElem?_cons_succ, List.getElem?_nil, List.set_cons_zero, List.set_cons_succ, if_true, if_false, ite_true, ite_false, Bool.false_eq_true, Bool.not_true, Bool.not_false, Option.map_some, Option.map_none, reduceCtorEq, beq_self_eq_true, Nat.reduceBEq, Bool.or_true, Bool.or_false, Bool.true_or, Bool.false_or, Bool.and_true, Bool.and_false, Bool.true_and, Bool.false_and, reduceIte, decide_true, decide_false, lenLim, true_and, e_addi, e_adds, e_addt, e_addl, e_subi, e_muli, e_mult, e_mull, e_fdiv, e_mod, e_pow, e_neg, e_eq, e_ne, e_lti, e_ltt, e_lei, e_gti, e_gei, e_isn0, e_isb, e_isnn, e_isnb, e_in, e_nin, e_ixt, e_ixf, e_ixr, e_sqt, e_sqf, e_sqr, e_slt, e_slr, e_rvt, e_rvr, e_lnt, e_lnf, e_lns, e_lnr, e_len, e_tuple, e_list, e_inti, e_intb, e_abs, e_divmod, e_min2, e_max2, e_all, e_any, e_app, e_ext, e_rec, e_isnk, e_isbk, e_isik, e_issk, e_istk, e_isrk, e_tn, e_tb, e_ti, e_tt, e_tf, e_tr, e_sit, e_sif, e_sir, e_part, e_augA, e_augS, e_nn, e_nnb, e_nni, e_nns, e_nnt, e_nnf, e_nnr, e_tp, e_acons, e_anil]
      refine (f26_ok 91 r _ t S3 hd2 (by omega) t1 t2).then ?_
      rintro v S4 ⟨rfl, hd3, g3⟩
      simp -implicitDefEqProofs -dsimp only [Wp_ok, Wp_no, Wp_er, Wp_bind, Wp_some, Wp_none, Wp_guard, Wp_iteB, runDef, dSeq2, dVar, dCon, dNil, dCons, dStar, dTup, dLst, dDct0, dBin, dNeg, dTru, dIf, dNotT, dBl, dBool, dAnd, dOr, dCmp, dCmp2, dIdx, dNoPart, dPart, dSlc, dRev, dCall, dBlt, dMet, dIsi, aNm, aSub, dItSeq, dItRng, dItRng2, dItEnu, dItZip, dItEnz, dNo, sExp, sAsg, setAll, sPar, sAug, sRet, sSeq, sNil, sCnt, sFor, wipeE, new, mtTy, tyHas, List.map_cons, List.map_nil, List.length_cons, List.length_nil, List.length_map, Nat.zero_add, Nat.add_zero, Nat.reduceAdd, Nat.reduceSub, Nat.reduceMul, Nat.reduceLeDiff, Nat.reduceEqDiff, List.replicate_succ, List.replicate_zero, List.cons_append, List.nil_append, List.append_nil, List.getElem?_cons_zero, List.getElem?_cons_succ, List.getElem?_nil, List.set_cons_zero, List.set_cons_succ, if_true, if_false, ite_true, ite_false, Bool.false_eq_true, Bool.not_true, Bool.not_false, Option.map_some, Option.map_none, reduceCtorEq, beq_self_eq_true, Nat.reduceBEq, Bool.or_true, Bool.or_false, Bool.true_or, Bool.false_or, Bool.and_true, Bool.and_false, Bool.true_and, Bool.false_and, reduceIte, decide_true, decide_false, lenLim, true_and, e_addi, e_adds, e_addt, e_addl, e_subi, e_muli, e_mult, e_mull, e_fdiv, e_mod, e_pow, e_neg, e_eq, e_ne, e_lti, e_ltt, e_lei, e_gti, e_gei, e_isn0, e_isb, e_isnn, e_isnb, e_in, e_nin, e_ixt, e_ixf, e_ixr, e_sqt, e_sqf, e_sqr, e_slt, e_slr, e_rvt, e_rvr, e_lnt, e_lnf, e_lns, e_lnr, e_len, e_tuple, e_list, e_inti, e_intb, e_abs, e_divmod, e_min2, e_max2, e_all, e_any, e_app, e_ext, e_rec, e_isnk, e_isbk, e_isik, e_issk, e_istk, e_isrk, e_tn, e_tb, e_ti, e_tt, e_tf, e_tr, e_sit, e_sif, e_sir, e_part, e_augA, e_augS, e_nn, e_nnb, e_nni, e_nns, e_nnt, e_nnf, e_nnr, e_tp, e_acons, e_anil]
      refine (f27_ok 91 r _ t S4 hd3 (by omega) t1 t2).then ?_
      rintro v S5 ⟨rfl, hd4, g4⟩
      simp -implicitDefEqProofs -dsimp only [Wp_ok, Wp_no, Wp_er, Wp_bind, Wp_some, Wp_none, Wp_guard, Wp_iteB, runDef, dSeq2, dVar, dCon, dNil, dCons, dStar, dTup, dLst, dDct0, dBin, dNeg, dTru, dIf, dNotT, dBl, dBool, dAnd, dOr, dCmp, dCmp2, dIdx, dNoPart, dPart, dSlc, dRev, dCall, dBlt, dMet, dIsi, aNm, aSub, dItSeq, dItRng, dItRng2, dItEnu, dItZip, dItEnz, dNo, sExp, sAsg, setAll, sPar, sAug, sRet, sSeq, sNil, sCnt, sFor, wipeE, new, mtTy, tyHas, List.map_cons, List.map_nil, List.length_cons, List.length_nil, List.length_map, Nat.zero_add, Nat.add_zero, Nat.reduceAdd, Nat.reduceSub, Nat.reduceMul, Nat.reduceLeDiff, Nat.reduceEqDiff, List.replicate_succ, List.replicate_zero, List.cons_append, List.nil_append, List.append_nil, List.getElem?_cons_zero, List.getElem?_cons_succ, List.getElem?_nil, List.set_cons_zero, List.set_cons_succ, if_true, if_false, ite_true, ite_false, Bool.false_eq_true, Bool.not_true, Bool.not_false, Option.map_some, Option.map_none, reduceCtorEq, beq_self_eq_true, Nat.reduceBEq, Bool.or_true, Bool.or_false, Bool.true_or, Bool.false_or, Bool.and_true, Bool.and_false, Bool.true_and, Bool.false_and, reduceIte, decide_true, decide_false, lenLim, true_and, e_addi, e_adds, e_addt, e_addl, e_subi, e_muli, e_mult, e_mull, e_fdiv, e_mod, e_pow, e_neg, e_eq, e_ne, e_lti, e_ltt, e_lei, e_gti, e_gei, e_isn0, e_isb, e_isnn, e_isnb, e_in, e_nin, e_ixt, e_ixf, e_ixr, e_sqt, e_sqf, e_sqr, e_slt, e_slr, e_rvt, e_rvr, e_lnt, e_lnf, e_lns, e_lnr, e_len, e_tuple, e_list, e_inti, e_intb, e_abs, e_divmod, e_min2, e_max2, e_all, e_any, e_app, e_ext, e_rec, e_isnk, e_isbk, e_isik, e_issk, e_istk, e_isrk, e_tn, e_tb, e_ti, e_tt, e_tf, e_tr, e_sit, e_sif, e_sir, e_part, e_augA, e_augS, e_nn, e_nnb, e_nni, e_nns, e_nnt, e_nnf, e_nnr, e_tp, e_acons, e_anil]
      refine (f28_ok 91 r _ t S5 hd4 (by omega) t1 t2).then ?_
      rintro v S6 ⟨rfl, hd5, g5⟩
      simp -implicitDefEqProofs -dsimp only [Wp_ok, Wp_no, Wp_er, Wp_bind, Wp_some, Wp_none, Wp_guard, Wp_iteB, runDef, dSeq2, dVar, dCon, dNil, dCons, dStar, dTup, dLst, dDct0, dBin, dNeg, dTru, dIf, dNotT, dBl, dBool, dAnd, dOr, dCmp, dCmp2, dIdx, dNoPart, dPart, dSlc, dRev, dCall, dBlt, dMet, dIsi, aNm, aSub, dItSeq, dItRng, dItRng2, dItEnu, dItZip, dItEnz, dNo, sExp, sAsg, setAll, sPar, sAug, sRet, sSeq, sNil, sCnt, sFor, wipeE, new, mtTy, tyHas, List.map_cons, List.map_nil, List.length_cons, List.length_nil, List.length_map, Nat.zero_add, Nat.add_zero, Nat.reduceAdd, Nat.reduceSub, Nat.reduceMul, Nat.reduceLeDiff, Nat.reduceEqDiff, List.replicate_succ, List.replicate_zero, List.cons_append, List.nil_append, List.append_nil, List.getElem?_cons_zero, List.getElem?_cons_succ, List.getElem?_nil, List.set_cons_zero, List.set_cons_succ, if_true, if_false, ite_true, ite_false, Bool.false_eq_true, Bool.not_true, Bool.not_false, Option.map_some, Option.map_none, reduceCtorEq, beq_self_eq_true, Nat.reduceBEq, Bool.or_true, Bool.or_false, Bool.true_or, Bool.false_or, Bool.and_true, Bool.and_false, Bool.true_and, Bool.false_and, reduceIte, decide_true, decide_false, lenLim, true_and, e_addi, e_adds, e_addt, e_addl, e_subi, e_muli, e_mult, e_mull, e_fdiv, e_mod, e_pow, e_neg, e_eq, e_ne, e_lti, e_ltt, e_lei, e_gti, e_gei, e_isn0, e_isb, e_isnn, e_isnb, e_in, e_nin, e_ixt, e_ixf, e_ixr, e_sqt, e_sqf, e_sqr, e_slt, e_slr, e_rvt, e_rvr, e_lnt, e_lnf, e_lns, e_lnr, e_len, e_tuple, e_list, e_inti, e_intb, e_abs, e_divmod, e_min2, e_max2, e_all, e_any, e_app, e_ext, e_rec, e_isnk, e_isbk, e_isik, e_issk, e_istk, e_isrk, e_tn, e_tb, e_ti, e_tt, e_tf, e_tr, e_sit, e_sif, e_sir, e_part, e_augA, e_augS, e_nn, e_nnb, e_nni, e_nns, e_nnt, e_nnf, e_nnr, e_tp, e_acons, e_anil]
      exact ⟨by omega, hd5.le (by omega), _, _, _, rfl⟩
    · rintro env S2 ⟨hj, hd1, y1, y3, y4, rfl⟩
      exact ⟨_, _, _, _, rfl⟩
  · rintro env S ⟨x1, x2, x3, x4, rfl⟩
    simp -implicitDefEqProofs -dsimp only [Wp_ok, Wp_no, Wp_er, Wp_bind, Wp_some, Wp_none, Wp_guard, Wp_iteB, runDef, dSeq2, dVar, dCon, dNil, dCons, dStar, dTup, dLst, dDct0, dBin, dNeg, dTru, dIf, dNotT, dBl, dBool, dAnd, dOr, dCmp, dCmp2, dIdx, dNoPart, dPart, dSlc, dRev, dCall, dBlt, dMet, dIsi, aNm, aSub, dItSeq, dItRng, dItRng2, dItEnu, dItZip, dItEnz, dNo, sExp, sAsg, setAll, sPar, sAug, sRet, sSeq, sNil, sCnt, sFor, wipeE, new, mtTy, tyHas, List.map_cons, List.map_nil, List.length_cons, List.length_nil, List.length_map, Nat.zero_add, Nat.add_zero, Nat.reduceAdd, Nat.reduceSub, Nat.reduceMul, Nat.reduceLeDiff, Nat.reduceEqDiff, List.replicate_succ, List.replicate_zero, List.cons_append, List.nil_append, List.append_nil, List.getElem?_cons_zero, List.getElem?_cons_succ, List.getElem?_nil, List.set_cons_zero, List.set_cons_succ, if_true, if_false, ite_true, ite_false, Bool.false_eq_true, Bool.not_true, Bool.not_false, Option.map_some, Option.map_none, reduceCtorEq, beq_self_eq_true, Nat.reduceBEq, Bool.or_true, Bool.or_false, Bool.true_or, Bool.false_or, Bool.and_true, Bool.and_false, Bool.true_and, Bool.false_and, reduceIte, decide_true, decide_false, lenLim, true_and, e_addi, e_adds, e_addt, e_addl, e_subi, e_muli, e_mult, e_mull, e_fdiv, e_mod, e_pow, e_neg, e_eq, e_ne, e_lti, e_ltt, e_lei, e_gti, e_gei, e_isn0, e_isb, e_isnn, e_isnb, e_in, e_nin, e_ixt, e_ixf, e_ixr, e_sqt, e_sqf, e_sqr, e_slt, e_slr, e_rvt, e_rvr, e_lnt, e_lnf, e_lns, e_lnr, e_len, e_tuple, e_list, e_inti, e_intb, e_abs, e_divmod, e_min2, e_max2, e_all, e_any, e_app, e_ext, e_rec, e_isnk, e_isbk, e_isik, e_issk, e_istk, e_isrk, e_tn, e_tb, e_ti, e_tt, e_tf, e_tr, e_sit, e_sif, e_sir, e_part, e_augA, e_augS, e_nn, e_nnb, e_nni, e_nns, e_nnt, e_nnf, e_nnr, e_tp, e_acons, e_anil]
end L59
set_option maxHeartbeats 0
namespace L59
open PySem PySem.W PySem.Calls PySem.Spec PyProof.Rows L2 Pv
theorem facts59 (law : ∀ ns : List Int, ns.length ≤ 63 → ∃ S', callF Dd 100 lawNo [.frl (ns.map W.int)] [] = .ok (.bl true) S') : PySem.Challenge.rw_diskdoubt_k59_whole_pages.Holds := by
  w_on; o_law
  refine HandSHeadRun.head_any (r := OpenLaw.row PySem.Challenge.rw_diskdoubt_k59_whole_pages) (q := view (OpenLaw.row PySem.Challenge.rw_diskdoubt_k59_whole_pages).prog [lawAt]) (H := hk) (ob := ob) (M := 3000) (loose := loose) (d := HandSHeadRun.topDef (OpenLaw.row PySem.Challenge.rw_diskdoubt_k59_whole_pages).prog lawAt) (kwd := []) ob_eq
    (by kernel_rfl) (fun s => by kernel_rfl) run (by kernel_rfl) (by kernel_rfl) (by kernel_rfl) (by rfl) (by first | assumption | decide +kernel) (by decide +kernel) ⟨rfl, rfl, rfl, rfl, rfl, by decide +kernel⟩ ?hw ?hc
  case hw => w_witness2
  case hc =>
    refine end_of (l := PySem.Challenge.rw_diskdoubt_k59_whole_pages) (k := 100) (fl := lawNo) (dl := d29) (T := Tt) (gadF := gadOf dn) (ds := fun i => dn[i]?) (D := Dd) rfl (by kernel_rfl) ⟨rfl, by decide, by decide⟩ rfl rfl b29 ?F law
    intro w mg fa h Y G hmg0
    obtain ⟨K, KX, c⟩ := Y
    have hmg : mg ("law" : PySem.Str) = some (.ref fa) := by
      have e : (HandSHeadRun.topDef (OpenLaw.row PySem.Challenge.rw_diskdoubt_k59_whole_pages).prog lawAt).name = ("law" : PySem.Str) := by kernel_rfl
      rw [← e]
      exact hmg0
    have M := md_of KX G c bok dok
    refine ⟨K, KX, M, ?_⟩
    obtain ⟨d, h1, h2⟩ := M.fn "law" lawNo (by kernel_rfl)
    rw [hmg] at h2
    cases h2
    rfl
end L59
theorem PySem.Challenge.cw_diskdoubt_k59_whole_pages_holds : PySem.Challenge.rw_diskdoubt_k59_whole_pages.Holds := by
  exact L59.facts59 L59.law_ok
